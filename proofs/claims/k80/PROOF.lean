import PyProof.Rows.All
import Wide.All
import OpenK.AllK
import Wide.FinOn
import HandS.ForMost
import HandS.ForExc
import HandS.CallSlots
import HandS.Wide
import HandS.WideBits
import HandS.Style
import HandS.TupAny
import HandS.IsInst
import HandS.SortInts
import HandS.TupMul
import HandS.Zip
import HandS.TupLe
import HandS.Conv
import KE.GoesEnum
import KE.GoesMore
import HandS.SetFor
import HandS.Strs
import HandS.HeadHook1
import HandS.ExcOwn
import HandS.Defaults
import HandS.HeadHook2
import HandS.HeadEnd
import HandS.HeadHook4
import HandS.EndBits
import KE.KStateDown
import HandS.Head0
import HandS.Head1
import HandS.Head2
import PySem.Challenge.RW_walkstrides_k80_whole_growing_walks
set_option Elab.async false
set_option linter.all false
/-! DL0: a small language of data: its terms, its values, what a run of it gives. Plain Lean, no heap. -/
namespace DL
open PySem
/-- data; fn: a def of the table; cell: a list that may still change, by its place in the store -/
inductive D where
  | non | bl (b : Bool) | int (i : Int) | str (x : Str)
  | tup (xs : List D) | lst (xs : List D)
  | fn (n : Nat) | cell (k : Nat)
  /-- the script: a list that is only read -/
  | scr (is : List Int)
/-- st: 0 may change, 1 never again, 2 not now (it is walked) -/
structure Cell where
  st : Nat
  xs : List D
abbrev Store := List Cell
abbrev Env := List (Option D)
/-- an exception: which class of the text, what it bears -/
structure Exc where
  c : Nat
  pay : Option Int
/-- what a run gives: a value, an exception, or no word -/
inductive Rs (α : Type) where
  | ok (a : α) (μ : Store) | ex (e : Exc) (μ : Store) | no
def Rs.bind {α β : Type} (r : Rs α) (f : α → Store → Rs β) : Rs β := match r with
  | .ok a μ => f a μ
  | .ex e μ => .ex e μ
  | .no => .no
@[simp] theorem Rs.bind_ok {α β : Type} (a : α) (μ : Store) (f : α → Store → Rs β) : (Rs.ok a μ).bind f = f a μ := (rfl)
@[simp] theorem Rs.bind_ex {α β : Type} (e : Exc) (μ : Store) (f : α → Store → Rs β) : (Rs.ex e μ : Rs α).bind f = .ex e μ := (rfl)
@[simp] theorem Rs.bind_no {α β : Type} (f : α → Store → Rs β) : (Rs.no : Rs α).bind f = .no := (rfl)
theorem Rs.bind_assoc {α β γ : Type} (r : Rs α) (f : α → Store → Rs β) (g : β → Store → Rs γ) : (r.bind f).bind g = r.bind fun a μ => (f a μ).bind g := by cases r <;> rfl
/-- an exception is no word here -/
def Rs.calm {α : Type} (r : Rs α) : Rs α := match r with
  | .ok a μ => .ok a μ
  | _ => .no
@[simp] theorem Rs.calm_ok {α : Type} (a : α) (μ : Store) : (Rs.ok a μ).calm = .ok a μ := (rfl)
@[simp] theorem Rs.calm_no {α : Type} : (Rs.no : Rs α).calm = .no := (rfl)
def Rs.of {α : Type} (o : Option α) (μ : Store) : Rs α := match o with
  | some a => .ok a μ
  | none => .no
@[simp] theorem Rs.of_some {α : Type} (a : α) (μ : Store) : Rs.of (some a) μ = .ok a μ := (rfl)
@[simp] theorem Rs.of_none {α : Type} (μ : Store) : (Rs.of none μ : Rs α) = .no := (rfl)
inductive BI where
  | len | abs | max1 | max2 | min1 | min2 | sum | all | any | int | str | tuple | list | sorted | sortedset | lenset | lrng1 | lrng2 | tzip
  deriving DecidableEq
/-- terms; nl, cs: lists of terms -/
inductive PX where
  | nl | cs (e es : PX) | one (e : PX)
  | non | bl (b : Bool) | int (i : Int) | str (x : Str)
  | var (i : Nat) | fn (n : Nat)
  | bin (op : Operator) (a b : PX) | neg (a : PX) | not (a : PX) | and (a b : PX) | or (a b : PX)
  | cmp (op : CmpOp) (a b : PX) | chn (op op' : CmpOp) (a b c : PX) | ife (c a b : PX)
  | tup (es : PX) | lst (es : PX)
  | idx (a b : PX) | slc (a lo hi : PX) | sls (a s : PX)
  | isi (a : PX) (T : String)
  | call (f : Nat) (es : PX) | cv (i : Nat) (es : PX) | bi (b : BI) (es : PX)
  | new (e : PX) | frz (e : PX)
  | comp (own : List Nat) (elt tg it cnd : PX) | comp2 (own vs1 : List Nat) (elt tg it tg1 it1 : PX)
  | rng1 (a : PX) | rng2 (a b : PX) | zp (a b : PX) | enm (a : PX)
inductive SX where
  | skip | seq (a b : SX)
  | set (tg e : PX) | par (vs : List Nat) (es : PX) | sub (o i e : PX)
  | app (i : Nat) (e : PX) | ext (i : Nat) (e : PX)
  | exp (e : PX) | ret (e : PX) | retN
  | ife (c : PX) (a b : SX) | loop (tg it : PX) (body : SX) | whl (c : PX) (body : SX)
  | rse (c : Nat) | rsp (c : Nat) (e : PX) | brk | cnt
inductive Flow where
  | nx (ρ : Env) | ret (d : D) | brk (ρ : Env) | cnt (ρ : Env)
/-! ### data by itself -/
def listOf (μ : Store) : D → Option (List D)
  | .lst xs => some xs
  | .cell k => (μ[k]?).map (·.xs)
  | _ => none
def seqOf (μ : Store) : D → Option (List D)
  | .tup xs => some xs
  | .lst xs => some xs
  | .cell k => (μ[k]?).map (·.xs)
  | _ => none
def intOf : D → Option Int
  | .int i => some i
  | _ => none
def intsOf : List D → Option (List Int)
  | [] => some []
  | d :: r => match intOf d, intsOf r with
    | some i, some is => some (i :: is)
    | _, _ => none
def boolsOf : List D → Option (List Bool)
  | [] => some []
  | .bl b :: r => (boolsOf r).map (b :: ·)
  | _ :: _ => none
/-- a list is kept as it is from now on -/
def frz (d : D) (μ : Store) : Rs D := match d with
  | .cell k => match μ[k]? with
    | some c => .ok (.lst c.xs) (μ.set k ⟨1, c.xs⟩)
    | none => .no
  | d => .ok d μ
def frzs : List D → Store → Rs (List D)
  | [], μ => .ok [] μ
  | d :: r, μ => (frz d μ).bind fun d' μ1 => (frzs r μ1).bind fun r' μ2 => .ok (d' :: r') μ2
mutual
/-- data alone: no cell, no def in it -/
def dataD : D → Bool
  | .tup xs => dataL xs
  | .lst xs => dataL xs
  | .fn _ => false
  | .cell _ => false
  | .scr _ => false
  | .non => true
  | .bl _ => true
  | .int _ => true
  | .str _ => true
def dataL : List D → Bool
  | [] => true
  | x :: r => dataD x && dataL r
end
mutual
def toP : D → PyData
  | .non => .none
  | .bl b => .bool b
  | .int i => .int i
  | .str x => .str x
  | .tup xs => .tuple (toPL xs)
  | .lst xs => .list (toPL xs)
  | .fn _ => .none
  | .cell _ => .none
  | .scr _ => .none
def toPL : List D → List PyData
  | [] => []
  | x :: r => toP x :: toPL r
end
/-- a list by what it holds -/
def res (μ : Store) : D → Option D
  | .cell k => (μ[k]?).map fun c => .lst c.xs
  | d => some d
def okE (d : D) : Bool := dataD d && SeqAt.shaped (toP d)
def eqD (μ : Store) (x y : D) : Option Bool := match res μ x, res μ y with
  | some x, some y => if okE x && okE y then some (PyData.eqv (toP x) (toP y)) else none
  | _, _ => none
def small (i : Int) : Bool := decide (i.natAbs < 2 ^ 64)
def mulOk (i j : Int) : Bool := small i || small j || decide (i.natAbs.log2 + j.natAbs.log2 < 1000000)
def divOk (j : Int) : Bool := decide (j ≠ 0) && decide (j.natAbs < 1073741824)
def powOk (i j : Int) : Bool := decide (0 ≤ j) && decide (j ≤ 1000000) && small i
def repOk (k : Int) : Bool := decide (-(2 ^ 62) ≤ k) && decide (k < 2 ^ 24)
def repL (k : Int) (xs : List D) : List D := (List.replicate k.toNat xs).flatten
def fitL (xs : List D) : Option (List D) := if xs.length ≤ sizeLine then some xs else none
def binD (μ : Store) (op : Operator) (x y : D) : Option D := match op, x, y with
  | .Add, .int i, .int j => some (.int (i + j))
  | .Add, .str a, .str b => if a.length + b.length ≤ sizeLine then some (.str (a ++ b)) else none
  | .Add, .tup xs, .tup ys => (fitL (xs ++ ys)).map .tup
  | .Add, x, y => match listOf μ x, listOf μ y with
    | some xs, some ys => (fitL (xs ++ ys)).map .lst
    | _, _ => none
  | .Sub, .int i, .int j => some (.int (i - j))
  | .Mult, .int i, .int j => if mulOk i j then some (.int (i * j)) else none
  | .Mult, .tup xs, .int k => if repOk k then (fitL (repL k xs)).map .tup else none
  | .Mult, x, .int k => match listOf μ x with
    | some xs => if repOk k then (fitL (repL k xs)).map .lst else none
    | none => none
  | .FloorDiv, .int i, .int j => if divOk j then some (.int (i.fdiv j)) else none
  | .Mod, .int i, .int j => if j ≠ 0 then some (.int (i.fmod j)) else none
  | .Pow, .int i, .int j => if powOk i j then some (.int (i ^ j.toNat)) else none
  | .LShift, .int i, .int j => if powOk i j then some (.int (i * 2 ^ j.toNat)) else none
  | _, _, _ => none
/-- for a new list of one's own -/
def binL (μ : Store) (op : Operator) (x y : D) : Option (List D) := match op with
  | .Add => match listOf μ x, listOf μ y with
    | some xs, some ys => fitL (xs ++ ys)
    | _, _ => none
  | .Mult => match listOf μ x, y with
    | some xs, .int k => if repOk k then fitL (repL k xs) else none
    | _, _ => none
  | _ => none
def flatD : D → Bool
  | .non => true
  | .bl _ => true
  | .int _ => true
  | .str _ => true
  | _ => false
def inD (μ : Store) (x y : D) : Option Bool := match seqOf μ y with
  | some xs => if flatD x && xs.all flatD then some (xs.any fun z => PyData.eqv (toP z) (toP x)) else none
  | none => none
def isNon : D → Bool
  | .non => true
  | _ => false
def cmpD (μ : Store) (op : CmpOp) (x y : D) : Option Bool := match op with
  | .Eq => eqD μ x y
  | .NotEq => (eqD μ x y).map (!·)
  | .Lt => match x, y with
    | .int i, .int j => some (decide (i < j))
    | _, _ => none
  | .LtE => match x, y with
    | .int i, .int j => some (decide (i ≤ j))
    | _, _ => none
  | .Gt => match x, y with
    | .int i, .int j => some (decide (j < i))
    | _, _ => none
  | .GtE => match x, y with
    | .int i, .int j => some (decide (j ≤ i))
    | _, _ => none
  | .In => inD μ x y
  | .NotIn => (inD μ x y).map (!·)
  | .Is => match y with
    | .non => some (isNon x)
    | .bl b => match x with
      | .bl a => some (decide (a = b))
      | _ => none
    | _ => none
  | .IsNot => match y with
    | .non => some (!isNon x)
    | .bl b => match x with
      | .bl a => some (!decide (a = b))
      | _ => none
    | _ => none
def idxD (μ : Store) (x y : D) : Option D := match seqOf μ x, y with
  | some xs, .int i => L2.atI xs i
  | _, _ => none
/-- xs[lo:hi] -/
def cutD (xs : List D) (lo hi : Option Int) : List D := (xs.drop (HT.sIx xs.length 0 lo)).take (HT.sIx xs.length xs.length hi - HT.sIx xs.length 0 lo)
def slcD (μ : Store) (x : D) (lo hi : Option Int) : Option D := match x with
  | .tup xs => some (.tup (cutD xs lo hi))
  | x => (listOf μ x).map fun xs => .lst (cutD xs lo hi)
def slcL (μ : Store) (x : D) (lo hi : Option Int) : Option (List D) := (listOf μ x).map fun xs => cutD xs lo hi
def slsX (k : Int) (xs : List D) : Option (List D) := if k = -1 then some xs.reverse else none
def slsD (μ : Store) (x : D) (s : D) : Option D := match s with
  | .int k => match x with
    | .tup xs => (slsX k xs).map .tup
    | x => match listOf μ x with
      | some xs => (slsX k xs).map .lst
      | none => none
  | _ => none
def tyD : D → Option String
  | .non => some "NoneType"
  | .bl _ => some "bool"
  | .int _ => some "int"
  | .str _ => some "str"
  | .tup _ => some "tuple"
  | .lst _ => some "list"
  | .cell _ => some "list"
  | .fn _ => none
  | .scr _ => none
def isiD (d : D) (T : String) : Option Bool := match tyD d with
  | some t => if T = "int" then some (t == "int" || t == "bool") else if T = "bool" ∨ T = "str" ∨ T = "tuple" ∨ T = "list" then some (t == T) else none
  | none => none
def ins (i : Int) : List Int → List Int
  | [] => [i]
  | j :: r => if i ≤ j then i :: j :: r else j :: ins i r
def srt : List Int → List Int
  | [] => []
  | i :: r => ins i (srt r)
/-- one of each -/
def insU (i : Int) : List Int → List Int
  | [] => [i]
  | j :: r => if i < j then i :: j :: r else if i = j then j :: r else j :: insU i r
def srtU : List Int → List Int
  | [] => []
  | i :: r => insU i (srtU r)
def maxI : Int → List Int → Int
  | m, [] => m
  | m, i :: r => maxI (if m < i then i else m) r
def minI : Int → List Int → Int
  | m, [] => m
  | m, i :: r => minI (if i < m then i else m) r
def rngL (lo hi : Int) : List D := (List.range (hi - lo).toNat).map fun i => .int (lo + (i : Nat))
def rngOk (lo hi : Int) : Bool := decide (-(2 ^ 62) ≤ lo) && decide (lo < 2 ^ 62) && decide (-(2 ^ 62) ≤ hi) && decide (hi < 2 ^ 62)
def zipL : List D → List D → List D
  | x :: xs, y :: ys => .tup [x, y] :: zipL xs ys
  | _, _ => []
def enmL : Nat → List D → List D
  | _, [] => []
  | n, x :: xs => .tup [.int n, x] :: enmL (n + 1) xs
def intsIn (μ : Store) (x : D) : Option (List Int) := match listOf μ x with
  | some xs => intsOf xs
  | none => none
def intsSq (μ : Store) (x : D) : Option (List Int) := match seqOf μ x with
  | some xs => match intsOf xs with
    | some is => if is.length < 64 then some is else none
    | none => none
  | none => none
/-- a new list by a built-in -/
def biL (μ : Store) (b : BI) (ds : List D) : Option (List D) := match b, ds with
  | .list, [x] => match x with
    | .scr is => some (is.map .int)
    | x => seqOf μ x
  | .sorted, [x] => match listOf μ x with
    | some xs => (intsOf xs).map fun is => (srt is).map .int
    | none => none
  | .sortedset, [x] => (intsSq μ x).map fun is => (srtU is).map .int
  | .lrng1, [.int j] => if rngOk 0 j then fitL (rngL 0 j) else none
  | .lrng2, [.int i, .int j] => if rngOk i j then fitL (rngL i j) else none
  | _, _ => none
def biD (μ : Store) (b : BI) (ds : List D) : Option D := match b, ds with
  | .len, [x] => match x with
    | .str z => if z.length ≤ sizeLine then some (.int z.length) else none
    | x => (seqOf μ x).map fun xs => .int xs.length
  | .abs, [.int i] => some (.int (if i < 0 then -i else i))
  | .max2, [.int i, .int j] => some (.int (if j > i then j else i))
  | .min2, [.int i, .int j] => some (.int (if j < i then j else i))
  | .max1, [x] => match intsIn μ x with
    | some (i :: r) => some (.int (maxI i r))
    | _ => none
  | .min1, [x] => match intsIn μ x with
    | some (i :: r) => some (.int (minI i r))
    | _ => none
  | .sum, [x] => (intsIn μ x).map fun is => .int is.sum
  | .all, [x] => match listOf μ x with
    | some xs => (boolsOf xs).map fun bs => .bl (bs.all id)
    | none => none
  | .any, [x] => match listOf μ x with
    | some xs => (boolsOf xs).map fun bs => .bl (bs.any id)
    | none => none
  | .int, [.int i] => some (.int i)
  | .str, [.int i] => if i.natAbs.log2 < 1920 then some (.str (toString i)) else none
  | .tuple, [x] => (seqOf μ x).map .tup
  | .lenset, [x] => (intsSq μ x).map fun is => .int (srtU is).length
  | .list, ds => (biL μ .list ds).map .lst
  | .sorted, ds => (biL μ .sorted ds).map .lst
  | .sortedset, ds => (biL μ .sortedset ds).map .lst
  | .lrng1, ds => (biL μ .lrng1 ds).map .lst
  | .lrng2, ds => (biL μ .lrng2 ds).map .lst
  | _, _ => none
/-! ### the store -/
def wipe (ρ : Env) : List Nat → Env
  | [] => ρ
  | v :: vs => (wipe ρ vs).set v none
mutual
/-- names and tuples of names take a value -/
def asg : PX → D → Env → Option Env
  | .var i, d, ρ => if i < ρ.length then some (ρ.set i (some d)) else none
  | .tup es, d, ρ => match d with
    | .tup xs => asgs es xs ρ
    | _ => none
  | _, _, _ => none
def asgs : PX → List D → Env → Option Env
  | .nl, [], ρ => some ρ
  | .cs e es, d :: ds, ρ => match asg e d ρ with
    | some ρ1 => asgs es ds ρ1
    | none => none
  | _, _, _ => none
end
def setSt (μ : Store) (k st : Nat) : Store := match μ[k]? with
  | some c => μ.set k ⟨st, c.xs⟩
  | none => μ
/-- the list that is walked is locked: which one, if it may change -/
def lockOf (μ : Store) : D → Option Nat
  | .cell k => match μ[k]? with
    | some ⟨0, _⟩ => some k
    | _ => none
  | _ => none
def locked (μ : Store) : Option Nat → Store
  | some k => setSt μ k 2
  | none => μ
def unlocked (μ : Store) : Option Nat → Store
  | some k => match μ[k]? with
    | some ⟨2, xs⟩ => μ.set k ⟨0, xs⟩
    | _ => μ
  | none => μ
theorem locked_some {μ : Store} {k : Nat} {c : Cell} (h : μ[k]? = some c) : locked μ (some k) = μ.set k ⟨2, c.xs⟩ := by simp [locked, setSt, h]
theorem unlocked_two {μ : Store} {k : Nat} {xs : List D} (h : μ[k]? = some ⟨2, xs⟩) : unlocked μ (some k) = μ.set k ⟨0, xs⟩ := by simp [unlocked, h]
theorem unlocked_ne {μ : Store} {k : Nat} {c : Cell} (h : μ[k]? = some c) (hc : c.st ≠ 2) : unlocked μ (some k) = μ := by
  obtain ⟨st, xs⟩ := c
  simp only [unlocked, h]
  split
  · rename_i z
    cases z
    exact absurd rfl hc
  · rfl
theorem lockOf_zero {μ : Store} {k : Nat} {xs : List D} (h : μ[k]? = some ⟨0, xs⟩) : lockOf μ (.cell k) = some k := by simp [lockOf, h]
theorem lockOf_ne {μ : Store} {k : Nat} {c : Cell} (h : μ[k]? = some c) (hc : c.st ≠ 0) : lockOf μ (.cell k) = none := by
  obtain ⟨st, xs⟩ := c
  simp only [lockOf, h]
  split
  · rename_i z
    cases z
    exact absurd rfl hc
  · rfl
def Rs.un {α : Type} (lk : Option Nat) (r : Rs α) : Rs α := match r with
  | .ok a μ => .ok a (unlocked μ lk)
  | .ex e μ => .ex e (unlocked μ lk)
  | .no => .no
/-- items that are walked: what they are, which list is locked -/
abbrev Its := List D × Option Nat
def optCons : Option D → List D → List D
  | some d, r => d :: r
  | none, r => r
def compL (f : D → Store → Rs (Option D)) : List D → Store → Rs (List D)
  | [], μ => .ok [] μ
  | x :: xs, μ => (f x μ).bind fun o μ1 => (compL f xs μ1).bind fun r μ2 => .ok (optCons o r) μ2
def compLL (f : D → Store → Rs (List D)) : List D → Store → Rs (List D)
  | [], μ => .ok [] μ
  | x :: xs, μ => (f x μ).bind fun o μ1 => (compLL f xs μ1).bind fun r μ2 => .ok (o ++ r) μ2
def fitR (r : Rs (List D)) : Rs (List D) := r.bind fun xs μ => if xs.length ≤ sizeLine then .ok xs μ else .no
/-- a comprehension's list -/
def compR (its : Rs Its) (f : D → Store → Rs (Option D)) : Rs (List D) := its.bind fun p μ1 => (fitR (compL f p.1 (locked μ1 p.2)).calm).un p.2
def compRR (its : Rs Its) (f : D → Store → Rs (List D)) : Rs (List D) := its.bind fun p μ1 => (fitR (compLL f p.1 (locked μ1 p.2)).calm).un p.2
/-- the element that is kept -/
def keepE (r : Rs D) : Rs (Option D) := r.bind fun d μ5 => (frz d μ5).bind fun d' μ6 => .ok (some d') μ6
def mkL (r : Rs (List D)) : Rs (List D) := r.bind fun ds μ1 => (frzs ds μ1).bind fun xs μ2 => Rs.of (fitL xs) μ2
def onB {α : Type} (f : Bool → Store → Rs α) (d : D) (μ : Store) : Rs α := match d with
  | .bl b => f b μ
  | _ => .no
@[simp] theorem onB_bl {α : Type} (f : Bool → Store → Rs α) (b : Bool) (μ : Store) : onB f (.bl b) μ = f b μ := (rfl)
def asB (d : D) (μ : Store) : Rs Bool := onB (fun b μ => .ok b μ) d μ
@[simp] theorem asB_bl (b : Bool) (μ : Store) : asB (.bl b) μ = .ok b μ := (rfl)
abbrev Calls := Nat → List D → Store → Rs D
mutual
def ev (cl : Calls) (e : PX) (ρ : Env) (μ : Store) : Rs D := match e, ρ, μ with
  | .non, _, μ => .ok .non μ
  | .bl b, _, μ => .ok (.bl b) μ
  | .int i, _, μ => .ok (.int i) μ
  | .str x, _, μ => .ok (.str x) μ
  | .var i, ρ, μ => match ρ[i]? with
    | some (some d) => .ok d μ
    | _ => .no
  | .fn n, _, μ => .ok (.fn n) μ
  | .bin op a b, ρ, μ => (ev cl a ρ μ).bind fun x μ1 => (ev cl b ρ μ1).bind fun y μ2 => Rs.of (binD μ2 op x y) μ2
  | .neg a, ρ, μ => (ev cl a ρ μ).bind fun x μ1 => match x with
    | .int i => .ok (.int (-i)) μ1
    | _ => .no
  | .not a, ρ, μ => (ev cl a ρ μ).bind (onB fun b μ1 => .ok (.bl (!b)) μ1)
  | .and a b, ρ, μ => (ev cl a ρ μ).bind (onB fun c μ1 => if c = true then ev cl b ρ μ1 else .ok (.bl false) μ1)
  | .or a b, ρ, μ => (ev cl a ρ μ).bind (onB fun c μ1 => if c = true then .ok (.bl true) μ1 else ev cl b ρ μ1)
  | .cmp op a b, ρ, μ => (ev cl a ρ μ).bind fun x μ1 => (ev cl b ρ μ1).bind fun y μ2 => Rs.of ((cmpD μ2 op x y).map .bl) μ2
  | .chn op op' a b c, ρ, μ => (ev cl a ρ μ).bind fun x μ1 => (ev cl b ρ μ1).bind fun y μ2 => (Rs.of (cmpD μ2 op x y) μ2).bind fun k μ3 =>
      if k = true then (ev cl c ρ μ3).bind fun z μ4 => Rs.of ((cmpD μ4 op' y z).map .bl) μ4 else .ok (.bl false) μ3
  | .ife c a b, ρ, μ => (ev cl c ρ μ).bind (onB fun k μ1 => if k = true then ev cl a ρ μ1 else ev cl b ρ μ1)
  | .tup es, ρ, μ => (evs cl es ρ μ).bind fun ds μ1 => (frzs ds μ1).bind fun xs μ2 => Rs.of ((fitL xs).map .tup) μ2
  | .lst es, ρ, μ => (mkL (evs cl es ρ μ)).bind fun xs μ1 => .ok (.lst xs) μ1
  | .idx a b, ρ, μ => (ev cl a ρ μ).bind fun x μ1 => (ev cl b ρ μ1).bind fun y μ2 => Rs.of (idxD μ2 x y) μ2
  | .slc a lo hi, ρ, μ => (ev cl a ρ μ).bind fun x μ1 => (evO cl lo ρ μ1).bind fun l μ2 => (evO cl hi ρ μ2).bind fun h μ3 => Rs.of (slcD μ3 x l h) μ3
  | .sls a s, ρ, μ => (ev cl a ρ μ).bind fun x μ1 => (ev cl s ρ μ1).bind fun y μ2 => Rs.of (slsD μ2 x y) μ2
  | .isi a T, ρ, μ => (ev cl a ρ μ).bind fun x μ1 => Rs.of ((isiD x T).map .bl) μ1
  | .call f es, ρ, μ => (evs cl es ρ μ).bind fun ds μ1 => cl f ds μ1
  | .cv i es, ρ, μ => match ρ[i]? with
    | some (some (.fn f)) => (evs cl es ρ μ).bind fun ds μ1 => cl f ds μ1
    | _ => .no
  | .bi b es, ρ, μ => (evs cl es ρ μ).bind fun ds μ1 => Rs.of (biD μ1 b ds) μ1
  | .new e, ρ, μ => (evL cl e ρ μ).bind fun xs μ1 => .ok (.cell μ1.length) (μ1 ++ [⟨0, xs⟩])
  | .frz e, ρ, μ => (ev cl e ρ μ).bind fun d μ1 => frz d μ1
  | .comp own elt tg it cnd, ρ, μ => (compR (evI cl it ρ μ) (fun x μ2 => (Rs.of (asg tg x (wipe ρ own)) μ2).bind fun ρ1 μ3 => (evC cl cnd ρ1 μ3).bind fun c μ4 =>
      if c = true then keepE (ev cl elt ρ1 μ4) else .ok none μ4)).bind fun xs μ1 => .ok (.lst xs) μ1
  | .comp2 own vs1 elt tg it tg1 it1, ρ, μ => (compRR (evI cl it ρ μ) (fun x μ2 => (Rs.of (asg tg x (wipe ρ own)) μ2).bind fun ρ1 μ3 => (evI cl it1 ρ1 μ3).bind fun q μ4 =>
      (compL (fun y μ5 => (Rs.of (asg tg1 y (wipe ρ1 vs1)) μ5).bind fun ρ2 μ6 => keepE (ev cl elt ρ2 μ6)) q.1 (locked μ4 q.2)).un q.2)).bind fun xs μ1 => .ok (.lst xs) μ1
  | _, _, _ => .no
termination_by structural e
def evs (cl : Calls) (e : PX) (ρ : Env) (μ : Store) : Rs (List D) := match e, ρ, μ with
  | .nl, _, μ => .ok [] μ
  | .cs e es, ρ, μ => (ev cl e ρ μ).bind fun d μ1 => (evs cl es ρ μ1).bind fun ds μ2 => .ok (d :: ds) μ2
  | _, _, _ => .no
termination_by structural e
/-- a part of a slice: nl where it is left out -/
def evO (cl : Calls) (e : PX) (ρ : Env) (μ : Store) : Rs (Option Int) := match e, ρ, μ with
  | .nl, _, μ => .ok none μ
  | .one e, ρ, μ => (ev cl e ρ μ).bind fun d μ1 => match d with
    | .int i => .ok (some i) μ1
    | _ => .no
  | _, _, _ => .no
termination_by structural e
/-- a new list -/
def evL (cl : Calls) (e : PX) (ρ : Env) (μ : Store) : Rs (List D) := match e, ρ, μ with
  | .lst es, ρ, μ => mkL (evs cl es ρ μ)
  | .bin op a b, ρ, μ => (ev cl a ρ μ).bind fun x μ1 => (ev cl b ρ μ1).bind fun y μ2 => Rs.of (binL μ2 op x y) μ2
  | .slc a lo hi, ρ, μ => (ev cl a ρ μ).bind fun x μ1 => (evO cl lo ρ μ1).bind fun l μ2 => (evO cl hi ρ μ2).bind fun h μ3 => Rs.of (slcL μ3 x l h) μ3
  | .bi b es, ρ, μ => (evs cl es ρ μ).bind fun ds μ1 => Rs.of (biL μ1 b ds) μ1
  | .ife c a b, ρ, μ => (ev cl c ρ μ).bind (onB fun k μ1 => if k = true then evL cl a ρ μ1 else evL cl b ρ μ1)
  | .comp own elt tg it cnd, ρ, μ => compR (evI cl it ρ μ) (fun x μ2 => (Rs.of (asg tg x (wipe ρ own)) μ2).bind fun ρ1 μ3 => (evC cl cnd ρ1 μ3).bind fun c μ4 =>
      if c = true then keepE (ev cl elt ρ1 μ4) else .ok none μ4)
  | .comp2 own vs1 elt tg it tg1 it1, ρ, μ => compRR (evI cl it ρ μ) (fun x μ2 => (Rs.of (asg tg x (wipe ρ own)) μ2).bind fun ρ1 μ3 => (evI cl it1 ρ1 μ3).bind fun q μ4 =>
      (compL (fun y μ5 => (Rs.of (asg tg1 y (wipe ρ1 vs1)) μ5).bind fun ρ2 μ6 => keepE (ev cl elt ρ2 μ6)) q.1 (locked μ4 q.2)).un q.2)
  | _, _, _ => .no
termination_by structural e
/-- a comprehension's test: nl where there is none -/
def evC (cl : Calls) (e : PX) (ρ : Env) (μ : Store) : Rs Bool := match e, ρ, μ with
  | .nl, _, μ => .ok true μ
  | .one e, ρ, μ => (ev cl e ρ μ).bind asB
  | _, _, _ => .no
termination_by structural e
/-- what is walked -/
def evI (cl : Calls) (e : PX) (ρ : Env) (μ : Store) : Rs Its := match e, ρ, μ with
  | .rng1 a, ρ, μ => (ev cl a ρ μ).bind fun x μ1 => match x with
    | .int j => if rngOk 0 j then .ok (rngL 0 j, none) μ1 else .no
    | _ => .no
  | .rng2 a b, ρ, μ => (ev cl a ρ μ).bind fun x μ1 => (ev cl b ρ μ1).bind fun y μ2 => match x, y with
    | .int i, .int j => if rngOk i j then .ok (rngL i j, none) μ2 else .no
    | _, _ => .no
  | .zp a b, ρ, μ => (ev cl a ρ μ).bind fun x μ1 => (ev cl b ρ μ1).bind fun y μ2 => match x, y with
    | .tup xs, .tup ys => .ok (zipL xs ys, none) μ2
    | .lst xs, .lst ys => .ok (zipL xs ys, none) μ2
    | _, _ => .no
  | .enm a, ρ, μ => (ev cl a ρ μ).bind fun x μ1 => match x with
    | .lst xs => .ok (enmL 0 xs, none) μ1
    | .tup xs => .ok (enmL 0 xs, none) μ1
    | _ => .no
  | .one e, ρ, μ => (ev cl e ρ μ).bind fun x μ1 => match seqOf μ1 x with
    | some xs => .ok (xs, lockOf μ1 x) μ1
    | none => .no
  | _, _, _ => .no
termination_by structural e
end
def pars : List Nat → List D → Env → Option Env
  | [], [], ρ => some ρ
  | i :: is, d :: ds, ρ => if i < ρ.length then pars is ds (ρ.set i (some d)) else none
  | _, _, _ => none
def loopL (f : D → Env → Store → Rs Flow) : List D → Env → Store → Rs Flow
  | [], ρ, μ => .ok (.nx ρ) μ
  | x :: xs, ρ, μ => (f x ρ μ).bind fun fl μ1 => match fl with
    | .nx ρ1 => loopL f xs ρ1 μ1
    | .cnt ρ1 => loopL f xs ρ1 μ1
    | .brk ρ1 => .ok (.nx ρ1) μ1
    | .ret d => .ok (.ret d) μ1
def whileL (c : Env → Store → Rs Bool) (f : Env → Store → Rs Flow) : Nat → Env → Store → Rs Flow
  | 0, _, _ => .no
  | n + 1, ρ, μ => (c ρ μ).bind fun b μ1 => if b = true then (f ρ μ1).bind fun fl μ2 => match fl with
    | .nx ρ1 => whileL c f n ρ1 μ2
    | .cnt ρ1 => whileL c f n ρ1 μ2
    | .brk ρ1 => .ok (.nx ρ1) μ2
    | .ret d => .ok (.ret d) μ2 else .ok (.nx ρ) μ1
/-- turns of a while at most -/
def turns : Nat := 2 ^ 64
/-- a list that may change now -/
def mutOf (μ : Store) (k : Nat) : Option (List D) := match μ[k]? with
  | some c => if c.st = 0 then some c.xs else none
  | none => none
theorem mutOf_some {μ : Store} {k : Nat} {xs : List D} : mutOf μ k = some xs ↔ μ[k]? = some ⟨0, xs⟩ := by
  unfold mutOf
  cases h : μ[k]? with
  | none => simp
  | some c =>
    obtain ⟨st, ys⟩ := c
    by_cases hs : st = 0
    · subst hs
      simp
    · simp [hs]
def setD (μ : Store) (o i d : D) : Option Store := match o, i with
  | .cell k, .int j => match mutOf μ k with
    | some xs => (L2.ixN xs.length j).map fun m => μ.set k ⟨0, xs.set m d⟩
    | none => none
  | _, _ => none
def exs (cl : Calls) : SX → Env → Store → Rs Flow
  | .skip, ρ, μ => .ok (.nx ρ) μ
  | .seq a b, ρ, μ => (exs cl a ρ μ).bind fun fl μ1 => match fl with
    | .nx ρ1 => exs cl b ρ1 μ1
    | fl => .ok fl μ1
  | .set tg e, ρ, μ => (ev cl e ρ μ).bind fun d μ1 => (Rs.of (asg tg d ρ) μ1).bind fun ρ1 μ2 => .ok (.nx ρ1) μ2
  | .par vs es, ρ, μ => (evs cl es ρ μ).bind fun ds μ1 => (Rs.of (pars vs ds ρ) μ1).bind fun ρ1 μ2 => .ok (.nx ρ1) μ2
  | .sub o i e, ρ, μ => (ev cl e ρ μ).bind fun d μ1 => (frz d μ1).bind fun d' μ2 => (ev cl o ρ μ2).bind fun x μ3 => (ev cl i ρ μ3).bind fun y μ4 => match setD μ4 x y d' with
    | some μ5 => .ok (.nx ρ) μ5
    | none => .no
  | .app i e, ρ, μ => match ρ[i]? with
    | some (some (.cell k)) => (ev cl e ρ μ).bind fun d μ1 => (frz d μ1).bind fun d' μ2 => match mutOf μ2 k with
      | some xs => if xs.length < sizeLine then .ok (.nx ρ) (μ2.set k ⟨0, xs ++ [d']⟩) else .no
      | none => .no
    | _ => .no
  | .ext i e, ρ, μ => match ρ[i]? with
    | some (some (.cell k)) => (ev cl e ρ μ).bind fun d μ1 => match d, mutOf μ1 k with
      | .lst ys, some xs => if xs.length + ys.length ≤ sizeLine then .ok (.nx ρ) (μ1.set k ⟨0, xs ++ ys⟩) else .no
      | _, _ => .no
    | _ => .no
  | .exp e, ρ, μ => (ev cl e ρ μ).bind fun _ μ1 => .ok (.nx ρ) μ1
  | .ret e, ρ, μ => (ev cl e ρ μ).bind fun d μ1 => .ok (.ret d) μ1
  | .retN, _, μ => .ok (.ret .non) μ
  | .ife c a b, ρ, μ => (ev cl c ρ μ).bind (onB fun k μ1 => if k = true then exs cl a ρ μ1 else exs cl b ρ μ1)
  | .loop tg it body, ρ, μ => (evI cl it ρ μ).bind fun p μ1 => (loopL (fun x ρ1 μ2 => (Rs.of (asg tg x ρ1) μ2).bind fun ρ2 μ3 => exs cl body ρ2 μ3) p.1 ρ (locked μ1 p.2)).un p.2
  | .whl c body, ρ, μ => whileL (fun ρ1 μ1 => (ev cl c ρ1 μ1).bind asB) (fun ρ1 μ1 => exs cl body ρ1 μ1) turns ρ μ
  | .rse c, _, μ => .ex ⟨c, none⟩ μ
  | .rsp c e, ρ, μ => (ev cl e ρ μ).bind fun d μ1 => match d with
    | .int i => .ex ⟨c, some i⟩ μ1
    | _ => .no
  | .brk, ρ, μ => .ok (.brk ρ) μ
  | .cnt, ρ, μ => .ok (.cnt ρ) μ
/-! ### defs -/
structure Fn where
  np : Nat
  ns : Nat
  /-- the list that is returned may be changed by the caller -/
  own : Bool
  body : SX
/-- a def's end: n lists stood ahead of it -/
def leave (own : Bool) (n : Nat) (r : Rs Flow) : Rs D := match r with
  | .ok (.nx _) μ => .ok .non (μ.take n)
  | .ok (.ret d) μ => match d with
    | .cell k => if k < n then .ok (.cell k) (μ.take n) else match μ[k]? with
      | some c => if own = true then (if c.st = 0 then .ok (.cell n) (μ.take n ++ [⟨0, c.xs⟩]) else .no) else .ok (.lst c.xs) (μ.take n)
      | none => .no
    | d => .ok d (μ.take n)
  | .ok _ _ => .no
  | .ex e μ => .ex e (μ.take n)
  | .no => .no
def run (tbl : List Fn) : Nat → Calls
  | 0, _, _, _ => .no
  | n + 1, f, ds, μ => match tbl[f]? with
    | none => .no
    | some F => if ds.length = F.np then leave F.own μ.length (exs (run tbl n) F.body (ds.map some ++ List.replicate (F.ns - F.np) none) μ) else .no
def isTrueR (r : Rs D) : Bool := match r with
  | .ok (.bl true) _ => true
  | _ => false
end DL
set_option maxRecDepth 100000
set_option maxHeartbeats 1000000
/-! DL1: what a state of data says of slots and heap. -/
namespace DL
open PySem PySem.Spec PyProof.Rows L2
/-- a state of data beside a heap: which lists never change again, where the store's lists lie -/
structure Wd where
  F : Addr → Prop
  cs : List Addr
  μ : Store
  H : Hp
/-- what is fixed: the written part, where the defs and the exceptions' classes lie, what else is known of the heap -/
structure Gr where
  K : PySem.W.Frag
  fa : Nat → Addr
  ea : Nat → Addr
  J : Hp → Prop
  jj : ∀ H H', (∀ a o, H a = some o → (∀ xs, o ≠ .lst xs) → H' a = some o) → J H → J H'
def KL (K : PySem.W.Frag) (a : Addr) (xs : List V) : Prop :=
  ∃ (o : Obj) (its : Array Value) (n : Nat), K.lookup a = some o ∧ o.cls = .type "list" ∧ o.dict = none ∧ o.data = .seq its n ∧ its.size ≤ sizeLine ∧ Vals xs its.toList
def TupAt (K : PySem.W.Frag) (H : Hp) (a : Addr) (xs : List V) : Prop := H a = some (.tup xs) ∨
  ∃ (o : Obj) (its : Array Value) (n : Nat), K.lookup a = some o ∧ o.cls = .type "tuple" ∧ o.data = .seq its n ∧ its.size ≤ sizeLine ∧ Vals xs its.toList
theorem TupAt.sq {K : PySem.W.Frag} {H : Hp} {a : Addr} {xs : List V} (h : TupAt K H a xs) : SqT K H a xs := h.imp .inl id
mutual
inductive Rp (G : Gr) (F : Addr → Prop) (H : Hp) : D → V → Prop
  | non : Rp G F H .non .non
  | bl (b : Bool) : Rp G F H (.bl b) (.bl b)
  | int (i : Int) : Rp G F H (.int i) (.int i)
  | str (x : Str) : Rp G F H (.str x) (.str x)
  | fn (n : Nat) : Rp G F H (.fn n) (.ref (G.fa n))
  | tup {a : Addr} {vs : List V} {ds : List D} : TupAt G.K H a vs → RpL G F H ds vs → Rp G F H (.tup ds) (.ref a)
  | lst {a : Addr} {vs : List V} {ds : List D} : F a ∧ H a = some (.lst vs) → RpL G F H ds vs → Rp G F H (.lst ds) (.ref a)
  | scr {a : Addr} {is : List Int} : (∃ o, H a = some (.frz o (.lst (is.map V.int)))) ∨ KL G.K a (is.map V.int) → Rp G F H (.scr is) (.ref a)
inductive RpL (G : Gr) (F : Addr → Prop) (H : Hp) : List D → List V → Prop
  | nil : RpL G F H [] []
  | cons {d : D} {ds : List D} {v : V} {vs : List V} : Rp G F H d v → RpL G F H ds vs → RpL G F H (d :: ds) (v :: vs)
end
section
variable {G : Gr} {F F' : Addr → Prop} {H H' : Hp}
mutual
theorem Rp.mono (hT : ∀ a xs, TupAt G.K H a xs → TupAt G.K H' a xs) (hL : ∀ a xs, F a ∧ H a = some (.lst xs) → F' a ∧ H' a = some (.lst xs)) (hZ : ∀ a o u, H a = some (.frz o u) → H' a = some (.frz o u)) : ∀ {d : D} {v : V}, Rp G F H d v → Rp G F' H' d v
  | _, _, .non => .non
  | _, _, .bl b => .bl b
  | _, _, .int i => .int i
  | _, _, .str x => .str x
  | _, _, .fn n => .fn n
  | _, _, .tup h r => .tup (hT _ _ h) (RpL.mono hT hL hZ r)
  | _, _, .lst h r => .lst (hL _ _ h) (RpL.mono hT hL hZ r)
  | _, _, .scr h => .scr (h.imp (fun ⟨o, q⟩ => ⟨o, hZ _ _ _ q⟩) id)
theorem RpL.mono (hT : ∀ a xs, TupAt G.K H a xs → TupAt G.K H' a xs) (hL : ∀ a xs, F a ∧ H a = some (.lst xs) → F' a ∧ H' a = some (.lst xs)) (hZ : ∀ a o u, H a = some (.frz o u) → H' a = some (.frz o u)) : ∀ {ds : List D} {vs : List V}, RpL G F H ds vs → RpL G F' H' ds vs
  | _, _, .nil => .nil
  | _, _, .cons h r => .cons (Rp.mono hT hL hZ h) (RpL.mono hT hL hZ r)
end
theorem RpL.length : ∀ {ds : List D} {vs : List V}, RpL G F H ds vs → ds.length = vs.length
  | _, _, .nil => rfl
  | _, _, .cons _ r => congrArg (· + 1) (RpL.length r)
theorem RpL.get : ∀ {ds : List D} {vs : List V} (i : Nat) {d : D}, RpL G F H ds vs → ds[i]? = some d → ∃ v, vs[i]? = some v ∧ Rp G F H d v
  | _, _, _, _, .nil, e => by simp at e
  | _, _, 0, _, .cons h _, e => by simp at e; subst e; exact ⟨_, rfl, h⟩
  | _, _, i + 1, d, .cons _ r, e => by
    obtain ⟨v, h1, h2⟩ := RpL.get i (d := d) r (by simpa using e)
    exact ⟨v, by simpa using h1, h2⟩
theorem RpL.append : ∀ {ds es : List D} {vs ws : List V}, RpL G F H ds vs → RpL G F H es ws → RpL G F H (ds ++ es) (vs ++ ws)
  | _, _, _, _, .nil, s => s
  | _, _, _, _, .cons h r, s => .cons h (RpL.append r s)
theorem RpL.take : ∀ {ds : List D} {vs : List V} (n : Nat), RpL G F H ds vs → RpL G F H (ds.take n) (vs.take n)
  | _, _, 0, _ => .nil
  | _, _, _ + 1, .nil => .nil
  | _, _, n + 1, .cons h r => .cons h (RpL.take n r)
theorem RpL.drop : ∀ {ds : List D} {vs : List V} (n : Nat), RpL G F H ds vs → RpL G F H (ds.drop n) (vs.drop n)
  | _, _, 0, r => r
  | _, _, _ + 1, .nil => .nil
  | _, _, n + 1, .cons _ r => RpL.drop n r
theorem RpL.set : ∀ {ds : List D} {vs : List V} (i : Nat) {d : D} {v : V}, RpL G F H ds vs → Rp G F H d v → RpL G F H (ds.set i d) (vs.set i v)
  | _, _, _, _, _, .nil, _ => .nil
  | _, _, 0, _, _, .cons _ r, h => .cons h r
  | _, _, i + 1, _, _, .cons q r, h => .cons q (RpL.set i r h)
theorem RpL.reverse : ∀ {ds : List D} {vs : List V}, RpL G F H ds vs → RpL G F H ds.reverse vs.reverse
  | _, _, .nil => .nil
  | _, _, .cons h r => by
    rw [List.reverse_cons, List.reverse_cons]
    exact (RpL.reverse r).append (.cons h .nil)
theorem RpL.flatten {ds : List D} {vs : List V} (r : RpL G F H ds vs) : ∀ n : Nat, RpL G F H (List.replicate n ds).flatten (List.replicate n vs).flatten
  | 0 => .nil
  | n + 1 => by
    rw [List.replicate_succ, List.replicate_succ, List.flatten_cons, List.flatten_cons]
    exact r.append (RpL.flatten r n)
theorem RpL.none_of {ds : List D} {vs : List V} {i : Nat} (r : RpL G F H ds vs) (e : ds[i]? = none) : vs[i]? = none := by
  have h1 := r.length
  have h2 : ds.length ≤ i := List.getElem?_eq_none_iff.mp e
  exact List.getElem?_eq_none_iff.mpr (by omega)
theorem RpL.get' {ds : List D} {vs : List V} {i : Nat} {v : V} (r : RpL G F H ds vs) (e : vs[i]? = some v) : ∃ d, ds[i]? = some d ∧ Rp G F H d v := by
  cases q : ds[i]? with
  | none => rw [r.none_of q] at e; cases e
  | some d =>
    obtain ⟨v', h1, h2⟩ := r.get i q
    rw [e] at h1
    cases h1
    exact ⟨d, rfl, h2⟩
theorem RpL.map_int : ∀ (is : List Int), RpL G F H (is.map D.int) (is.map V.int)
  | [] => .nil
  | i :: r => .cons (.int i) (RpL.map_int r)
theorem RpL.ints : ∀ {ds : List D} {vs : List V} {is : List Int}, RpL G F H ds vs → intsOf ds = some is → vs = is.map V.int ∧ ds = is.map D.int
  | _, _, is, .nil, e => by
    have e : is = [] := by simpa [intsOf] using e.symm
    subst e
    exact ⟨rfl, rfl⟩
  | _, _, is, .cons (d := d) (ds := ds) h r, e => by
    unfold intsOf at e
    cases q : intOf d with
    | none => rw [q] at e; cases e
    | some i =>
      cases q2 : intsOf ds with
      | none => rw [q, q2] at e; cases e
      | some js =>
        rw [q, q2] at e
        cases e
        obtain ⟨e1, e2⟩ := RpL.ints r q2
        cases d <;> first | (cases q; cases h; exact ⟨by rw [e1]; rfl, by rw [e2]; rfl⟩) | (cases q)
theorem RpL.bools : ∀ {ds : List D} {vs : List V} {bs : List Bool}, RpL G F H ds vs → boolsOf ds = some bs → vs = bs.map V.bl
  | _, _, bs, .nil, e => by
    have e : bs = [] := by simpa [boolsOf] using e.symm
    subst e
    rfl
  | _, _, bs, .cons (d := d) (ds := ds) h r, e => by
    cases d with
    | bl b =>
      unfold boolsOf at e
      cases q2 : boolsOf ds with
      | none => rw [q2] at e; cases e
      | some js =>
        rw [q2] at e
        cases e
        cases h
        rw [RpL.bools r q2]
        rfl
    | _ => cases e
mutual
theorem Rp.dp : ∀ {d : D} {v : V}, Rp G F H d v → dataD d = true → Dp G.K H v (toP d)
  | _, _, .non, _ => .non
  | _, _, .bl b, _ => .bl b
  | _, _, .int i, _ => .int i
  | _, _, .str x, _ => .str x
  | _, _, .fn n, e => by simp [dataD] at e
  | _, _, .tup h r, e => by
    rw [toP]
    exact .tup h.sq (RpL.dp r (by simpa [dataD] using e))
  | _, _, .lst h r, e => by
    rw [toP]
    exact .lst (.inl (.inl h.2)) (RpL.dp r (by simpa [dataD] using e))
  | _, _, .scr h, e => by simp [dataD] at e
theorem RpL.dp : ∀ {ds : List D} {vs : List V}, RpL G F H ds vs → dataL ds = true → DpAll G.K H vs (toPL ds)
  | _, _, .nil, _ => by
    rw [toPL]
    exact .nil
  | _, _, .cons h r, e => by
    rw [toPL]
    rw [dataL, Bool.and_eq_true] at e
    exact .cons (Rp.dp h e.1) (RpL.dp r e.2)
end
end
/-- a value: data, or a list of the store -/
def RV (G : Gr) (w : Wd) (d : D) (v : V) : Prop := match d with
  | .cell k => ∃ a, w.cs[k]? = some a ∧ v = .ref a
  | d => Rp G w.F w.H d v
inductive RVL (G : Gr) (w : Wd) : List D → List V → Prop
  | nil : RVL G w [] []
  | cons {d : D} {ds : List D} {v : V} {vs : List V} : RV G w d v → RVL G w ds vs → RVL G w (d :: ds) (v :: vs)
theorem RVL.length {G : Gr} {w : Wd} : ∀ {ds : List D} {vs : List V}, RVL G w ds vs → ds.length = vs.length
  | _, _, .nil => rfl
  | _, _, .cons _ r => congrArg (· + 1) (RVL.length r)
structure Wd.Ok (G : Gr) (w : Wd) : Prop where
  len : w.cs.length = w.μ.length
  nd : w.cs.Nodup
  cell : ∀ (k : Nat) (c : Cell), w.μ[k]? = some c → ∃ a vs, w.cs[k]? = some a ∧ w.H a = some (.lst vs) ∧ RpL G w.F w.H c.xs vs ∧ (c.st = 1 ↔ w.F a)
  fdom : ∀ a, w.F a → ∃ o, w.H a = some o
  jj : G.J w.H
/-- how a state goes on -/
structure Ev (G : Gr) (w w' : Wd) : Prop where
  sub : ∀ a, w.F a → w'.F a
  old : ∀ a, w'.F a → w.F a ∨ a ∈ w.cs ∨ w.H a = none
  pre : ∃ ns, w'.cs = w.cs ++ ns ∧ ∀ a ∈ ns, w.H a = none
  keep : ∀ a o, w.H a = some o → (a ∈ w.cs → w.F a) → (∀ ps, o ≠ .tbl ps) → w'.H a = some o
  tb : ∀ a ps, w.H a = some (.tbl ps) → ∃ ps', w'.H a = some (.tbl ps')
  lock : ∀ (k : Nat) (c : Cell), w.μ[k]? = some c → c.st ≠ 0 → ∃ c' : Cell, w'.μ[k]? = some c' ∧ c'.xs = c.xs ∧ c'.st ≠ 0 ∧ (c.st = 1 → c'.st = 1)
section
variable {G : Gr} {w w1 w2 w' : Wd}
theorem Wd.Ok.inCs (ok : w.Ok G) {a : Addr} (h : a ∈ w.cs) : ∃ vs, w.H a = some (.lst vs) := by
  obtain ⟨k, hk, e⟩ := List.getElem_of_mem h
  have hm : k < w.μ.length := by rw [← ok.len]; exact hk
  obtain ⟨b, vs, e1, e2, _⟩ := ok.cell k w.μ[k] (List.getElem?_eq_getElem hm)
  have : b = a := by
    rw [List.getElem?_eq_getElem hk, e] at e1
    exact (Option.some.inj e1).symm
  subst this
  exact ⟨vs, e2⟩
theorem Ev.refl (G : Gr) (w : Wd) : Ev G w w := ⟨fun _ h => h, fun _ h => .inl h, ⟨[], by simp, fun _ h => nomatch h⟩, fun _ _ h _ _ => h, fun _ ps h => ⟨ps, h⟩, fun k c h z => ⟨c, h, rfl, z, id⟩⟩
theorem Ev.rd {u : HO} {a : Addr} (ok : w.Ok G) (e : Ev G w w') (hl : ∀ xs, u ≠ .lst xs) (ht : ∀ ps, u ≠ .tbl ps) (h : Rd w.H a u) : Rd w'.H a u := by
  rcases h with h | ⟨o, h⟩
  · refine .inl (e.keep a u h (fun hc => ?_) ht)
    obtain ⟨vs, q⟩ := ok.inCs hc
    rw [h] at q
    cases q
    exact (hl _ rfl).elim
  · refine .inr ⟨o, e.keep a _ h (fun hc => ?_) (fun ps z => by cases z)⟩
    obtain ⟨vs, q⟩ := ok.inCs hc
    rw [h] at q
    cases q
theorem Ev.sqT (ok : w.Ok G) (e : Ev G w w') {a : Addr} {xs : List V} (h : TupAt G.K w.H a xs) : TupAt G.K w'.H a xs := by
  rcases h with h | h
  · refine .inl (e.keep a _ h (fun hc => ?_) fun _ z => by cases z)
    obtain ⟨vs, q⟩ := ok.inCs hc
    rw [h] at q
    cases q
  · exact .inr h
theorem Ev.fL (ok : w.Ok G) (e : Ev G w w') {a : Addr} {xs : List V} (h : w.F a ∧ w.H a = some (.lst xs)) : w'.F a ∧ w'.H a = some (.lst xs) :=
  ⟨e.sub a h.1, e.keep a _ h.2 (fun _ => h.1) fun _ z => by cases z⟩
theorem Ev.fZ (ok : w.Ok G) (e : Ev G w w') {a : Addr} {o : Obj} {u : HO} (h : w.H a = some (.frz o u)) : w'.H a = some (.frz o u) := e.keep a _ h (fun hc => by
  obtain ⟨vs, q⟩ := ok.inCs hc
  rw [h] at q
  cases q) fun _ z => by cases z
theorem Ev.rp (ok : w.Ok G) (e : Ev G w w') {d : D} {v : V} (h : Rp G w.F w.H d v) : Rp G w'.F w'.H d v := h.mono (fun _ _ => e.sqT ok) (fun _ _ => e.fL ok) fun _ _ _ => e.fZ ok
theorem Ev.rpL (ok : w.Ok G) (e : Ev G w w') {ds : List D} {vs : List V} (h : RpL G w.F w.H ds vs) : RpL G w'.F w'.H ds vs := h.mono (fun _ _ => e.sqT ok) (fun _ _ => e.fL ok) fun _ _ _ => e.fZ ok
theorem Ev.csGet (e : Ev G w w') {k : Nat} {a : Addr} (h : w.cs[k]? = some a) : w'.cs[k]? = some a := by
  obtain ⟨ns, q, _⟩ := e.pre
  rw [q, List.getElem?_append_left (List.getElem?_eq_some_iff.mp h).1]
  exact h
theorem Ev.rv (ok : w.Ok G) (e : Ev G w w') {d : D} {v : V} (h : RV G w d v) : RV G w' d v := by
  cases d with
  | cell k => obtain ⟨a, h1, h2⟩ := h; exact ⟨a, e.csGet h1, h2⟩
  | _ => exact e.rp ok h
theorem Ev.rvL (ok : w.Ok G) (e : Ev G w w') : ∀ {ds : List D} {vs : List V}, RVL G w ds vs → RVL G w' ds vs
  | _, _, .nil => .nil
  | _, _, .cons h r => .cons (e.rv ok h) (Ev.rvL ok e r)
theorem Ev.there (ok' : w'.Ok G) (e : Ev G w w') {a : Addr} {o : HO} (h : w.H a = some o) : ∃ o', w'.H a = some o' := by
  by_cases hc : a ∈ w.cs
  · obtain ⟨ns, q, _⟩ := e.pre
    obtain ⟨vs, z⟩ := ok'.inCs (a := a) (by rw [q]; exact List.mem_append_left _ hc)
    exact ⟨_, z⟩
  · by_cases ht : ∃ ps, o = .tbl ps
    · obtain ⟨ps, rfl⟩ := ht
      obtain ⟨ps', z⟩ := e.tb a ps h
      exact ⟨_, z⟩
    · exact ⟨o, e.keep a o h (fun z => (hc z).elim) fun ps z => ht ⟨ps, z⟩⟩
theorem Ev.trans (ok1 : w1.Ok G) (e1 : Ev G w w1) (e2 : Ev G w1 w2) : Ev G w w2 where
  sub := fun a h => e2.sub a (e1.sub a h)
  old := fun a h => by
    rcases e2.old a h with h | h | h
    · exact e1.old a h
    · obtain ⟨ns, q, hn⟩ := e1.pre
      rw [q] at h
      rcases List.mem_append.mp h with h | h
      · exact .inr (.inl h)
      · exact .inr (.inr (hn a h))
    · cases q : w.H a with
      | none => exact .inr (.inr rfl)
      | some o =>
        obtain ⟨o', z⟩ := e1.there ok1 q
        rw [h] at z
        cases z
  pre := by
    obtain ⟨n1, q1, h1⟩ := e1.pre
    obtain ⟨n2, q2, h2⟩ := e2.pre
    refine ⟨n1 ++ n2, by rw [q2, q1, List.append_assoc], fun a ha => ?_⟩
    rcases List.mem_append.mp ha with ha | ha
    · exact h1 a ha
    · cases q : w.H a with
      | none => rfl
      | some o =>
        obtain ⟨o', z⟩ := e1.there ok1 q
        rw [h2 a ha] at z
        cases z
  keep := fun a o h hc ht => by
    refine e2.keep a o (e1.keep a o h hc ht) (fun z => ?_) ht
    obtain ⟨n1, q1, h1⟩ := e1.pre
    rw [q1] at z
    rcases List.mem_append.mp z with z | z
    · exact e1.sub a (hc z)
    · rw [h1 a z] at h
      cases h
  tb := fun a ps h => by
    obtain ⟨ps1, h1⟩ := e1.tb a ps h
    exact e2.tb a ps1 h1
  lock := fun k c h z => by
    obtain ⟨c1, h1, x1, z1, o1⟩ := e1.lock k c h z
    obtain ⟨c2, h2, x2, z2, o2⟩ := e2.lock k c1 h1 z1
    exact ⟨c2, h2, x2.trans x1, z2, fun q => o2 (o1 q)⟩
end
end DL
/-! DL2: steps of a state; terms against the rules of the hand layer. -/
namespace DL
open PySem PySem.Spec PyProof.Rows L2
section
variable {G : Gr} {w w1 w2 w' : Wd}
theorem Wd.Ok.listOf (ok : w.Ok G) {d : D} {v : V} {xs : List D} (h : RV G w d v) (e : DL.listOf w.μ d = some xs) : ∃ a vs, v = .ref a ∧ w.H a = some (.lst vs) ∧ RpL G w.F w.H xs vs := by
  cases d with
  | lst ys =>
    cases e
    cases h with
    | lst h r => exact ⟨_, _, rfl, h.2, r⟩
  | cell k =>
    obtain ⟨a, h1, rfl⟩ := h
    cases q : w.μ[k]? with
    | none => simp [DL.listOf, q] at e
    | some c =>
      have e : c.xs = xs := by simpa [DL.listOf, q] using e
      subst e
      obtain ⟨b, vs, e1, e2, r, _⟩ := ok.cell k c q
      rw [h1] at e1
      cases e1
      exact ⟨a, vs, rfl, e2, r⟩
  | _ => cases e
theorem Wd.Ok.seqOf (ok : w.Ok G) {d : D} {v : V} {xs : List D} (h : RV G w d v) (e : DL.seqOf w.μ d = some xs) : ∃ a vs, v = .ref a ∧ (SqL G.K w.H a vs ∨ SqT G.K w.H a vs) ∧ RpL G w.F w.H xs vs := by
  cases d with
  | tup ys =>
    cases e
    cases h with
    | tup h r => exact ⟨_, _, rfl, .inr h.sq, r⟩
  | lst ys =>
    obtain ⟨a, vs, h1, h2, h3⟩ := ok.listOf (d := .lst ys) h e
    exact ⟨a, vs, h1, .inl (.inl (.inl h2)), h3⟩
  | cell k =>
    obtain ⟨a, vs, h1, h2, h3⟩ := ok.listOf (d := .cell k) h e
    exact ⟨a, vs, h1, .inl (.inl (.inl h2)), h3⟩
  | _ => cases e
theorem Ev.none (ok1 : w1.Ok G) (e : Ev G w w1) {p : Addr} (h : w1.H p = Option.none) : w.H p = Option.none := by
  cases q : w.H p with
  | none => rfl
  | some o =>
    obtain ⟨o', z⟩ := e.there ok1 q
    rw [h] at z
    cases z
/-- a new object -/
theorem fresh_ev (G : Gr) {p : Addr} {o : HO} (hp : w.H p = Option.none) : Ev G w { w with H := upd w.H p o } where
  sub := fun _ h => h
  old := fun _ h => .inl h
  pre := ⟨[], by simp, fun _ h => nomatch h⟩
  keep := fun a u h _ _ => by
    show upd w.H p o a = some u
    rw [upd_ne (ne_of_none h hp)]
    exact h
  tb := fun a ps h => ⟨ps, by
    show upd w.H p o a = some (.tbl ps)
    rw [upd_ne (ne_of_none h hp)]
    exact h⟩
  lock := fun k c h z => ⟨c, h, rfl, z, id⟩
theorem fresh_ok (ok : w.Ok G) {p : Addr} {o : HO} (hp : w.H p = Option.none) : Wd.Ok G { w with H := upd w.H p o } where
  len := ok.len
  nd := ok.nd
  cell := fun k c h => by
    obtain ⟨a, vs, h1, h2, h3, h4⟩ := ok.cell k c h
    exact ⟨a, vs, h1, by
      show upd w.H p o a = _
      rw [upd_ne (ne_of_none h2 hp)]
      exact h2, (fresh_ev (w := w) (o := o) G hp).rpL ok h3, h4⟩
  fdom := fun a h => by
    obtain ⟨u, q⟩ := ok.fdom a h
    exact ⟨u, by
      show upd w.H p o a = _
      rw [upd_ne (ne_of_none q hp)]
      exact q⟩
  jj := G.jj w.H _ (fun a u h _ => by
    show upd w.H p o a = _
    rw [upd_ne (ne_of_none h hp)]
    exact h) ok.jj
theorem Wd.Ok.notF (ok : w.Ok G) {p : Addr} (hp : w.H p = Option.none) : ¬ w.F p := fun z => by
  obtain ⟨o, q⟩ := ok.fdom p z
  rw [hp] at q
  cases q
theorem Wd.Ok.notCs (ok : w.Ok G) {p : Addr} (hp : w.H p = Option.none) : p ∉ w.cs := fun z => by
  obtain ⟨o, q⟩ := ok.inCs z
  rw [hp] at q
  cases q
/-- a new list, not yet one of ours -/
def RL (G : Gr) (H0 : Hp) (w' : Wd) (xs : List D) (v : V) : Prop := ∃ p vs, v = .ref p ∧ w'.H p = some (.lst vs) ∧ ¬ w'.F p ∧ p ∉ w'.cs ∧ RpL G w'.F w'.H xs vs ∧ H0 p = Option.none
/-- .. is never changed again -/
theorem hold_ok (ok : w.Ok G) {p : Addr} {vs : List V} (h : w.H p = some (.lst vs)) (hc : p ∉ w.cs) : Wd.Ok G { w with F := fun a => w.F a ∨ a = p } where
  len := ok.len
  nd := ok.nd
  cell := fun k c q => by
    obtain ⟨a, us, h1, h2, h3, h4⟩ := ok.cell k c q
    refine ⟨a, us, h1, h2, h3.mono (fun _ _ z => z) (fun _ _ z => ⟨.inl z.1, z.2⟩) (fun _ _ _ z => z), h4.trans ⟨.inl, fun z => z.elim id fun e => ?_⟩⟩
    subst e
    exact (hc (List.mem_of_getElem? h1)).elim
  fdom := fun a q => by
    rcases q with q | e
    · exact ok.fdom a q
    · subst e
      exact ⟨_, h⟩
  jj := ok.jj
theorem hold_ev {w0 : Wd} (e : Ev G w0 w) {p : Addr} (hn : w0.H p = Option.none) : Ev G w0 { w with F := fun a => w.F a ∨ a = p } where
  sub := fun a h => .inl (e.sub a h)
  old := fun a h => h.elim (e.old a) fun z => .inr (.inr (by rw [z]; exact hn))
  pre := e.pre
  keep := e.keep
  tb := e.tb
  lock := e.lock
/-- .. becomes a list of the store -/
theorem own_ok (ok : w.Ok G) {p : Addr} {vs : List V} {xs : List D} (h : w.H p = some (.lst vs)) (hc : p ∉ w.cs) (hF : ¬ w.F p) (r : RpL G w.F w.H xs vs) : Wd.Ok G { w with cs := w.cs ++ [p], μ := w.μ ++ [⟨0, xs⟩] } where
  len := by simp [ok.len]
  nd := by
    refine List.nodup_append.mpr ⟨ok.nd, by simp, fun a ha b hb z => ?_⟩
    have : b = p := by simpa using hb
    subst this
    exact hc (z ▸ ha)
  cell := fun k c q => by
    by_cases hk : k < w.μ.length
    · rw [List.getElem?_append_left hk] at q
      obtain ⟨a, us, h1, h2, h3, h4⟩ := ok.cell k c q
      refine ⟨a, us, ?_, h2, h3, h4⟩
      show (w.cs ++ [p])[k]? = some a
      rw [List.getElem?_append_left (by rw [ok.len]; exact hk)]
      exact h1
    · have hk' : w.μ.length ≤ k := Nat.le_of_not_lt hk
      rw [List.getElem?_append_right hk'] at q
      have hz : k - w.μ.length = 0 := by
        cases z : k - w.μ.length with
        | zero => rfl
        | succ m => rw [z] at q; simp at q
      rw [hz] at q
      have q : (⟨0, xs⟩ : Cell) = c := by simpa using q
      subst q
      refine ⟨p, vs, ?_, h, r, fun z => (by cases z), fun z => (hF z).elim⟩
      show (w.cs ++ [p])[k]? = some p
      rw [List.getElem?_append_right (by rw [ok.len]; exact hk'), ok.len, hz]
      rfl
  fdom := ok.fdom
  jj := ok.jj
theorem own_ev {w0 : Wd} (ok0 : w0.Ok G) (ok : w.Ok G) (e : Ev G w0 w) {p : Addr} {xs : List D} (hn : w0.H p = Option.none) : Ev G w0 { w with cs := w.cs ++ [p], μ := w.μ ++ [⟨0, xs⟩] } where
  sub := e.sub
  old := e.old
  pre := by
    obtain ⟨ns, q, hq⟩ := e.pre
    refine ⟨ns ++ [p], by show w.cs ++ [p] = _; rw [q, List.append_assoc], fun a ha => ?_⟩
    rcases List.mem_append.mp ha with ha | ha
    · exact hq a ha
    · have : a = p := by simpa using ha
      rw [this]
      exact hn
  keep := e.keep
  tb := e.tb
  lock := fun k c h z => by
    obtain ⟨c', h1, h2⟩ := e.lock k c h z
    refine ⟨c', ?_, h2⟩
    show (w.μ ++ [⟨0, xs⟩])[k]? = some c'
    rw [List.getElem?_append_left (List.getElem?_eq_some_iff.mp h1).1]
    exact h1
/-- a list of the store is kept as it is from now on -/
theorem frz_ok (ok : w.Ok G) {k : Nat} {c : Cell} {a : Addr} (hk : w.μ[k]? = some c) (ha : w.cs[k]? = some a) : Wd.Ok G { w with F := fun b => w.F b ∨ b = a, μ := w.μ.set k ⟨1, c.xs⟩ } where
  len := by simp [ok.len]
  nd := ok.nd
  cell := fun j c' q => by
    have q : (w.μ.set k ⟨1, c.xs⟩)[j]? = some c' := q
    by_cases hj : j = k
    · subst hj
      rw [List.getElem?_set_self (List.getElem?_eq_some_iff.mp hk).1] at q
      cases q
      obtain ⟨b, us, h1, h2, h3, h4⟩ := ok.cell j c hk
      rw [ha] at h1
      cases h1
      exact ⟨a, us, ha, h2, h3.mono (fun _ _ z => z) (fun _ _ z => ⟨.inl z.1, z.2⟩) (fun _ _ _ z => z), ⟨fun _ => .inr rfl, fun _ => rfl⟩⟩
    · rw [List.getElem?_set_ne (Ne.symm hj)] at q
      obtain ⟨b, us, h1, h2, h3, h4⟩ := ok.cell j c' q
      refine ⟨b, us, h1, h2, h3.mono (fun _ _ z => z) (fun _ _ z => ⟨.inl z.1, z.2⟩) (fun _ _ _ z => z), h4.trans ⟨.inl, fun z => z.elim id fun e => ?_⟩⟩
      subst e
      exfalso
      obtain ⟨l1, e1⟩ := List.getElem?_eq_some_iff.mp h1
      obtain ⟨l2, e2⟩ := List.getElem?_eq_some_iff.mp ha
      exact hj ((List.getElem_inj ok.nd).mp (e1.trans e2.symm))
  fdom := fun b q => by
    rcases q with q | e
    · exact ok.fdom b q
    · subst e
      obtain ⟨vs, z⟩ := ok.inCs (List.mem_of_getElem? ha)
      exact ⟨_, z⟩
  jj := ok.jj
theorem frz_ev (G : Gr) {k : Nat} {c : Cell} {a : Addr} (hk : w.μ[k]? = some c) (ha : w.cs[k]? = some a) : Ev G w { w with F := fun b => w.F b ∨ b = a, μ := w.μ.set k ⟨1, c.xs⟩ } where
  sub := fun _ h => .inl h
  old := fun b h => h.elim .inl fun z => .inr (.inl (by rw [z]; exact List.mem_of_getElem? ha))
  pre := ⟨[], by simp, fun _ h => nomatch h⟩
  keep := fun _ _ h _ _ => h
  tb := fun _ ps h => ⟨ps, h⟩
  lock := fun j c' q z => by
    show ∃ c'' : Cell, (w.μ.set k ⟨1, c.xs⟩)[j]? = some c'' ∧ _
    by_cases hj : j = k
    · subst hj
      rw [hk] at q
      cases q
      exact ⟨⟨1, c.xs⟩, List.getElem?_set_self (List.getElem?_eq_some_iff.mp hk).1, rfl, Nat.one_ne_zero, fun _ => rfl⟩
    · exact ⟨c', by rw [List.getElem?_set_ne (Ne.symm hj)]; exact q, rfl, z, id⟩
end
/-! ### what a run is held to -/
def ExR (G : Gr) (x : Exc) (cls : Value) (dx : Option Addr) (H : Hp) : Prop := cls = .ref (G.ea x.c) ∧ match x.pay with
  | none => dx = none
  | some i => ∃ d, dx = some d ∧ H d = some (.xd [("limit", .int i)])
def Got (G : Gr) {α β : Type} (w : Wd) (E : XK) (r : Rs α) (rel : Wd → α → β → Prop) (Q : β → Hp → Prop) : Prop := match r with
  | .no => False
  | .ok d μ' => ∀ w' b, w'.μ = μ' → w'.Ok G → Ev G w w' → rel w' d b → Q b w'.H
  | .ex x μ' => ∀ w' cls dx, w'.μ = μ' → w'.Ok G → Ev G w w' → ExR G x cls dx w'.H → E cls dx w'.H
section
variable {G : Gr} {α β α' β' : Type} {w w1 : Wd} {E : XK} {r : Rs α} {rel : Wd → α → β → Prop} {Q : β → Hp → Prop}
theorem Got.mono (h : Got G w E r rel Q) (ok1 : w1.Ok G) (e : Ev G w w1) : Got G w1 E r rel Q := by
  cases r with
  | no => exact h
  | ok d μ' => exact fun w' b m ok' e' hr => h w' b m ok' (e.trans ok1 e') hr
  | ex x μ' => exact fun w' cls dx m ok' e' hr => h w' cls dx m ok' (e.trans ok1 e') hr
theorem Got.out {d : α} {b : β} (h : Got G w E (.ok d w.μ) rel Q) (ok : w.Ok G) (hr : rel w d b) : Q b w.H := h w b rfl ok (Ev.refl G w) hr
theorem Got.at {d : α} {b : β} {μ' : Store} (h : Got G w E (.ok d μ') rel Q) (m : w1.μ = μ') (ok : w1.Ok G) (e : Ev G w w1) (hr : rel w1 d b) : Q b w1.H := h w1 b m ok e hr
/-- a part is run, then what follows -/
theorem go {s : Rs α'} {f : α' → Store → Rs α} {rel1 : Wd → α' → β' → Prop} {P : β' → Hp → Prop} (h : Got G w E (s.bind f) rel Q)
    (hc : ∀ (d : α') (w1 : Wd) (b : β'), s = .ok d w1.μ → w1.Ok G → Ev G w w1 → rel1 w1 d b → Got G w1 E (f d w1.μ) rel Q → P b w1.H) : Got G w E s rel1 P := by
  cases s with
  | no => exact h
  | ok d μ1 =>
    intro w1 b m ok1 e1 hr
    subst m
    exact hc d w1 b rfl ok1 e1 hr (Got.mono h ok1 e1)
  | ex x μ1 => exact h
theorem Got.of {o : Option α} (h : Got G w E (Rs.of o w.μ) rel Q) : ∃ d, o = some d ∧ Got G w E (.ok d w.μ) rel Q := by
  cases o with
  | none => exact h.elim
  | some d => exact ⟨d, rfl, h⟩
end
def SRel (G : Gr) (w : Wd) (ρ : Env) (σ : L2.St) : Prop := ρ.length = σ.length ∧ ∀ (i : Nat) (d : D), ρ[i]? = some (some d) → ∃ v, σ[i]? = some (some v) ∧ RV G w d v
theorem SRel.mono {G : Gr} {w w1 : Wd} {ρ : Env} {σ : L2.St} (s : SRel G w ρ σ) (ok : w.Ok G) (e : Ev G w w1) : SRel G w1 ρ σ := ⟨s.1, fun i d h => by
  obtain ⟨v, h1, h2⟩ := s.2 i d h
  exact ⟨v, h1, e.rv ok h2⟩⟩
/-! ### readings -/
section
variable (G : Gr) (cl : Calls) (E : XK)
/-- a state of data stands beside slots and heap -/
def At (G : Gr) (σ : L2.St) (H : Hp) (k : Wd → Env → Prop) : Prop := ∃ w ρ, w.H = H ∧ w.Ok G ∧ SRel G w ρ σ ∧ k w ρ
def tD (p : PX) : TE := fun σ H Q => At G σ H fun w ρ => Got G w E (ev cl p ρ w.μ) (RV G) Q
def tDT (p : PX) : TT := fun σ H Q => At G σ H fun w ρ => Got G w E ((ev cl p ρ w.μ).bind asB) (fun _ b c => c = b) Q
def tDL (p : PX) : TE := fun σ H Q => At G σ H fun w ρ => Got G w E (evL cl p ρ w.μ) (RL G w.H) Q
def tDs (p : PX) : TA := fun σ H Q => At G σ H fun w ρ => Got G w E (evs cl p ρ w.μ) (RVL G) Q
end
section
variable {X : Cx}
theorem _root_.L2.PE.imp {e : Expr} {t t' : TE} (h : PE X e t) (hi : ∀ σ H Q, t' σ H Q → t σ H Q) : PE X e t' := ⟨fun pins s σ H Q I hq => h.run pins s σ H Q I (hi σ H Q hq)⟩
theorem _root_.L2.PT.imp {e : Expr} {t t' : TT} (h : PT X e t) (hi : ∀ σ H Q, t' σ H Q → t σ H Q) : PT X e t' := ⟨fun pins s σ H Q I hq => h.run pins s σ H Q I (hi σ H Q hq)⟩
theorem _root_.L2.PW.imp {e : Expr} {t t' : TT} (h : PW X e t) (hi : ∀ σ H Q, t' σ H Q → t σ H Q) : PW X e t' := ⟨fun wh pins s σ H Q I hq => h.run wh pins s σ H Q I (hi σ H Q hq)⟩
theorem _root_.L2.PA.imp {e : List Expr} {t t' : TA} (h : PA X e t) (hi : ∀ σ H Q, t' σ H Q → t σ H Q) : PA X e t' := ⟨fun ps pins s σ H Q I hq => h.run ps pins s σ H Q I (hi σ H Q hq)⟩
theorem _root_.L2.PS.imp {e : Stmt} {t t' : TS} (h : PS X e t) (hi : ∀ D σ H, t' D σ H → t D σ H) : PS X e t' := ⟨fun pins s σ H D I hq => h.run pins s σ H D I (hi D σ H hq)⟩
theorem _root_.L2.PSs.imp {e : List Stmt} {t t' : TS} (h : PSs X e t) (hi : ∀ D σ H, t' D σ H → t D σ H) : PSs X e t' := ⟨fun pins s σ H D I hq => h.run pins s σ H D I (hi D σ H hq)⟩
theorem _root_.L2.PE.never {e : Expr} {t : TE} (hi : ∀ σ H Q, ¬ t σ H Q) : PE X e t := ⟨fun pins s σ H Q I hq => (hi σ H Q hq).elim⟩
end
variable {G : Gr} {cl : Calls} {E : XK} {X : Cx} {a b c : Expr} {pa pb pc : PX} {pos : Pos}
/-! ### constants, names -/
theorem s_const {e : Expr} {p : PX} {v : V} {d : D} (h : PE X e (tC v)) (hd : ∀ ρ μ, ev cl p ρ μ = .ok d μ) (hv : ∀ w : Wd, RV G w d v) : PE X e (tD G cl E p) := h.imp fun σ H Q hq => by
  obtain ⟨w, ρ, rfl, ok, sr, h⟩ := hq
  rw [hd] at h
  exact h.out ok (hv w)
theorem s_non {j pos} : PE X (.Constant .none j pos) (tD G cl E .non) := s_const pe_non (fun _ _ => rfl) fun _ => Rp.non
theorem s_bl {k j pos} : PE X (.Constant (.bool k) j pos) (tD G cl E (.bl k)) := s_const pe_bl (fun _ _ => rfl) fun _ => Rp.bl k
theorem s_int {i j pos} : PE X (.Constant (.int i) j pos) (tD G cl E (.int i)) := s_const pe_int (fun _ _ => rfl) fun _ => Rp.int i
theorem s_str {x j pos} : PE X (.Constant (.str x) j pos) (tD G cl E (.str x)) := s_const pe_str (fun _ _ => rfl) fun _ => Rp.str x
theorem s_var {i : Nat} {x : Str} (hN : X.N[i]? = some x) (hv : Vis X.env.scope x) (hd : (x == ("__debug__" : Str)) = false) (hcd : (x == ("__classdict__" : Str)) = false) : PE X (.Name x pos) (tD G cl E (.var i)) := (pe_var hN hv hd hcd).imp fun σ H Q hq => by
  obtain ⟨w, ρ, rfl, ok, sr, h⟩ := hq
  rw [ev] at h
  cases q : ρ[i]? with
  | none => rw [q] at h; exact h.elim
  | some o =>
    cases o with
    | none => rw [q] at h; exact h.elim
    | some d =>
      rw [q] at h
      obtain ⟨v, h1, h2⟩ := sr.2 i d q
      exact ⟨v, h1, h.out ok h2⟩
/-! ### two parts -/
theorem s_two {op : V → V → Hp → VK → Prop} {e : Expr} {p : PX} {f : Store → D → D → Rs D} (h : PE X e (tOp op (tD G cl E pa) (tD G cl E pb))) (hf : ∀ ρ μ, ev cl p ρ μ = (ev cl pa ρ μ).bind fun x μ1 => (ev cl pb ρ μ1).bind fun y μ2 => f μ2 x y)
    (ho : ∀ (w : Wd) (x y : D) (v u : V) (Q : VK), w.Ok G → RV G w x v → RV G w y u → Got G w E (f w.μ x y) (RV G) Q → op v u w.H Q) : PE X e (tD G cl E p) := h.imp fun σ H Q hq => by
  obtain ⟨w, ρ, rfl, ok, sr, h⟩ := hq
  rw [hf] at h
  exact ⟨w, ρ, rfl, ok, sr, go h fun x w1 v _ ok1 e1 rv h1 => ⟨w1, ρ, rfl, ok1, sr.mono ok e1, go h1 fun y w2 u _ ok2 e2 ru h2 => ho w2 x y v u Q ok2 (e2.rv ok1 rv) ru h2⟩⟩
theorem s_twoL {op : V → V → Hp → VK → Prop} {e : Expr} {p : PX} {f : Store → D → D → Rs (List D)} (h : PE X e (tOp op (tD G cl E pa) (tD G cl E pb))) (hf : ∀ ρ μ, evL cl p ρ μ = (ev cl pa ρ μ).bind fun x μ1 => (ev cl pb ρ μ1).bind fun y μ2 => f μ2 x y)
    (ho : ∀ (w : Wd) (x y : D) (v u : V) (Q : VK) (H0 : Hp), (∀ p, w.H p = none → H0 p = none) → w.Ok G → RV G w x v → RV G w y u → Got G w E (f w.μ x y) (RL G H0) Q → op v u w.H Q) : PE X e (tDL G cl E p) := h.imp fun σ H Q hq => by
  obtain ⟨w, ρ, rfl, ok, sr, h⟩ := hq
  rw [hf] at h
  exact ⟨w, ρ, rfl, ok, sr, go h fun x w1 v _ ok1 e1 rv h1 => ⟨w1, ρ, rfl, ok1, sr.mono ok e1, go h1 fun y w2 u _ ok2 e2 ru h2 => ho w2 x y v u Q w.H (fun p hp => e1.none ok1 (e2.none ok2 hp)) ok2 (e2.rv ok1 rv) ru h2⟩⟩
/-- new objects as ends -/
theorem Got.tup {w : Wd} {xs : List D} {vs : List V} {Q : VK} (h : Got G w E (.ok (.tup xs) w.μ) (RV G) Q) (ok : w.Ok G) (r : RpL G w.F w.H xs vs) : ∀ p, w.H p = none → Q (.ref p) (upd w.H p (.tup vs)) := fun p hp => by
  refine h.at (w1 := { w with H := upd w.H p (.tup vs) }) rfl (fresh_ok ok hp) (fresh_ev G hp) ?_
  exact Rp.tup (.inl upd_same) ((fresh_ev (w := w) G hp).rpL ok r)
theorem Got.lst {w : Wd} {xs : List D} {vs : List V} {Q : VK} (h : Got G w E (.ok (.lst xs) w.μ) (RV G) Q) (ok : w.Ok G) (r : RpL G w.F w.H xs vs) : ∀ p, w.H p = none → Q (.ref p) (upd w.H p (.lst vs)) := fun p hp => by
  have o1 := fresh_ok (o := .lst vs) ok hp
  refine h.at (w1 := { ({ w with H := upd w.H p (.lst vs) } : Wd) with F := fun a => w.F a ∨ a = p }) rfl (hold_ok (vs := vs) o1 upd_same (ok.notCs hp)) (hold_ev (fresh_ev G hp) hp) ?_
  refine Rp.lst ⟨.inr rfl, upd_same⟩ ?_
  exact ((fresh_ev (w := w) G hp).rpL ok r).mono (fun _ _ z => z) (fun _ _ z => ⟨.inl z.1, z.2⟩) fun _ _ _ z => z
theorem Got.newL {w : Wd} {xs : List D} {vs : List V} {Q : VK} {H0 : Hp} (h : Got G w E (.ok xs w.μ) (RL G H0) Q) (ok : w.Ok G) (hn : ∀ p, w.H p = none → H0 p = none) (r : RpL G w.F w.H xs vs) : ∀ p, w.H p = none → Q (.ref p) (upd w.H p (.lst vs)) := fun p hp => by
  refine h.at (w1 := { w with H := upd w.H p (.lst vs) }) rfl (fresh_ok ok hp) (fresh_ev G hp) ?_
  exact ⟨p, vs, rfl, upd_same, ok.notF hp, ok.notCs hp, (fresh_ev (w := w) G hp).rpL ok r, hn p hp⟩
end DL
set_option maxHeartbeats 4000000
/-! DLr: rules that the hand layer lacks. -/
namespace DL
open PySem PySem.Spec PyProof.Rows L2
/-- t * n: the tuple itself -/
theorem tmul_same (l : Addr) (items : Array Value) (n : Nat) (dd : Option Addr) (sl : Array (Option Value)) (x : Int) (u : Tok) (c0 : (decide (x < -(2 ^ 63)) || decide (x ≥ 2 ^ 63)) = false) (c1 : (items.isEmpty || x == 1) = true) :
    Meets (Builtin.«tuple.__mul__» ⟨[.ref l, .int x u], []⟩) (fun _ R s => s.heap.get? l = some { cls := .type "tuple", dict := dd, data := .seq items n, slots := sl } ∧ R (.ok (.ret (Value.ref l))) s) :=
  .of_wp fun prog w A R s h => by
    obtain ⟨hp, g, d, tk, os⟩ := s
    obtain ⟨hl, h⟩ := h
    have f1 := AutoSeq1.idx_int
    wp_walk using wpAny_loadPart' hl
    repeat (first
      | (refine wpAny_ite_false (decide_eq_false (by rw [c0]; exact Bool.false_ne_true)) ?_; wp_walk using wpAny_loadPart' hl)
      | (refine wpAny_ite_true (decide_eq_true c1) ?_; wp_walk using wpAny_loadPart' hl))
    all_goals exact ⟨_, rfl, h⟩
/-- t * n, n below 1: an empty one -/
theorem tmul_none (l : Addr) (items : Array Value) (n : Nat) (dd : Option Addr) (sl : Array (Option Value)) (x : Int) (u : Tok) (c0 : (decide (x < -(2 ^ 63)) || decide (x ≥ 2 ^ 63)) = false) (c1 : (items.isEmpty || x == 1) = false) (c2 : (decide (x ≤ 0) || items.isEmpty) = true) :
    Meets (Builtin.«tuple.__mul__» ⟨[.ref l, .int x u], []⟩) (fun _ R s => s.heap.get? l = some { cls := .type "tuple", dict := dd, data := .seq items n, slots := sl } ∧
      R (.ok (.ret (Value.ref s.heap.objs.size))) { s with heap := s.heap.push { cls := Value.type "tuple", data := Data.seq #[] }, toks := s.toks }) :=
  .of_wp fun prog w A R s h => by
    obtain ⟨hp, g, d, tk, os⟩ := s
    obtain ⟨hl, h⟩ := h
    have f1 := AutoSeq1.idx_int
    wp_walk using wpAny_loadPart' hl
    repeat (first
      | (refine wpAny_ite_false (decide_eq_false (by rw [c0]; exact Bool.false_ne_true)) ?_; wp_walk using wpAny_loadPart' hl)
      | (refine wpAny_ite_false (decide_eq_false (by rw [c1]; exact Bool.false_ne_true)) ?_; wp_walk using wpAny_loadPart' hl)
      | (refine wpAny_ite_true (decide_eq_true c2) ?_; wp_walk using wpAny_loadPart' hl))
    all_goals exact ⟨_, rfl, h⟩
def rTmul (K : PySem.W.Frag) : R2 := fun x y H Q => ∃ l k xs, x = .ref l ∧ y = .int k ∧ SqT K H l xs ∧ -(2 ^ 63) ≤ k ∧ k < 2 ^ 24 ∧ xs.length * k.toNat ≤ sizeLine ∧ (((xs = [] ∨ k = 1) ∧ Q (.ref l) H) ∨ (¬ (xs = [] ∨ k = 1) ∧ ∀ p, H p = none → Q (.ref p) (upd H p (.tup (List.replicate k.toNat xs).flatten))))
section
variable {X : Cx}
theorem op_tmul : OpR X (binaryOp .Mult) (rTmul X.K) := by
  intro pins s σ H x y v u Q I rx ry h
  obtain ⟨l, k, xs, rfl, rfl, hT, h1, h2, hz, q⟩ := h
  cases rx
  obtain ⟨t, rfl⟩ := ry
  obtain ⟨its, r, ⟨⟨cls, dd, data, sl⟩, ho, hc, n, hd⟩, hs⟩ := I.tuple hT
  simp only at hc hd
  subst hc hd
  have hle : its.length = xs.length := r.length.symm
  have hsz0 : its.toArray.size = xs.length := by rw [List.size_toArray, hle]
  have he : its.toArray.isEmpty = decide (xs = []) := by
    cases r with
    | nil => rfl
    | cons _ _ => simp
  have c0 : (decide (k < -(2 ^ 63)) || decide (k ≥ 2 ^ 63)) = false := by
    rw [decide_eq_false (by omega), decide_eq_false (by omega)] <;> rfl
  rcases q with ⟨hsame, q⟩ | ⟨hne, q⟩
  · have c1 : (its.toArray.isEmpty || k == 1) = true := by
      rw [he, Bool.or_eq_true]
      exact hsame.imp (fun e => decide_eq_true e) fun e => beq_iff_eq.mpr e
    refine wpAny_binaryOp_repeat_ref (T := "tuple") (U := "int") (by decide) ⟨_, ho, rfl⟩ (fun s' => typeIs_int s' k t) noFill_tuple_mul F.fills_int_mul F.slot_int_rmul repeat_tuple F.slot_int_index.lookup
      (call_meets F.slot_int_rmul (typeIs_int s k t) F.entry_int_rmul (F.args_int_rmul_2 _ _) (int_rmul_tuple k t l its.toArray n dd sl)
        ⟨ho, rfl, ⟨_, ho, rfl⟩, call_meets F.slot_tuple_mul ⟨_, ho, rfl⟩ F.entry_tuple_mul (F.args_tuple_mul_2 _ _) (tmul_same l its.toArray n dd sl k t c0 c1) ⟨ho, ?_⟩⟩)
    exact ⟨.ref l, H, I, rfl, q⟩
  · have c1 : (its.toArray.isEmpty || k == 1) = false := by
      rw [he, Bool.or_eq_false_iff]
      exact ⟨decide_eq_false fun e => hne (.inl e), beq_eq_false_iff_ne.mpr fun e => hne (.inr e)⟩
    by_cases hk : k ≤ 0
    · have c2 : (decide (k ≤ 0) || its.toArray.isEmpty) = true := by
        rw [decide_eq_true hk]
        rfl
      refine wpAny_binaryOp_repeat_ref (T := "tuple") (U := "int") (by decide) ⟨_, ho, rfl⟩ (fun s' => typeIs_int s' k t) noFill_tuple_mul F.fills_int_mul F.slot_int_rmul repeat_tuple F.slot_int_index.lookup
        (call_meets F.slot_int_rmul (typeIs_int s k t) F.entry_int_rmul (F.args_int_rmul_2 _ _) (int_rmul_tuple k t l its.toArray n dd sl)
          ⟨ho, rfl, ⟨_, ho, rfl⟩, call_meets F.slot_tuple_mul ⟨_, ho, rfl⟩ F.entry_tuple_mul (F.args_tuple_mul_2 _ _) (tmul_none l its.toArray n dd sl k t c0 c1 c2) ⟨ho, ?_⟩⟩)
      have e0 : k.toNat = 0 := by omega
      rw [e0] at q
      refine ⟨.ref s.heap.objs.size, _, I.laid (t' := s.toks) (o := .tup []) (fun b ob q => Heap.get?_push_of_some _ q) (Nat.le_refl _) ?_, rfl, q _ (I.hok.fresh (Nat.le_refl _))⟩
      exact ⟨Nat.zero_le _, [], .nil, IsTup.new _ _⟩
    · have hi : its.toArray.isEmpty = false := (Bool.or_eq_false_iff.mp c1).1
      have c2 : (decide (k ≤ 0) || its.toArray.isEmpty) = false := by
        rw [hi, Bool.or_false]
        exact decide_eq_false hk
      have hsl : (sizeLine : Nat) = 16777216 := rfl
      have hm : ((its.toArray.size : Nat) : Int) * k ≤ 16777216 := by
        rw [hsz0]
        have e1 : (k.toNat : Int) = k := Int.toNat_of_nonneg (by omega)
        rw [← e1]
        have : ((xs.length * k.toNat : Nat) : Int) ≤ (sizeLine : Nat) := Int.ofNat_le.mpr hz
        rw [Int.natCast_mul] at this
        omega
      have flen : (List.replicate k.toNat its).flatten.length ≤ sizeLine := by
        rw [PyProof.Rows.lm_len_rep_flat, hle, Nat.mul_comm]
        exact hz
      have c4 : Builtin.Tuple.tupleTooMany (((its.toArray.size : Nat) : Int) * k) = false := by
        unfold Builtin.Tuple.tupleTooMany
        rw [hsl]
        exact decide_eq_false (by omega)
      refine wpAny_binaryOp_repeat_ref (T := "tuple") (U := "int") (by decide) ⟨_, ho, rfl⟩ (fun s' => typeIs_int s' k t) noFill_tuple_mul F.fills_int_mul F.slot_int_rmul repeat_tuple F.slot_int_index.lookup
        (call_meets F.slot_int_rmul (typeIs_int s k t) F.entry_int_rmul (F.args_int_rmul_2 _ _) (int_rmul_tuple k t l its.toArray n dd sl)
          ⟨ho, rfl, ⟨_, ho, rfl⟩, call_meets F.slot_tuple_mul ⟨_, ho, rfl⟩ F.entry_tuple_mul (F.args_tuple_mul_2 _ _) (tuple_mulW l its.toArray n dd sl k t c0 c1 c2 (by omega) c4 (by rw [size_rep, List.size_toArray]; exact flen)) ⟨ho, ?_⟩⟩)
      rw [size_rep]
      refine ⟨.ref s.heap.objs.size, _, I.laid (t' := s.toks) (o := .tup (List.replicate k.toNat xs).flatten) (fun b ob q => Heap.get?_push_of_some _ q) (Nat.le_refl _) ?_, rfl, q _ (I.hok.fresh (Nat.le_refl _))⟩
      exact ⟨by rw [PyProof.Rows.lm_len_rep_flat, Nat.mul_comm]; exact hz, _, r.rep k.toNat, IsTup.new _ _⟩
end
end DL
set_option maxHeartbeats 1000000
/-! DL3: operators. -/
namespace DL
open PySem PySem.Spec PyProof.Rows L2
variable {G : Gr} {cl : Calls} {E : XK} {X : Cx} {a b c : Expr} {pa pb pc : PX} {pos : Pos}
theorem RV.toInt {w : Wd} {i : Int} {v : V} (h : RV G w (.int i) v) : v = .int i := by cases h; rfl
theorem RV.toBl {w : Wd} {i : Bool} {v : V} (h : RV G w (.bl i) v) : v = .bl i := by cases h; rfl
theorem RV.toStr {w : Wd} {i : Str} {v : V} (h : RV G w (.str i) v) : v = .str i := by cases h; rfl
theorem RV.toNon {w : Wd} {v : V} (h : RV G w .non v) : v = .non := by cases h; rfl
theorem RV.toTup {w : Wd} {xs : List D} {v : V} (h : RV G w (.tup xs) v) : ∃ p vs, v = .ref p ∧ SqT G.K w.H p vs ∧ RpL G w.F w.H xs vs := by
  cases h with
  | tup h r => exact ⟨_, _, rfl, h.sq, r⟩
theorem fitL_ok {xs ys : List D} (h : fitL xs = some ys) : ys = xs ∧ xs.length ≤ sizeLine := by
  unfold fitL at h
  split at h
  · exact ⟨(Option.some.inj h).symm, by assumption⟩
  · cases h
/-- the shape of an operator's rule: from its values by its own reckoning -/
def OpD (G : Gr) (E : XK) (f : Store → D → D → Option D) (r : R2) : Prop :=
  ∀ (w : Wd) (x y : D) (v u : V) (Q : VK), w.Ok G → RV G w x v → RV G w y u → Got G w E (Rs.of (f w.μ x y) w.μ) (RV G) Q → r v u w.H Q
theorem opd_sub : OpD G E (fun μ => binD μ .Sub) (rI0 fun i j => .int (i - j)) := by
  intro w x y v u Q ok rx ry h
  obtain ⟨d, e, h⟩ := h.of
  cases x <;> cases y <;> first | (cases e; cases rx.toInt; cases ry.toInt; exact ⟨_, _, rfl, rfl, h.out ok (Rp.int _)⟩) | (cases e)
theorem small_ok {i : Int} (h : small i = true) : -(2 ^ 64) < i ∧ i < 2 ^ 64 := by
  have := of_decide_eq_true h
  omega
theorem opd_fdiv : OpD G E (fun μ => binD μ .FloorDiv) (rI CDivN fun i j => .int (i.fdiv j)) := by
  intro w x y v u Q ok rx ry h
  obtain ⟨d, e, h⟩ := h.of
  cases x <;> cases y <;> try (cases e)
  rename_i i j
  have e : (if divOk j = true then some (D.int (i.fdiv j)) else none) = some d := e
  split at e
  · rename_i hd
    cases e
    cases rx.toInt
    cases ry.toInt
    have hd := Bool.and_eq_true_iff.mp hd
    exact ⟨_, _, rfl, rfl, ⟨of_decide_eq_true hd.1, of_decide_eq_true hd.2⟩, h.out ok (Rp.int _)⟩
  · cases e
theorem opd_mod : OpD G E (fun μ => binD μ .Mod) (rI (fun _ j => j ≠ 0) fun i j => .int (i.fmod j)) := by
  intro w x y v u Q ok rx ry h
  obtain ⟨d, e, h⟩ := h.of
  cases x <;> cases y <;> try (cases e)
  rename_i i j
  have e : (if j ≠ 0 then some (D.int (i.fmod j)) else none) = some d := e
  split at e
  · rename_i hd
    cases e
    cases rx.toInt
    cases ry.toInt
    exact ⟨_, _, rfl, rfl, hd, h.out ok (Rp.int _)⟩
  · cases e
theorem powOk_ok {i j : Int} (h : powOk i j = true) : CPow i j := by
  have h1 := Bool.and_eq_true_iff.mp h
  have h2 := Bool.and_eq_true_iff.mp h1.1
  exact ⟨of_decide_eq_true h2.1, of_decide_eq_true h2.2, of_decide_eq_true h1.2⟩
theorem opd_pow : OpD G E (fun μ => binD μ .Pow) (rI CPow fun i j => .int (i ^ j.toNat)) := by
  intro w x y v u Q ok rx ry h
  obtain ⟨d, e, h⟩ := h.of
  cases x <;> cases y <;> try (cases e)
  rename_i i j
  have e : (if powOk i j = true then some (D.int (i ^ j.toNat)) else none) = some d := e
  split at e
  · rename_i hd
    cases e
    cases rx.toInt
    cases ry.toInt
    exact ⟨_, _, rfl, rfl, powOk_ok hd, h.out ok (Rp.int _)⟩
  · cases e
theorem opd_shl : OpD G E (fun μ => binD μ .LShift) (rI CPow fun i j => .int (i * 2 ^ j.toNat)) := by
  intro w x y v u Q ok rx ry h
  obtain ⟨d, e, h⟩ := h.of
  cases x <;> cases y <;> try (cases e)
  rename_i i j
  have e : (if powOk i j = true then some (D.int (i * 2 ^ j.toNat)) else none) = some d := e
  split at e
  · rename_i hd
    cases e
    cases rx.toInt
    cases ry.toInt
    exact ⟨_, _, rfl, rfl, powOk_ok hd, h.out ok (Rp.int _)⟩
  · cases e
/-- the two of a new list -/
theorem cat_lst {w : Wd} {x y : D} {v u : V} {xs ys : List D} {Q : VK} (ok : w.Ok G) (rx : RV G w x v) (ry : RV G w y u) (ex : listOf w.μ x = some xs) (ey : listOf w.μ y = some ys) (hl : (xs ++ ys).length ≤ sizeLine)
    (h : ∀ vs us, RpL G w.F w.H xs vs → RpL G w.F w.H ys us → ∀ p, w.H p = none → Q (.ref p) (upd w.H p (.lst (vs ++ us)))) : rCat v u w.H Q := by
  obtain ⟨p, vs, rfl, h1, r1⟩ := ok.listOf rx ex
  obtain ⟨q, us, rfl, h2, r2⟩ := ok.listOf ry ey
  refine ⟨p, q, vs, us, rfl, rfl, h1, h2, ?_, h vs us r1 r2⟩
  rw [← r1.length, ← r2.length, ← List.length_append]
  exact hl
abbrev rAddU (K : PySem.W.Frag) : R2 := fun x y H Q => rI0 (fun i j => .int (i + j)) x y H Q ∨ (fun x y H Q => (∃ i j, x = .str i ∧ y = .str j ∧ i.length + j.length ≤ sizeLine ∧ Q (.str (i ++ j)) H)) x y H Q ∨ (fun x y H Q => rCatA K x y H Q ∨ rCat x y H Q) x y H Q
theorem opr_add : OpR X (binaryOp .Add) (rAddU X.K) := OpR.or op_add (OpR.or op_add_str (OpR.or op_catA op_cat))
theorem opd_add : OpD G E (fun μ => binD μ .Add) (rAddU G.K) := by
  intro w x y v u Q ok rx ry h
  obtain ⟨d, e, h⟩ := h.of
  have lists : ∀ {xs ys : List D}, listOf w.μ x = some xs → listOf w.μ y = some ys → (fitL (xs ++ ys)).map D.lst = some d → rAddU G.K v u w.H Q := fun {xs ys} ex ey e => by
    obtain ⟨zs, e1, e2⟩ := Option.map_eq_some_iff.mp e
    subst e2
    obtain ⟨rfl, hl⟩ := fitL_ok e1
    exact .inr (.inr (.inr (cat_lst ok rx ry ex ey hl fun vs us r1 r2 => h.lst ok (r1.append r2))))
  have gen : (match listOf w.μ x, listOf w.μ y with
    | some xs, some ys => (fitL (xs ++ ys)).map D.lst
    | _, _ => none) = some d → rAddU G.K v u w.H Q := fun e => by
    cases ex : listOf w.μ x with
    | none => rw [ex] at e; cases e
    | some xs =>
      cases ey : listOf w.μ y with
      | none => rw [ex, ey] at e; cases e
      | some ys => rw [ex, ey] at e; exact lists ex ey e
  cases x with
  | int i =>
    cases y with
    | int j =>
      cases e
      cases rx.toInt
      cases ry.toInt
      exact .inl ⟨_, _, rfl, rfl, h.out ok (Rp.int _)⟩
    | _ => exact gen e
  | str s =>
    cases y with
    | str t =>
      have e : (if s.length + t.length ≤ sizeLine then some (D.str (s ++ t)) else none) = some d := e
      split at e
      · cases e
        cases rx.toStr
        cases ry.toStr
        exact .inr (.inl ⟨_, _, rfl, rfl, by assumption, h.out ok (Rp.str _)⟩)
      · cases e
    | _ => exact gen e
  | tup xs =>
    cases y with
    | tup ys =>
      have e : (fitL (xs ++ ys)).map D.tup = some d := e
      obtain ⟨zs, e1, e2⟩ := Option.map_eq_some_iff.mp e
      subst e2
      obtain ⟨rfl, hl⟩ := fitL_ok e1
      obtain ⟨p, vs, rfl, h1, r1⟩ := rx.toTup
      obtain ⟨q, us, rfl, h2, r2⟩ := ry.toTup
      refine .inr (.inr (.inl ⟨p, q, vs, us, rfl, rfl, h1, h2, ?_, fun ez => ?_, fun _ ez => ?_, fun _ _ => h.tup ok (r1.append r2)⟩))
      · rw [← r1.length, ← r2.length, ← List.length_append]
        exact hl
      · subst ez
        cases r1
        exact h.out ok ry
      · subst ez
        cases r2
        rw [List.append_nil] at h
        exact h.out ok rx
    | _ => exact gen e
  | _ => exact gen e
abbrev rMulU (K : PySem.W.Frag) : R2 := fun x y H Q => rI CMul (fun i j => .int (i * j)) x y H Q ∨ (fun x y H Q => rI CMulW (fun i j => .int (i * j)) x y H Q ∨ (fun x y H Q => rTmul K x y H Q ∨ rRep x y H Q) x y H Q) x y H Q
theorem opr_mul : OpR X (binaryOp .Mult) (rMulU X.K) := OpR.or op_mul (OpR.or op_mulW (OpR.or op_tmul op_rep))
theorem repOk_ok {k : Int} (h : repOk k = true) : -(2 ^ 63) ≤ k ∧ k < 2 ^ 24 := by
  have h1 := Bool.and_eq_true_iff.mp h
  have h2 := of_decide_eq_true h1.1
  have h3 := of_decide_eq_true h1.2
  omega
theorem repL_len (k : Int) (xs : List D) : (repL k xs).length = xs.length * k.toNat := by
  unfold repL
  rw [PyProof.Rows.lm_len_rep_flat, Nat.mul_comm]
theorem rep_lst {w : Wd} {x : D} {v : V} {xs : List D} {k : Int} {Q : VK} (ok : w.Ok G) (rx : RV G w x v) (ex : listOf w.μ x = some xs) (hk : repOk k = true) (hl : (repL k xs).length ≤ sizeLine)
    (h : ∀ vs, RpL G w.F w.H xs vs → ∀ p, w.H p = none → Q (.ref p) (upd w.H p (.lst (List.replicate k.toNat vs).flatten))) : rRep v (.int k) w.H Q := by
  obtain ⟨p, vs, rfl, h1, r1⟩ := ok.listOf rx ex
  have hk := repOk_ok hk
  refine ⟨p, k, vs, rfl, rfl, h1, hk.1, by omega, ?_, h vs r1⟩
  rw [← r1.length, ← repL_len]
  exact hl
theorem opd_mul : OpD G E (fun μ => binD μ .Mult) (rMulU G.K) := by
  intro w x y v u Q ok rx ry h
  obtain ⟨d, e, h⟩ := h.of
  cases y with
  | int k =>
    cases ry.toInt
    have gen : (match listOf w.μ x with
      | some xs => if repOk k = true then (fitL (repL k xs)).map D.lst else none
      | none => none) = some d → rMulU G.K v (.int k) w.H Q := fun e => by
      cases ex : listOf w.μ x with
      | none => rw [ex] at e; cases e
      | some xs =>
        rw [ex] at e
        have e : (if repOk k = true then (fitL (repL k xs)).map D.lst else none) = some d := e
        split at e
        · obtain ⟨zs, e1, e2⟩ := Option.map_eq_some_iff.mp e
          subst e2
          obtain ⟨rfl, hl⟩ := fitL_ok e1
          exact .inr (.inr (.inr (rep_lst ok rx ex (by assumption) hl fun vs r => h.lst ok (r.flatten _))))
        · cases e
    cases x with
    | int i =>
      have e : (if mulOk i k = true then some (D.int (i * k)) else none) = some d := e
      split at e
      · rename_i hm
        cases e
        cases rx.toInt
        rcases Bool.or_eq_true_iff.mp hm with hm | hm
        · refine .inl ⟨_, _, rfl, rfl, ?_, h.out ok (Rp.int _)⟩
          exact (Bool.or_eq_true_iff.mp hm).imp small_ok small_ok
        · exact .inr (.inl ⟨_, _, rfl, rfl, (by have z := of_decide_eq_true hm; exact z), h.out ok (Rp.int _)⟩)
      · cases e
    | tup xs =>
      have e : (if repOk k = true then (fitL (repL k xs)).map D.tup else none) = some d := e
      split at e
      · rename_i hk
        obtain ⟨zs, e1, e2⟩ := Option.map_eq_some_iff.mp e
        subst e2
        obtain ⟨rfl, hl⟩ := fitL_ok e1
        obtain ⟨p, vs, rfl, h1, r1⟩ := rx.toTup
        have hk := repOk_ok hk
        refine .inr (.inr (.inl ⟨p, k, vs, rfl, rfl, h1, hk.1, hk.2, ?_, ?_⟩))
        · rw [← r1.length, ← repL_len]
          exact hl
        · by_cases hs : vs = [] ∨ k = 1
          · refine .inl ⟨hs, ?_⟩
            have : repL k xs = xs := by
              rcases hs with rfl | rfl
              · cases r1
                unfold repL
                simp
              · unfold repL
                simp
            rw [this] at h
            exact h.out ok rx
          · exact .inr ⟨hs, h.tup ok (r1.flatten _)⟩
      · cases e
    | _ => exact gen e
  | _ => cases x <;> cases e
theorem s_bin {op : Operator} {r : R2} (ha : PE X a (tD G cl E pa)) (hb : PE X b (tD G cl E pb)) (ho : OpR X (binaryOp op) r) (hd : OpD G E (fun μ => binD μ op) r) : PE X (.BinOp a op b pos) (tD G cl E (.bin op pa pb)) :=
  s_two (pe_op ho ha hb) (f := fun μ x y => Rs.of (binD μ op x y) μ) (fun _ _ => rfl) fun w x y v u Q ok rx ry h => hd w x y v u Q ok rx ry h
def rU0 : UnR X (unaryOp .USub) (rU fun i => .int (-i)) := un_neg
theorem s_neg (ha : PE X a (tD G cl E pa)) : PE X (.UnaryOp .USub a pos) (tD G cl E (.neg pa)) := (pe_un un_neg ha).imp fun σ H Q hq => by
  obtain ⟨w, ρ, rfl, ok, sr, h⟩ := hq
  refine ⟨w, ρ, rfl, ok, sr, go h fun x w1 v _ ok1 e1 rv h1 => ?_⟩
  cases x with
  | int i =>
    cases rv.toInt
    exact ⟨_, rfl, h1.out ok1 (Rp.int _)⟩
  | _ => exact h1.elim
/-- lists joined, repeated, to be one's own -/
theorem s_catL (ha : PE X a (tD G cl E pa)) (hb : PE X b (tD G cl E pb)) : PE X (.BinOp a .Add b pos) (tDL G cl E (.bin .Add pa pb)) :=
  s_twoL (pe_op op_cat ha hb) (f := fun μ x y => Rs.of (binL μ .Add x y) μ) (fun _ _ => rfl) fun w x y v u Q H0 hn ok rx ry h => by
    obtain ⟨d, e, h⟩ := h.of
    cases ex : listOf w.μ x with
    | none => simp [binL, ex] at e
    | some xs =>
      cases ey : listOf w.μ y with
      | none => simp [binL, ex, ey] at e
      | some ys =>
        have e : fitL (xs ++ ys) = some d := by simpa [binL, ex, ey] using e
        obtain ⟨rfl, hl⟩ := fitL_ok e
        exact cat_lst ok rx ry ex ey hl fun vs us r1 r2 => h.newL ok hn (r1.append r2)
theorem s_repL (ha : PE X a (tD G cl E pa)) (hb : PE X b (tD G cl E pb)) : PE X (.BinOp a .Mult b pos) (tDL G cl E (.bin .Mult pa pb)) :=
  s_twoL (pe_op op_rep ha hb) (f := fun μ x y => Rs.of (binL μ .Mult x y) μ) (fun _ _ => rfl) fun w x y v u Q H0 hn ok rx ry h => by
    obtain ⟨d, e, h⟩ := h.of
    cases ex : listOf w.μ x with
    | none => simp [binL, ex] at e
    | some xs =>
      cases y with
      | int k =>
        cases ry.toInt
        have e : (if repOk k = true then fitL (repL k xs) else none) = some d := by simpa [binL, ex] using e
        split at e
        · obtain ⟨rfl, hl⟩ := fitL_ok e
          exact rep_lst ok rx ex (by assumption) hl fun vs r => h.newL ok hn (r.flatten _)
        · cases e
      | _ => simp [binL, ex] at e
end DL
/-! DL4: comparisons, tests, choices, displays, items, slices. -/
namespace DL
open PySem PySem.Spec PyProof.Rows L2
variable {G : Gr} {cl : Calls} {E : XK} {X : Cx} {a b c : Expr} {pa pb pc : PX} {pos : Pos}
theorem res_dp {w : Wd} {x z : D} {v : V} (ok : w.Ok G) (rx : RV G w x v) (e : res w.μ x = some z) (hz : dataD z = true) : Dp G.K w.H v (toP z) := by
  cases x with
  | cell k =>
    cases q : w.μ[k]? with
    | none => simp [res, q] at e
    | some c =>
      have e : D.lst c.xs = z := by simpa [res, q] using e
      subst e
      obtain ⟨p, vs, rfl, h1, r⟩ := ok.listOf (d := .cell k) rx (xs := c.xs) (by simp [listOf, q])
      rw [toP]
      exact .lst (.inl (.inl h1)) (r.dp (by simpa [dataD] using hz))
  | _ =>
    cases e
    exact Rp.dp rx hz
/-- the shape of a comparison's rule -/
def CmD (G : Gr) (E : XK) (op : CmpOp) (r : R2) : Prop :=
  ∀ (w : Wd) (x y : D) (v u : V) (Q : VK), w.Ok G → RV G w x v → RV G w y u → (∀ k, cmpD w.μ op x y = some k → Q (.bl k) w.H) → (∃ k, cmpD w.μ op x y = some k) → r v u w.H Q
theorem eqD_ok {w : Wd} {x y : D} {v u : V} {k : Bool} (ok : w.Ok G) (rx : RV G w x v) (ry : RV G w y u) (e : eqD w.μ x y = some k) : ∃ d f, Dp G.K w.H v d ∧ Dp G.K w.H u f ∧ SeqAt.shaped d = true ∧ SeqAt.shaped f = true ∧ PyData.eqv d f = k := by
  unfold eqD at e
  cases e1 : res w.μ x with
  | none => rw [e1] at e; cases e
  | some x' =>
    cases e2 : res w.μ y with
    | none => rw [e1, e2] at e; cases e
    | some y' =>
      rw [e1, e2] at e
      have e : (if okE x' && okE y' then some (PyData.eqv (toP x') (toP y')) else none) = some k := e
      split at e
      · rename_i hk
        cases e
        have hk := Bool.and_eq_true_iff.mp hk
        have h1 := Bool.and_eq_true_iff.mp hk.1
        have h2 := Bool.and_eq_true_iff.mp hk.2
        exact ⟨_, _, res_dp ok rx e1 h1.1, res_dp ok ry e2 h2.1, h1.2, h2.2, rfl⟩
      · cases e
theorem cmd_eq : CmD G E .Eq (rEqD G.K) := fun w x y v u Q ok rx ry q hk => by
  obtain ⟨k, e⟩ := hk
  obtain ⟨d, f, h1, h2, h3, h4, rfl⟩ := eqD_ok ok rx ry e
  exact ⟨d, f, h1, h2, h3, h4, q _ e⟩
theorem cmd_ne : CmD G E .NotEq (rNeD G.K) := fun w x y v u Q ok rx ry q hk => by
  obtain ⟨k, e⟩ := hk
  obtain ⟨k', e', rfl⟩ := Option.map_eq_some_iff.mp (show (eqD w.μ x y).map (!·) = some k from e)
  obtain ⟨d, f, h1, h2, h3, h4, rfl⟩ := eqD_ok ok rx ry e'
  exact ⟨d, f, h1, h2, h3, h4, q _ e⟩
theorem cmd_lt : CmD G E .Lt (rI0 fun i j => .bl (decide (i < j))) := fun w x y v u Q ok rx ry q hk => by
  obtain ⟨k, e⟩ := hk
  cases x <;> cases y <;> first | (cases e; cases rx.toInt; cases ry.toInt; exact ⟨_, _, rfl, rfl, q _ rfl⟩) | (cases e)
theorem cmd_le : CmD G E .LtE (rI0 fun i j => .bl (decide (i ≤ j))) := fun w x y v u Q ok rx ry q hk => by
  obtain ⟨k, e⟩ := hk
  cases x <;> cases y <;> first | (cases e; cases rx.toInt; cases ry.toInt; exact ⟨_, _, rfl, rfl, q _ rfl⟩) | (cases e)
theorem cmd_gt : CmD G E .Gt (rI0 fun i j => .bl (decide (j < i))) := fun w x y v u Q ok rx ry q hk => by
  obtain ⟨k, e⟩ := hk
  cases x <;> cases y <;> first | (cases e; cases rx.toInt; cases ry.toInt; exact ⟨_, _, rfl, rfl, q _ rfl⟩) | (cases e)
theorem cmd_ge : CmD G E .GtE (rI0 fun i j => .bl (decide (j ≤ i))) := fun w x y v u Q ok rx ry q hk => by
  obtain ⟨k, e⟩ := hk
  cases x <;> cases y <;> first | (cases e; cases rx.toInt; cases ry.toInt; exact ⟨_, _, rfl, rfl, q _ rfl⟩) | (cases e)
theorem flat_V {F : Addr → Prop} {H : Hp} {d : D} {v : V} (r : Rp G F H d v) (h : flatD d = true) : flatV v = true := by
  cases r <;> first | rfl | (cases h)
theorem flat_L {F : Addr → Prop} {H : Hp} : ∀ {ds : List D} {vs : List V}, RpL G F H ds vs → ds.all flatD = true → vs.all flatV = true
  | _, _, .nil, _ => rfl
  | _, _, .cons h r, e => by
    rw [List.all_cons, Bool.and_eq_true] at e ⊢
    exact ⟨flat_V h e.1, flat_L r e.2⟩
theorem flat_eq {F : Addr → Prop} {H : Hp} {d f : D} {v u : V} (r : Rp G F H d v) (s : Rp G F H f u) (h : flatD d = true) (h' : flatD f = true) : PyData.eqv (toP d) (toP f) = eqV v u := by
  cases r <;> cases s <;> first | rfl | (simp [flatD] at h; done) | (simp [flatD] at h'; done) | simp [toP, PyData.eqv, eqV]
theorem flat_any {F : Addr → Prop} {H : Hp} {x : D} {v : V} (rx : Rp G F H x v) (hx : flatD x = true) : ∀ {ds : List D} {vs : List V}, RpL G F H ds vs → ds.all flatD = true → (ds.any fun z => PyData.eqv (toP z) (toP x)) = inV v vs
  | _, _, .nil, _ => rfl
  | _, _, .cons h r, e => by
    rw [List.all_cons, Bool.and_eq_true] at e
    unfold inV
    rw [List.any_cons, List.any_cons, flat_eq h rx e.1 hx, flat_any rx hx r e.2]
    rfl
theorem inD_ok {w : Wd} {x y : D} {v u : V} {k : Bool} (ok : w.Ok G) (rx : RV G w x v) (ry : RV G w y u) (e : inD w.μ x y = some k) : ∃ p xs, u = .ref p ∧ (SqL G.K w.H p xs ∨ SqT G.K w.H p xs) ∧ flatV v = true ∧ xs.all flatV = true ∧ inV v xs = k := by
  unfold inD at e
  cases e1 : seqOf w.μ y with
  | none => rw [e1] at e; cases e
  | some xs =>
    rw [e1] at e
    have e : (if flatD x && xs.all flatD then some (xs.any fun z => PyData.eqv (toP z) (toP x)) else none) = some k := e
    split at e
    · rename_i hk
      cases e
      have hk := Bool.and_eq_true_iff.mp hk
      obtain ⟨p, vs, rfl, h1, r⟩ := ok.seqOf ry e1
      have rx' : Rp G w.F w.H x v := by
        cases x with
        | cell k => simp [flatD] at hk
        | _ => exact rx
      exact ⟨p, vs, rfl, h1, flat_V rx' hk.1, flat_L r hk.2, (flat_any rx' hk.1 r hk.2).symm⟩
    · cases e
theorem cmd_in : CmD G E .In (rIn G.K false) := fun w x y v u Q ok rx ry q hk => by
  obtain ⟨k, e⟩ := hk
  obtain ⟨p, xs, h1, h2, h3, h4, rfl⟩ := inD_ok ok rx ry e
  exact ⟨p, xs, h1, h2, h3, h4, q _ e⟩
theorem cmd_notin : CmD G E .NotIn (rIn G.K true) := fun w x y v u Q ok rx ry q hk => by
  obtain ⟨k, e⟩ := hk
  obtain ⟨k', e', rfl⟩ := Option.map_eq_some_iff.mp (show (inD w.μ x y).map (!·) = some k from e)
  obtain ⟨p, xs, h1, h2, h3, h4, rfl⟩ := inD_ok ok rx ry e'
  exact ⟨p, xs, h1, h2, h3, h4, q _ e⟩
theorem isN_ok {w : Wd} {x : D} {v : V} (rx : RV G w x v) : decide (v = .non) = isNon x := by
  cases x with
  | cell k =>
    obtain ⟨a, _, rfl⟩ := rx
    rfl
  | _ => cases rx <;> rfl
abbrev rIsU : R2 := fun x y H Q => (y = .non ∧ Q (.bl (decide (x = .non))) H) ∨ rIsB x y H Q
abbrev rNotU : R2 := fun x y H Q => (y = .non ∧ Q (.bl (!decide (x = .non))) H) ∨ rNotB x y H Q
theorem cmd_is : CmD G E .Is rIsU := fun w x y v u Q ok rx ry q hk => by
  obtain ⟨k, e⟩ := hk
  cases y with
  | non =>
    refine .inl ⟨ry.toNon, ?_⟩
    rw [isN_ok rx]
    exact q _ rfl
  | bl b =>
    cases x <;> first | (cases e; cases rx.toBl; cases ry.toBl; exact .inr ⟨_, _, rfl, rfl, q _ rfl⟩) | (cases e)
  | _ => cases e
theorem cmd_isnot : CmD G E .IsNot rNotU := fun w x y v u Q ok rx ry q hk => by
  obtain ⟨k, e⟩ := hk
  cases y with
  | non =>
    refine .inl ⟨ry.toNon, ?_⟩
    rw [isN_ok rx]
    exact q _ rfl
  | bl b =>
    cases x <;> first | (cases e; cases rx.toBl; cases ry.toBl; exact .inr ⟨_, _, rfl, rfl, q _ rfl⟩) | (cases e)
  | _ => cases e
theorem cmp_imp {op : CmpOp} {r : R2} (hd : CmD G E op r) {σ : L2.St} {H : Hp} {Q : VK} (hq : tD G cl E (.cmp op pa pb) σ H Q) : tOp r (tD G cl E pa) (tD G cl E pb) σ H Q := by
  obtain ⟨w, ρ, rfl, ok, sr, h⟩ := hq
  refine ⟨w, ρ, rfl, ok, sr, go h fun x w1 v _ ok1 e1 rv h1 => ⟨w1, ρ, rfl, ok1, sr.mono ok e1, go h1 fun y w2 u _ ok2 e2 ru h2 => ?_⟩⟩
  obtain ⟨d, e, h2⟩ := h2.of
  obtain ⟨k, e', rfl⟩ := Option.map_eq_some_iff.mp e
  refine hd w2 x y v u Q ok2 (e2.rv ok1 rv) ru (fun k2 ek => ?_) ⟨k, e'⟩
  rw [e'] at ek
  cases ek
  exact h2.out ok2 (Rp.bl _)
theorem s_cmp {op : CmpOp} {r : R2} (ha : PE X a (tD G cl E pa)) (hb : PE X b (tD G cl E pb)) (ho : OpR X (compareOp op) r) (hm : behindInMarks op b = false) (hd : CmD G E op r) : PE X (.Compare a [op] [b] pos) (tD G cl E (.cmp op pa pb)) :=
  (pe_cmpR ho ha hb hm).imp fun _ _ _ => cmp_imp hd
/-! ### tests -/
theorem tdt_td {p : PX} {σ : L2.St} {H : Hp} {Q : Bool → Hp → Prop} (hq : tDT G cl E p σ H Q) : tD G cl E p σ H (fun x H' => ∃ k, x = .bl k ∧ Q k H') := by
  obtain ⟨w, ρ, rfl, ok, sr, h⟩ := hq
  refine ⟨w, ρ, rfl, ok, sr, go h fun x w1 v _ ok1 e1 rv h1 => ?_⟩
  cases x with
  | bl k => exact ⟨k, rv.toBl, h1.out ok1 rfl⟩
  | _ => exact h1.elim
theorem t_cmp {op : CmpOp} {r : R2} (ha : PE X a (tD G cl E pa)) (hb : PE X b (tD G cl E pb)) (ho : OpR X (compareOp op) r) (hm : behindInMarks op b = false) (hd : CmD G E op r) : PT X (.Compare a [op] [b] pos) (tDT G cl E (.cmp op pa pb)) :=
  (pt_cmpR ho ha hb hm).imp fun _ _ _ hq => cmp_imp hd (tdt_td hq)
theorem t_val {p : PX} (h : PE X a (tD G cl E p)) (he : ∀ whole, isTrue a X.env whole = (do let v ← whole; standAt a.pos; holding [v] (truthy v))) : PT X a (tDT G cl E p) := (pt_val h he).imp fun _ _ _ hq => tdt_td hq
theorem chn_imp {op op' : CmpOp} {r r' : R2} (hd : CmD G E op r) (hd' : CmD G E op' r') {σ : L2.St} {H : Hp} {Q : VK} (hq : tD G cl E (.chn op op' pa pb pc) σ H Q) : tChain r r' (tD G cl E pa) (tD G cl E pb) (tD G cl E pc) σ H Q := by
  obtain ⟨w, ρ, rfl, ok, sr, h⟩ := hq
  refine ⟨w, ρ, rfl, ok, sr, go h fun x w1 v _ ok1 e1 rv h1 => ⟨w1, ρ, rfl, ok1, sr.mono ok e1, go h1 fun y w2 u _ ok2 e2 ru h2 => ?_⟩⟩
  have sr2 := (sr.mono ok e1).mono ok1 e2
  cases ek : cmpD w2.μ op x y with
  | none => rw [ek] at h2; exact h2.elim
  | some k =>
    rw [ek] at h2
    refine hd w2 x y v u _ ok2 (e2.rv ok1 rv) ru (fun k2 ek2 => ?_) ⟨k, ek⟩
    rw [ek] at ek2
    cases ek2
    refine ⟨k, rfl, ?_⟩
    cases k with
    | false =>
      rw [if_neg Bool.false_ne_true]
      exact Got.out (rel := RV G) (b := .bl false) h2 ok2 (Rp.bl false)
    | true =>
      rw [if_pos rfl]
      refine ⟨w2, ρ, rfl, ok2, sr2, go (s := ev cl pc ρ w2.μ) h2 fun z w3 zv _ ok3 e3 rz h3 => ?_⟩
      obtain ⟨d, e, h3⟩ := h3.of
      obtain ⟨k3, e', rfl⟩ := Option.map_eq_some_iff.mp e
      refine hd' w3 y z u zv Q ok3 (e3.rv ok2 ru) rz (fun k2 ek => ?_) ⟨k3, e'⟩
      rw [e'] at ek
      cases ek
      exact h3.out ok3 (Rp.bl _)
theorem s_chn {op op' : CmpOp} {r r' : R2} (h : PE X (.Compare a [op, op'] [b, c] pos) (tChain r r' (tD G cl E pa) (tD G cl E pb) (tD G cl E pc))) (hd : CmD G E op r) (hd' : CmD G E op' r') : PE X (.Compare a [op, op'] [b, c] pos) (tD G cl E (.chn op op' pa pb pc)) := h.imp fun _ _ _ => chn_imp hd hd'
theorem t_chn {op op' : CmpOp} {r r' : R2} (h : PT X (.Compare a [op, op'] [b, c] pos) (tTest (tChain r r' (tD G cl E pa) (tD G cl E pb) (tD G cl E pc)))) (hd : CmD G E op r) (hd' : CmD G E op' r') : PT X (.Compare a [op, op'] [b, c] pos) (tDT G cl E (.chn op op' pa pb pc)) := h.imp fun _ _ _ hq => chn_imp hd hd' (tdt_td hq)
/-- a test's run, then a choice -/
theorem goB {β γ : Type} {w : Wd} {s : Rs D} {f : Bool → Store → Rs β} {rel : Wd → β → γ → Prop} {Q : γ → Hp → Prop} {P : Bool → Hp → Prop} (h : Got G w E (s.bind (onB f)) rel Q)
    (hc : ∀ (k : Bool) (w1 : Wd), s = .ok (.bl k) w1.μ → w1.Ok G → Ev G w w1 → Got G w1 E (f k w1.μ) rel Q → P k w1.H) : Got G w E (s.bind asB) (fun _ b c => c = b) P := by
  cases s with
  | no => exact h
  | ex x μ1 => exact h
  | ok d μ1 =>
    cases d with
    | bl k =>
      intro w1 c m ok1 e1 hr
      subst hr m
      exact hc _ w1 rfl ok1 e1 (Got.mono h ok1 e1)
    | _ => exact h
theorem asB_bind (r : Rs D) (f : Bool → Store → Rs D) : (r.bind (onB f)).bind asB = r.bind (onB fun k μ1 => (f k μ1).bind asB) := by
  cases r with
  | ok d μ => cases d <;> rfl
  | _ => rfl
/-! ### and, or, not, if -/
theorem s_not (ha : PE X a (tD G cl E pa)) : PE X (.UnaryOp .Not a pos) (tD G cl E (.not pa)) := (pe_not ha).imp fun σ H Q hq => by
  obtain ⟨w, ρ, rfl, ok, sr, h⟩ := hq
  refine ⟨w, ρ, rfl, ok, sr, go h fun x w1 v _ ok1 e1 rv h1 => ?_⟩
  cases x with
  | bl k => exact ⟨k, rv.toBl, h1.out ok1 (Rp.bl _)⟩
  | _ => exact h1.elim
theorem t_not (ha : PT X a (tDT G cl E pa)) : PT X (.UnaryOp .Not a pos) (tDT G cl E (.not pa)) := (pt_not ha).imp fun σ H Q hq => by
  obtain ⟨w, ρ, rfl, ok, sr, h⟩ := hq
  rw [ev, asB_bind (ev cl pa ρ w.μ) (fun k μ1 => .ok (.bl (!k)) μ1)] at h
  refine ⟨w, ρ, rfl, ok, sr, goB (f := fun k μ1 => (Rs.ok (D.bl (!k)) μ1).bind asB) h fun k w1 _ ok1 e1 h1 => ?_⟩
  exact Got.out (rel := fun _ b c => c = b) (b := !k) h1 ok1 rfl
variable {rest : List Expr}
theorem s_and (ha : PE X a (tD G cl E pa)) (hb : PE X (.BoolOp .And (b :: rest) pos) (tD G cl E pb)) : PE X (.BoolOp .And (a :: b :: rest) pos) (tD G cl E (.and pa pb)) := (pe_and ha hb).imp fun σ H Q hq => by
  obtain ⟨w, ρ, rfl, ok, sr, h⟩ := hq
  refine ⟨w, ρ, rfl, ok, sr, go h fun x w1 v _ ok1 e1 rv h1 => ?_⟩
  cases x with
  | bl k =>
    refine ⟨k, rv.toBl, ?_⟩
    cases k with
    | true => exact ⟨w1, ρ, rfl, ok1, sr.mono ok e1, h1⟩
    | false => exact Got.out (rel := RV G) (b := .bl false) h1 ok1 (Rp.bl false)
  | _ => exact h1.elim
theorem s_or (ha : PE X a (tD G cl E pa)) (hb : PE X (.BoolOp .Or (b :: rest) pos) (tD G cl E pb)) : PE X (.BoolOp .Or (a :: b :: rest) pos) (tD G cl E (.or pa pb)) := (pe_or ha hb).imp fun σ H Q hq => by
  obtain ⟨w, ρ, rfl, ok, sr, h⟩ := hq
  refine ⟨w, ρ, rfl, ok, sr, go h fun x w1 v _ ok1 e1 rv h1 => ?_⟩
  cases x with
  | bl k =>
    refine ⟨k, rv.toBl, ?_⟩
    cases k with
    | true => exact Got.out (rel := RV G) (b := .bl true) h1 ok1 (Rp.bl true)
    | false => exact ⟨w1, ρ, rfl, ok1, sr.mono ok e1, h1⟩
  | _ => exact h1.elim
theorem w_and (ha : PT X a (tDT G cl E pa)) (hb : PW X (.BoolOp .And (b :: rest) pos) (tDT G cl E pb)) : PW X (.BoolOp .And (a :: b :: rest) pos) (tDT G cl E (.and pa pb)) := (pw_and ha hb).imp fun σ H Q hq => by
  obtain ⟨w, ρ, rfl, ok, sr, h⟩ := hq
  rw [ev, asB_bind (ev cl pa ρ w.μ) (fun c μ1 => if c = true then ev cl pb ρ μ1 else .ok (.bl false) μ1)] at h
  refine ⟨w, ρ, rfl, ok, sr, goB h fun k w1 _ ok1 e1 h1 => ?_⟩
  cases k with
  | true => exact ⟨w1, ρ, rfl, ok1, sr.mono ok e1, h1⟩
  | false => exact Got.out (rel := fun _ b c => c = b) (b := false) h1 ok1 rfl
theorem w_or (ha : PT X a (tDT G cl E pa)) (hb : PW X (.BoolOp .Or (b :: rest) pos) (tDT G cl E pb)) : PW X (.BoolOp .Or (a :: b :: rest) pos) (tDT G cl E (.or pa pb)) := (pw_or ha hb).imp fun σ H Q hq => by
  obtain ⟨w, ρ, rfl, ok, sr, h⟩ := hq
  rw [ev, asB_bind (ev cl pa ρ w.μ) (fun c μ1 => if c = true then .ok (.bl true) μ1 else ev cl pb ρ μ1)] at h
  refine ⟨w, ρ, rfl, ok, sr, goB h fun k w1 _ ok1 e1 h1 => ?_⟩
  cases k with
  | true => exact Got.out (rel := fun _ b c => c = b) (b := true) h1 ok1 rfl
  | false => exact ⟨w1, ρ, rfl, ok1, sr.mono ok e1, h1⟩
theorem s_ife (hc : PT X c (tDT G cl E pc)) (ha : PE X a (tD G cl E pa)) (hb : PE X b (tD G cl E pb)) : PE X (.IfExp c a b pos) (tD G cl E (.ife pc pa pb)) := (pe_ifExp hc ha hb).imp fun σ H Q hq => by
  obtain ⟨w, ρ, rfl, ok, sr, h⟩ := hq
  refine ⟨w, ρ, rfl, ok, sr, goB (f := fun k μ1 => if k = true then ev cl pa ρ μ1 else ev cl pb ρ μ1) h fun k w1 _ ok1 e1 h1 => ?_⟩
  cases k with
  | true => exact ⟨w1, ρ, rfl, ok1, sr.mono ok e1, h1⟩
  | false => exact ⟨w1, ρ, rfl, ok1, sr.mono ok e1, h1⟩
theorem RL.mono {H0 H1 : Hp} (hn : ∀ p, H1 p = none → H0 p = none) {w : Wd} {xs : List D} {v : V} (h : RL G H1 w xs v) : RL G H0 w xs v := by
  obtain ⟨p, vs, h1, h2, h3, h4, h5, h6⟩ := h
  exact ⟨p, vs, h1, h2, h3, h4, h5, hn p h6⟩
theorem Got.rel {α β : Type} {w : Wd} {r : Rs α} {rel rel' : Wd → α → β → Prop} {Q : β → Hp → Prop} (h : Got G w E r rel Q) (hr : ∀ w' d b, rel' w' d b → rel w' d b) : Got G w E r rel' Q := by
  cases r with
  | no => exact h
  | ok d μ => exact fun w' b m ok e z => h w' b m ok e (hr _ _ _ z)
  | ex x μ => exact h
theorem s_ifeL (hc : PT X c (tDT G cl E pc)) (ha : PE X a (tDL G cl E pa)) (hb : PE X b (tDL G cl E pb)) : PE X (.IfExp c a b pos) (tDL G cl E (.ife pc pa pb)) := (pe_ifExp hc ha hb).imp fun σ H Q hq => by
  obtain ⟨w, ρ, rfl, ok, sr, h⟩ := hq
  refine ⟨w, ρ, rfl, ok, sr, goB (f := fun k μ1 => if k = true then evL cl pa ρ μ1 else evL cl pb ρ μ1) h fun k w1 _ ok1 e1 h1 => ?_⟩
  cases k with
  | true => exact ⟨w1, ρ, rfl, ok1, sr.mono ok e1, Got.rel h1 fun _ _ _ => RL.mono fun p => e1.none ok1⟩
  | false => exact ⟨w1, ρ, rfl, ok1, sr.mono ok e1, Got.rel h1 fun _ _ _ => RL.mono fun p => e1.none ok1⟩
end DL
/-! DL5: argument lists, displays, items, slices, kinds, built-in functions. -/
namespace DL
open PySem PySem.Spec PyProof.Rows L2
variable {G : Gr} {cl : Calls} {E : XK} {X : Cx} {a b c : Expr} {pa pb pc : PX} {pos : Pos} {es : List Expr} {ps : PX}
theorem a_nil : PA X [] (tDs G cl E .nl) := pa_nil.imp fun σ H Q hq => by
  obtain ⟨w, ρ, rfl, ok, sr, h⟩ := hq
  exact h.out ok .nil
theorem a_cons (ha : PE X a (tD G cl E pa)) (hr : PA X es (tDs G cl E ps)) (hs : starEach (a :: es) X.env = (false, eval a X.env) :: starEach es X.env) : PA X (a :: es) (tDs G cl E (.cs pa ps)) := (pa_cons ha hr hs).imp fun σ H Q hq => by
  obtain ⟨w, ρ, rfl, ok, sr, h⟩ := hq
  refine ⟨w, ρ, rfl, ok, sr, go h fun x w1 v _ ok1 e1 rv h1 => ⟨w1, ρ, rfl, ok1, sr.mono ok e1, go h1 fun xs w2 vs _ ok2 e2 rs h2 => ?_⟩⟩
  exact h2.out ok2 (.cons (e2.rv ok1 rv) rs)
theorem frz_step {β γ : Type} {w : Wd} {d : D} {v : V} {f : D → Store → Rs β} {rel : Wd → β → γ → Prop} {Q : γ → Hp → Prop} (ok : w.Ok G) (r : RV G w d v) (h : Got G w E ((frz d w.μ).bind f) rel Q) :
    ∃ (w1 : Wd) (d' : D), w1.H = w.H ∧ w1.cs = w.cs ∧ w1.Ok G ∧ Ev G w w1 ∧ Rp G w1.F w1.H d' v ∧ Got G w1 E (f d' w1.μ) rel Q := by
  cases d with
  | cell k =>
    obtain ⟨a, h1, rfl⟩ := r
    cases q : w.μ[k]? with
    | none => simp [frz, q] at h; exact h.elim
    | some c =>
      have h : Got G w E (f (.lst c.xs) (w.μ.set k ⟨1, c.xs⟩)) rel Q := by simpa [frz, q] using h
      have o1 := frz_ok ok q h1
      have e1 := frz_ev G q h1
      obtain ⟨b, vs, g1, g2, g3, _⟩ := ok.cell k c q
      rw [h1] at g1
      cases g1
      exact ⟨{ w with F := fun b => w.F b ∨ b = a, μ := w.μ.set k ⟨1, c.xs⟩ }, .lst c.xs, rfl, rfl, o1, e1, Rp.lst ⟨.inr rfl, g2⟩ (e1.rpL ok g3), Got.mono h o1 e1⟩
  | _ => exact ⟨w, _, rfl, rfl, ok, Ev.refl G w, r, h⟩
theorem frzs_step {β γ : Type} {rel : Wd → β → γ → Prop} {Q : γ → Hp → Prop} : ∀ {ds : List D} {vs : List V} {w : Wd} {f : List D → Store → Rs β}, w.Ok G → RVL G w ds vs → Got G w E ((frzs ds w.μ).bind f) rel Q →
    ∃ (w1 : Wd) (xs : List D), w1.H = w.H ∧ w1.cs = w.cs ∧ w1.Ok G ∧ Ev G w w1 ∧ RpL G w1.F w1.H xs vs ∧ Got G w1 E (f xs w1.μ) rel Q
  | _, _, w, f, ok, .nil, h => ⟨w, [], rfl, rfl, ok, Ev.refl G w, .nil, h⟩
  | _, _, w, f, ok, .cons r rs, h => by
    rw [frzs, Rs.bind_assoc] at h
    obtain ⟨w1, d', g1, c1, ok1, e1, r1, h1⟩ := frz_step ok r h
    rw [Rs.bind_assoc] at h1
    obtain ⟨w2, xs, g2, c2, ok2, e2, r2, h2⟩ := frzs_step ok1 (e1.rvL ok rs) h1
    exact ⟨w2, d' :: xs, g2.trans g1, c2.trans c1, ok2, e1.trans ok1 e2, .cons (e2.rp ok1 r1) r2, h2⟩
theorem s_tup {k} (h : PA X es (tDs G cl E ps)) : PE X (.Tuple es k pos) (tD G cl E (.tup ps)) := (pe_tup h).imp fun σ H Q hq => by
  obtain ⟨w, ρ, rfl, ok, sr, h⟩ := hq
  refine ⟨w, ρ, rfl, ok, sr, go h fun ds w1 vs _ ok1 e1 rv h1 => ?_⟩
  obtain ⟨w2, xs, g, _, ok2, e2, r2, h2⟩ := frzs_step ok1 rv h1
  obtain ⟨d, e, h3⟩ := Got.of h2
  obtain ⟨ys, e', e3⟩ := Option.map_eq_some_iff.mp e
  subst e3
  obtain ⟨e4, hl⟩ := fitL_ok e'
  subst e4
  rw [← g]
  exact ⟨by rw [← r2.length]; exact hl, h3.tup ok2 r2⟩
theorem lst_go {σ : L2.St} {Q : VK} {α : Type} {f : List D → Store → Rs α} {rel : Wd → α → V → Prop} {w : Wd} {ρ : Env} (ok : w.Ok G) (sr : SRel G w ρ σ) (h : Got G w E ((mkL (evs cl ps ρ w.μ)).bind f) rel Q)
    (hf : ∀ (w2 : Wd) (xs : List D) (vs : List V), w2.Ok G → Ev G w w2 → RpL G w2.F w2.H xs vs → Got G w2 E (f xs w2.μ) rel Q → ∀ p, w2.H p = none → Q (.ref p) (upd w2.H p (.lst vs))) : tLst (tDs G cl E ps) σ w.H Q := by
  unfold mkL at h
  rw [Rs.bind_assoc] at h
  refine ⟨w, ρ, rfl, ok, sr, go h fun ds w1 vs _ ok1 e1 rv h1 => ?_⟩
  rw [Rs.bind_assoc] at h1
  obtain ⟨w2, xs, g, _, ok2, e2, r2, h2⟩ := frzs_step ok1 rv h1
  cases q : fitL xs with
  | none => rw [q] at h2; exact h2.elim
  | some ys =>
    rw [q] at h2
    obtain ⟨rfl, hl⟩ := fitL_ok q
    rw [← g]
    exact ⟨by rw [← r2.length]; exact hl, hf w2 _ vs ok2 (e1.trans ok1 e2) r2 h2⟩
theorem s_lst (h : PA X es (tDs G cl E ps)) : PE X (.List es pos) (tD G cl E (.lst ps)) := (pe_lst h).imp fun σ H Q hq => by
  obtain ⟨w, ρ, rfl, ok, sr, h⟩ := hq
  exact lst_go ok sr h fun w2 xs vs ok2 e2 r2 h2 => h2.lst ok2 r2
theorem s_lstL (h : PA X es (tDs G cl E ps)) : PE X (.List es pos) (tDL G cl E (.lst ps)) := (pe_lst h).imp fun σ H Q hq => by
  obtain ⟨w, ρ, rfl, ok, sr, h⟩ := hq
  have e : mkL (evs cl ps ρ w.μ) = (mkL (evs cl ps ρ w.μ)).bind fun xs μ => .ok xs μ := by cases mkL (evs cl ps ρ w.μ) <;> rfl
  have h : Got G w E (mkL (evs cl ps ρ w.μ)) (RL G w.H) Q := h
  rw [e] at h
  exact lst_go ok sr h fun w2 xs vs ok2 e2 r2 h2 => h2.newL ok2 (fun p hp => e2.none ok2 hp) r2
/-! ### items, slices -/
theorem at_ok {F : Addr → Prop} {H : Hp} {xs : List D} {vs : List V} {i : Int} {d : D} (r : RpL G F H xs vs) (e : atI xs i = some d) : ∃ v, atI vs i = some v ∧ Rp G F H d v := by
  unfold atI at e ⊢
  rw [← r.length]
  cases q : ixN xs.length i with
  | none => rw [q] at e; cases e
  | some j =>
    rw [q] at e
    exact r.get j e
abbrev rIxU (K : PySem.W.Frag) : R2 := fun x y H Q => rIxL K x y H Q ∨ rIxT K x y H Q
theorem s_idx (ha : PE X a (tD G cl E pa)) (hb : PE X b (tD G cl E pb)) (hs : PlainIx b) (hK : X.K = G.K) : PE X (.Subscript a b pos) (tD G cl E (.idx pa pb)) :=
  s_two (pe_ix (IxR.or ix_list ix_tup) ha hb hs) (f := fun μ x y => Rs.of (idxD μ x y) μ) (fun _ _ => rfl) fun w x y v u Q ok rx ry h => by
    obtain ⟨d, e, h9⟩ := Got.of h
    rw [hK]
    cases e1 : seqOf w.μ x with
    | none => simp [idxD, e1] at e
    | some xs =>
      cases y with
      | int i =>
        have e : atI xs i = some d := by simpa [idxD, e1] using e
        cases ry.toInt
        obtain ⟨p, vs, rfl, h1, r⟩ := ok.seqOf rx e1
        obtain ⟨z, e2, rz⟩ := at_ok r e
        have hz : RV G w d z := by cases d <;> first | exact rz | cases rz
        rcases h1 with h1 | h1
        · exact .inl ⟨p, vs, i, z, rfl, rfl, h1, e2, h9.out ok hz⟩
        · exact .inr ⟨p, vs, i, z, rfl, rfl, h1, e2, h9.out ok hz⟩
      | _ => simp [idxD, e1] at e
def tDO (G : Gr) (cl : Calls) (E : XK) (p : PX) : TO := fun σ H Q => At G σ H fun w ρ => Got G w E (evO cl p ρ w.μ) (fun _ o i => i = o) Q
theorem _root_.L2.PO.imp {e : Option Expr} {t t' : TO} (h : PO X e t) (hi : ∀ σ H Q, t' σ H Q → t σ H Q) : PO X e t' := ⟨fun pins s σ H Q I hq => h.run pins s σ H Q I (hi σ H Q hq)⟩
theorem o_none : PO X none (tDO G cl E .nl) := po_none.imp fun σ H Q hq => by
  obtain ⟨w, ρ, rfl, ok, sr, h⟩ := hq
  exact h.out ok rfl
theorem o_some (ha : PE X a (tD G cl E pa)) : PO X (some a) (tDO G cl E (.one pa)) := (po_some ha).imp fun σ H Q hq => by
  obtain ⟨w, ρ, rfl, ok, sr, h⟩ := hq
  refine ⟨w, ρ, rfl, ok, sr, go h fun x w1 v _ ok1 e1 rv h1 => ?_⟩
  cases x with
  | int i => exact ⟨i, rv.toInt, h1.out ok1 rfl⟩
  | _ => exact h1.elim
theorem cut_ok {F : Addr → Prop} {H : Hp} {xs : List D} {vs : List V} (r : RpL G F H xs vs) (lo hi : Option Int) : RpL G F H (cutD xs lo hi) (cutV vs lo hi) := by
  unfold cutD cutV
  rw [r.length]
  exact (r.drop _).take _
theorem cut_whole {vs : List V} {lo hi : Option Int} (h : HT.sIx vs.length 0 lo = 0 ∧ HT.sIx vs.length vs.length hi = vs.length) (xs : List D) (e : xs.length = vs.length) : cutD xs lo hi = xs := by
  unfold cutD
  rw [e, h.1, h.2, List.drop_zero, Nat.sub_zero, ← e, List.take_length]
theorem s_slc {lo hi : Option Expr} {pl ph : PX} {p2 : Pos} (ha : PE X a (tD G cl E pa)) (hl : PO X lo (tDO G cl E pl)) (hh : PO X hi (tDO G cl E ph)) (hK : X.K = G.K) : PE X (.Subscript a (.Slice lo hi none p2) pos) (tD G cl E (.slc pa pl ph)) :=
  (pe_slice (SlR.or sl_tupA sl_list) ha hl hh).imp fun σ H Q hq => by
    obtain ⟨w, ρ, rfl, ok, sr, h⟩ := hq
    rw [hK]
    refine ⟨w, ρ, rfl, ok, sr, go h fun x w1 v _ ok1 e1 rv h1 => ⟨w1, ρ, rfl, ok1, sr.mono ok e1, go h1 fun l w2 l' _ ok2 e2 el h2 => ⟨w2, ρ, rfl, ok2, (sr.mono ok e1).mono ok1 e2, go h2 fun u w3 u' _ ok3 e3 eu h3 => ?_⟩⟩⟩
    subst el eu
    obtain ⟨d, e, h3⟩ := h3.of
    have rv3 := e3.rv ok2 (e2.rv ok1 rv)
    have gen : (listOf w3.μ x).map (fun xs => D.lst (cutD xs l' u')) = some d → rSlL G.K v l' u' w3.H Q := fun e => by
      obtain ⟨xs, ex, rfl⟩ := Option.map_eq_some_iff.mp e
      obtain ⟨p, vs, rfl, g1, r⟩ := ok3.listOf rv3 ex
      exact ⟨p, vs, rfl, .inl (.inl g1), h3.lst ok3 (cut_ok r _ _)⟩
    cases x with
    | tup xs =>
      cases e
      obtain ⟨p, vs, rfl, g1, r⟩ := rv3.toTup
      refine .inl ⟨p, vs, rfl, g1, fun z => ?_, fun _ => h3.tup ok3 (cut_ok r _ _)⟩
      rw [cut_whole z xs r.length] at h3
      exact h3.out ok3 rv3
    | _ => exact .inr (gen e)
theorem s_slcL {lo hi : Option Expr} {pl ph : PX} {p2 : Pos} (ha : PE X a (tD G cl E pa)) (hl : PO X lo (tDO G cl E pl)) (hh : PO X hi (tDO G cl E ph)) (hK : X.K = G.K) : PE X (.Subscript a (.Slice lo hi none p2) pos) (tDL G cl E (.slc pa pl ph)) :=
  (pe_slice sl_list ha hl hh).imp fun σ H Q hq => by
    obtain ⟨w, ρ, rfl, ok, sr, h⟩ := hq
    rw [hK]
    refine ⟨w, ρ, rfl, ok, sr, go h fun x w1 v _ ok1 e1 rv h1 => ⟨w1, ρ, rfl, ok1, sr.mono ok e1, go h1 fun l w2 l' _ ok2 e2 el h2 => ⟨w2, ρ, rfl, ok2, (sr.mono ok e1).mono ok1 e2, go h2 fun u w3 u' _ ok3 e3 eu h3 => ?_⟩⟩⟩
    subst el eu
    obtain ⟨d, e, h3⟩ := h3.of
    obtain ⟨xs, ex, rfl⟩ := Option.map_eq_some_iff.mp (show (listOf w3.μ x).map (fun xs => cutD xs l' u') = some d from e)
    obtain ⟨p, vs, rfl, g1, r⟩ := ok3.listOf (e3.rv ok2 (e2.rv ok1 rv)) ex
    exact ⟨p, vs, rfl, .inl (.inl g1), h3.newL ok3 (fun p hp => e1.none ok1 (e2.none ok2 (e3.none ok3 hp))) (cut_ok r _ _)⟩
/-! ### kinds -/
theorem ty_ok {w : Wd} {x : D} {v : V} {t : String} (ok : w.Ok G) (rx : RV G w x v) (e : tyD x = some t) : TyX G.K w.H v (.type t) := by
  cases x with
  | cell k =>
    cases e
    obtain ⟨a, h1, rfl⟩ := rx
    obtain ⟨vs, h2⟩ := ok.inCs (List.mem_of_getElem? h1)
    exact .base (.lst h2)
  | tup xs =>
    cases e
    cases rx with
    | tup h r =>
      rcases h with h | ⟨o, its, n, h1, h2, _⟩
      · exact .base (.tup h)
      · exact .kTuple h1 h2
  | lst xs =>
    cases e
    cases rx with
    | lst h r => exact .base (.lst h.2)
  | scr is => cases e
  | fn n => cases e
  | non => cases e; cases rx; exact .base .non
  | bl k => cases e; cases rx; exact .base (.bl k)
  | int k => cases e; cases rx; exact .base (.int k)
  | str k => cases e; cases rx; exact .base (.str k)
theorem kit_ok {K : PySem.W.Frag} {x : D} {t T : String} {k : Bool} (e : tyD x = some t) (h : isiD x T = some k) : PySem.W.kitOne K (.type t) (.type T) = some k := by
  unfold isiD at h
  rw [e] at h
  have h : (if T = "int" then some (t == "int" || t == "bool") else if T = "bool" ∨ T = "str" ∨ T = "tuple" ∨ T = "list" then some (t == T) else none) = some k := h
  have tt : t = "NoneType" ∨ t = "bool" ∨ t = "int" ∨ t = "str" ∨ t = "tuple" ∨ t = "list" := by
    cases x <;> cases e <;> simp
  split at h
  · subst T
    cases h
    rcases tt with rfl | rfl | rfl | rfl | rfl | rfl <;> exact kit_ty (by decide +kernel)
  · split at h
    · rename_i h1
      cases h
      rcases h1 with rfl | rfl | rfl | rfl <;> rcases tt with rfl | rfl | rfl | rfl | rfl | rfl <;> exact kit_ty (by decide +kernel)
    · cases h
theorem s_isi {T : String} {p1 p2 : Pos} {y : Str} (ha : PE X a (tD G cl E pa)) (hs : starEach (a :: [.Name y p2]) X.env = (false, eval a X.env) :: starEach [.Name y p2] X.env) (hg : Gl X "isinstance") (hm : X.mg "isinstance" = none) (hgT : Gl X y) (hmT : X.mg y = none) (hT : bootBuiltins y = some (.type T)) (hn : y ≠ "__name__") (hd : (y == ("__debug__" : Str)) = false) (hK : X.K = G.K) :
    PE X (.Call (.Name "isinstance" p1) [a, .Name y p2] [] pos) (tD G cl E (.isi pa T)) :=
  (pe_callB call_isi hg hm (by decide +kernel) (pa_cons ha (pa_cons (pe_bltn (v := .ty T) hgT hmT hT rfl hn hd) pa_nil) hs) (he := hs)).imp fun σ H Q hq => by
    obtain ⟨w, ρ, rfl, ok, sr, h⟩ := hq
    rw [hK]
    refine ⟨w, ρ, rfl, ok, sr, go h fun x w1 v _ ok1 e1 rv h1 => ?_⟩
    obtain ⟨d, e, h1⟩ := h1.of
    obtain ⟨k, e', rfl⟩ := Option.map_eq_some_iff.mp e
    cases q : tyD x with
    | none => simp [isiD, q] at e'
    | some t => exact ⟨v, .ty T, .type t, .type T, k, rfl, .ty T, ty_ok ok1 rv q, kit_ok q e', h1.out ok1 (Rp.bl _)⟩
end DL
/-! DL6: calls of built-in functions and of defs. -/
namespace DL
open PySem PySem.Spec PyProof.Rows L2
variable {G : Gr} {cl : Calls} {E : XK} {X : Cx} {a b c : Expr} {pa pb pc : PX} {pos : Pos} {es : List Expr} {ps : PX}
def noStar : Expr → Bool
  | .Starred .. => false
  | _ => true
theorem star_cons (h : noStar a = true) (env : PySem.Env) (es : List Expr) : starEach (a :: es) env = (false, eval a env) :: starEach es env := by
  cases a <;> first | rfl | (cases h)
theorem star_any : ∀ {es : List Expr}, es.all noStar = true → ∀ (pos : Pos) (env : PySem.Env), (backTo pos (starEach es env)).any (·.1) = false
  | [], _, _, _ => rfl
  | e :: es, h, pos, env => by
    rw [List.all_cons, Bool.and_eq_true] at h
    rw [star_cons h.1]
    show (false || (backTo pos (starEach es env)).any (·.1)) = false
    rw [star_any h.2]
    rfl
/-- a built-in function's rule against our own reckoning -/
def BiD (G : Gr) (E : XK) (f : Store → List D → Option D) (r : List V → Hp → VK → Prop) : Prop :=
  ∀ (w : Wd) (ds : List D) (vs : List V) (Q : VK), w.Ok G → RVL G w ds vs → Got G w E (Rs.of (f w.μ ds) w.μ) (RV G) Q → r vs w.H Q
def BiL (G : Gr) (E : XK) (f : Store → List D → Option (List D)) (r : List V → Hp → VK → Prop) : Prop :=
  ∀ (w : Wd) (ds : List D) (vs : List V) (Q : VK) (H0 : Hp), (∀ p, w.H p = none → H0 p = none) → w.Ok G → RVL G w ds vs → Got G w E (Rs.of (f w.μ ds) w.μ) (RL G H0) Q → r vs w.H Q
theorem cb_imp {r : List V → Hp → VK → Prop} {bi : BI} (hd : BiD G E (fun μ ds => biD μ bi ds) r) {σ : L2.St} {H : Hp} {Q : VK} (hq : tD G cl E (.bi bi ps) σ H Q) : tCB r (tDs G cl E ps) σ H Q := by
  obtain ⟨w, ρ, rfl, ok, sr, h⟩ := hq
  exact ⟨w, ρ, rfl, ok, sr, go h fun ds w1 vs _ ok1 e1 rv h1 => hd w1 ds vs Q ok1 rv h1⟩
theorem cb_impL {r : List V → Hp → VK → Prop} {bi : BI} (hd : BiL G E (fun μ ds => biL μ bi ds) r) {σ : L2.St} {H : Hp} {Q : VK} (hq : tDL G cl E (.bi bi ps) σ H Q) : tCB r (tDs G cl E ps) σ H Q := by
  obtain ⟨w, ρ, rfl, ok, sr, h⟩ := hq
  exact ⟨w, ρ, rfl, ok, sr, go h fun ds w1 vs _ ok1 e1 rv h1 => hd w1 ds vs Q w.H (fun p hp => e1.none ok1 hp) ok1 rv h1⟩
theorem s_bi {id : String} {bi : BI} {r : List V → Hp → VK → Prop} {x : Str} {p : Pos} (hc : CallR X (.builtin id) r) (hg : Gl X x) (hm : X.mg x = none) (hv : bootBuiltins x = some (.builtin id)) (hn : x ≠ "__name__") (hdb : (x == ("__debug__" : Str)) = false)
    (ha : PA X (a :: es) (tDs G cl E ps)) (hs : (a :: es).all noStar = true) (hd : BiD G E (fun μ ds => biD μ bi ds) r) : PE X (.Call (.Name x p) (a :: es) [] pos) (tD G cl E (.bi bi ps)) := by
  rw [List.all_cons, Bool.and_eq_true] at hs
  exact (pe_callB hc hg hm hv ha hn hdb (star_cons hs.1 _ _) (star_any hs.2 _ _)).imp fun _ _ _ => cb_imp hd
theorem s_ty {id : String} {bi : BI} {r : List V → Hp → VK → Prop} {x : Str} {p : Pos} (hc : CallR X (.type id) r) (hg : Gl X x) (hm : X.mg x = none) (hv : bootBuiltins x = some (.type id)) (hn : x ≠ "__name__") (hdb : (x == ("__debug__" : Str)) = false)
    (ha : PA X (a :: es) (tDs G cl E ps)) (hs : (a :: es).all noStar = true) (hd : BiD G E (fun μ ds => biD μ bi ds) r) : PE X (.Call (.Name x p) (a :: es) [] pos) (tD G cl E (.bi bi ps)) := by
  rw [List.all_cons, Bool.and_eq_true] at hs
  exact (pe_callTy hc hg hm hv ha hn hdb (star_cons hs.1 _ _) (star_any hs.2 _ _)).imp fun _ _ _ => cb_imp hd
theorem s_biL {id : String} {bi : BI} {r : List V → Hp → VK → Prop} {x : Str} {p : Pos} (hc : CallR X (.builtin id) r) (hg : Gl X x) (hm : X.mg x = none) (hv : bootBuiltins x = some (.builtin id)) (hn : x ≠ "__name__") (hdb : (x == ("__debug__" : Str)) = false)
    (ha : PA X (a :: es) (tDs G cl E ps)) (hs : (a :: es).all noStar = true) (hd : BiL G E (fun μ ds => biL μ bi ds) r) : PE X (.Call (.Name x p) (a :: es) [] pos) (tDL G cl E (.bi bi ps)) := by
  rw [List.all_cons, Bool.and_eq_true] at hs
  exact (pe_callB hc hg hm hv ha hn hdb (star_cons hs.1 _ _) (star_any hs.2 _ _)).imp fun _ _ _ => cb_impL hd
theorem s_tyL {id : String} {bi : BI} {r : List V → Hp → VK → Prop} {x : Str} {p : Pos} (hc : CallR X (.type id) r) (hg : Gl X x) (hm : X.mg x = none) (hv : bootBuiltins x = some (.type id)) (hn : x ≠ "__name__") (hdb : (x == ("__debug__" : Str)) = false)
    (ha : PA X (a :: es) (tDs G cl E ps)) (hs : (a :: es).all noStar = true) (hd : BiL G E (fun μ ds => biL μ bi ds) r) : PE X (.Call (.Name x p) (a :: es) [] pos) (tDL G cl E (.bi bi ps)) := by
  rw [List.all_cons, Bool.and_eq_true] at hs
  exact (pe_callTy hc hg hm hv ha hn hdb (star_cons hs.1 _ _) (star_any hs.2 _ _)).imp fun _ _ _ => cb_impL hd
/-! ### one by one -/
theorem RVL.one {w : Wd} {d : D} {vs : List V} (h : RVL G w [d] vs) : ∃ v, vs = [v] ∧ RV G w d v := by
  cases h with
  | cons h r => cases r; exact ⟨_, rfl, h⟩
theorem RVL.two {w : Wd} {d f : D} {vs : List V} (h : RVL G w [d, f] vs) : ∃ v u, vs = [v, u] ∧ RV G w d v ∧ RV G w f u := by
  cases h with
  | cons h r =>
    obtain ⟨u, rfl, h2⟩ := r.one
    exact ⟨_, _, rfl, h, h2⟩
theorem one_of {α : Type} {f : D → Option α} {ds : List D} {z : α} (h : (match ds with
    | [x] => f x
    | _ => none) = some z) : ∃ x, ds = [x] ∧ f x = some z := by
  cases ds with
  | nil => cases h
  | cons x r =>
    cases r with
    | nil => exact ⟨x, rfl, h⟩
    | cons y r => cases h
abbrev rLenU (K : PySem.W.Frag) : List V → Hp → VK → Prop := fun xs H Q => (∃ p ys, xs = [.ref p] ∧ (SqL K H p ys ∨ SqT K H p ys) ∧ Q (.int ys.length) H) ∨ (∃ z, xs = [.str z] ∧ z.length ≤ sizeLine ∧ Q (.int z.length) H)
theorem bd_len : BiD G E (fun μ ds => biD μ .len ds) (rLenU G.K) := fun w ds vs Q ok rv h => by
  obtain ⟨d, e, h9⟩ := Got.of h
  cases ds with
  | nil => cases e
  | cons x r =>
    cases r with
    | cons y r => cases e
    | nil =>
      obtain ⟨v, rfl, rx⟩ := rv.one
      have gen : (seqOf w.μ x).map (fun xs => D.int xs.length) = some d → rLenU G.K [v] w.H Q := fun e => by
        obtain ⟨xs, ex, rfl⟩ := Option.map_eq_some_iff.mp e
        obtain ⟨p, us, rfl, g1, r⟩ := ok.seqOf rx ex
        refine .inl ⟨p, us, rfl, g1, ?_⟩
        rw [← r.length]
        exact h9.out ok (Rp.int _)
      cases x with
      | str z =>
        have e : (if z.length ≤ sizeLine then some (D.int z.length) else none) = some d := e
        split at e
        · cases e
          cases rx.toStr
          exact .inr ⟨z, rfl, by assumption, h9.out ok (Rp.int _)⟩
        · cases e
      | _ => exact gen e
theorem bd_abs : BiD G E (fun μ ds => biD μ .abs ds) (fun xs H Q => ∃ i, xs = [.int i] ∧ Q (.int (if i < 0 then -i else i)) H) := fun w ds vs Q ok rv h => by
  obtain ⟨d, e, h9⟩ := Got.of h
  cases ds with
  | nil => cases e
  | cons x r =>
    cases r with
    | cons y r => cases x <;> cases e
    | nil =>
      obtain ⟨v, rfl, rx⟩ := rv.one
      cases x with
      | int i => cases e; cases rx.toInt; exact ⟨i, rfl, h9.out ok (Rp.int _)⟩
      | _ => cases e
theorem bd_max2 : BiD G E (fun μ ds => biD μ .max2 ds) (fun xs H Q => ∃ i j, xs = [.int i, .int j] ∧ Q (.int (if j > i then j else i)) H) := fun w ds vs Q ok rv h => by
  obtain ⟨d, e, h9⟩ := Got.of h
  cases ds with
  | nil => cases e
  | cons x r =>
    cases r with
    | nil => cases x <;> cases e
    | cons y r =>
      cases r with
      | cons z r => cases x <;> cases y <;> cases e
      | nil =>
        obtain ⟨v, u, rfl, rx, ry⟩ := rv.two
        cases x with
        | int i =>
          cases y with
          | int j => cases e; cases rx.toInt; cases ry.toInt; exact ⟨i, j, rfl, h9.out ok (Rp.int _)⟩
          | _ => cases e
        | _ => cases e
theorem bd_min2 : BiD G E (fun μ ds => biD μ .min2 ds) (fun xs H Q => ∃ i j, xs = [.int i, .int j] ∧ Q (.int (if j < i then j else i)) H) := fun w ds vs Q ok rv h => by
  obtain ⟨d, e, h9⟩ := Got.of h
  cases ds with
  | nil => cases e
  | cons x r =>
    cases r with
    | nil => cases x <;> cases e
    | cons y r =>
      cases r with
      | cons z r => cases x <;> cases y <;> cases e
      | nil =>
        obtain ⟨v, u, rfl, rx, ry⟩ := rv.two
        cases x with
        | int i =>
          cases y with
          | int j => cases e; cases rx.toInt; cases ry.toInt; exact ⟨i, j, rfl, h9.out ok (Rp.int _)⟩
          | _ => cases e
        | _ => cases e
theorem ints_ok {w : Wd} {x : D} {v : V} {is : List Int} (ok : w.Ok G) (rx : RV G w x v) (e : intsIn w.μ x = some is) : ∃ p, v = .ref p ∧ w.H p = some (.lst (is.map V.int)) := by
  unfold intsIn at e
  cases q : listOf w.μ x with
  | none => rw [q] at e; cases e
  | some xs =>
    rw [q] at e
    obtain ⟨p, us, rfl, g1, r⟩ := ok.listOf rx q
    rw [(r.ints e).1] at g1
    exact ⟨p, rfl, g1⟩
theorem maxI_le : ∀ (is : List Int) (m : Int), m ≤ maxI m is ∧ ∀ i ∈ is, i ≤ maxI m is
  | [], m => ⟨Int.le_refl m, fun _ h => nomatch h⟩
  | i :: r, m => by
    have h := maxI_le r (if m < i then i else m)
    refine ⟨?_, fun j hj => ?_⟩
    · refine Int.le_trans ?_ h.1
      split <;> omega
    · rcases List.mem_cons.mp hj with rfl | hj
      · refine Int.le_trans ?_ h.1
        split <;> omega
      · exact h.2 j hj
theorem maxI_mem : ∀ (is : List Int) (m : Int), maxI m is = m ∨ maxI m is ∈ is
  | [], m => .inl rfl
  | i :: r, m => by
    rcases maxI_mem r (if m < i then i else m) with h | h
    · by_cases c : m < i
      · rw [if_pos c] at h
        refine .inr ?_
        show maxI (if m < i then i else m) r ∈ i :: r
        rw [if_pos c, h]
        exact List.mem_cons_self
      · rw [if_neg c] at h
        refine .inl ?_
        show maxI (if m < i then i else m) r = m
        rw [if_neg c]
        exact h
    · exact .inr (List.mem_cons_of_mem _ h)
theorem minI_le : ∀ (is : List Int) (m : Int), minI m is ≤ m ∧ ∀ i ∈ is, minI m is ≤ i
  | [], m => ⟨Int.le_refl m, fun _ h => nomatch h⟩
  | i :: r, m => by
    have h := minI_le r (if i < m then i else m)
    refine ⟨?_, fun j hj => ?_⟩
    · refine Int.le_trans h.1 ?_
      split <;> omega
    · rcases List.mem_cons.mp hj with rfl | hj
      · refine Int.le_trans h.1 ?_
        split <;> omega
      · exact h.2 j hj
theorem minI_mem : ∀ (is : List Int) (m : Int), minI m is = m ∨ minI m is ∈ is
  | [], m => .inl rfl
  | i :: r, m => by
    rcases minI_mem r (if i < m then i else m) with h | h
    · by_cases c : i < m
      · rw [if_pos c] at h
        refine .inr ?_
        show minI (if i < m then i else m) r ∈ i :: r
        rw [if_pos c, h]
        exact List.mem_cons_self
      · rw [if_neg c] at h
        refine .inl ?_
        show minI (if i < m then i else m) r = m
        rw [if_neg c]
        exact h
    · exact .inr (List.mem_cons_of_mem _ h)
theorem bd_max1 : BiD G E (fun μ ds => biD μ .max1 ds) (rMax G.K) := fun w ds vs Q ok rv h => by
  obtain ⟨d, e, h9⟩ := Got.of h
  cases ds with
  | nil => cases e
  | cons x r =>
    cases r with
    | cons y r => cases e
    | nil =>
      obtain ⟨v, rfl, rx⟩ := rv.one
      cases q : intsIn w.μ x with
      | none => simp [biD, q] at e
      | some is =>
        cases is with
        | nil => simp [biD, q] at e
        | cons i is =>
          have e : D.int (maxI i is) = d := by simpa [biD, q] using e
          subst e
          obtain ⟨p, rfl, g1⟩ := ints_ok ok rx q
          refine ⟨p, i :: is, rfl, .inl (.inl g1), Nat.succ_pos _, fun m hm hle => ?_⟩
          have e : m = maxI i is := by
            have h1 := maxI_le is i
            have h2 : maxI i is ∈ i :: is := (maxI_mem is i).elim (fun z => by rw [z]; exact List.mem_cons_self) (List.mem_cons_of_mem _)
            have h3 := hle _ h2
            have h4 : m ≤ maxI i is := by
              rcases List.mem_cons.mp hm with z | z
              · rw [z]; exact h1.1
              · exact h1.2 m z
            omega
          rw [e]
          exact h9.out ok (Rp.int _)
theorem bd_min1 : BiD G E (fun μ ds => biD μ .min1 ds) (rMin G.K) := fun w ds vs Q ok rv h => by
  obtain ⟨d, e, h9⟩ := Got.of h
  cases ds with
  | nil => cases e
  | cons x r =>
    cases r with
    | cons y r => cases e
    | nil =>
      obtain ⟨v, rfl, rx⟩ := rv.one
      cases q : intsIn w.μ x with
      | none => simp [biD, q] at e
      | some is =>
        cases is with
        | nil => simp [biD, q] at e
        | cons i is =>
          have e : D.int (minI i is) = d := by simpa [biD, q] using e
          subst e
          obtain ⟨p, rfl, g1⟩ := ints_ok ok rx q
          refine ⟨p, i :: is, rfl, .inl (.inl g1), Nat.succ_pos _, fun m hm hle => ?_⟩
          have e : m = minI i is := by
            have h1 := minI_le is i
            have h2 : minI i is ∈ i :: is := (minI_mem is i).elim (fun z => by rw [z]; exact List.mem_cons_self) (List.mem_cons_of_mem _)
            have h3 := hle _ h2
            have h4 : minI i is ≤ m := by
              rcases List.mem_cons.mp hm with z | z
              · rw [z]; exact h1.1
              · exact h1.2 m z
            omega
          rw [e]
          exact h9.out ok (Rp.int _)
theorem bd_sum : BiD G E (fun μ ds => biD μ .sum ds) (rSum G.K) := fun w ds vs Q ok rv h => by
  obtain ⟨d, e, h9⟩ := Got.of h
  cases ds with
  | nil => cases e
  | cons x r =>
    cases r with
    | cons y r => cases e
    | nil =>
      obtain ⟨v, rfl, rx⟩ := rv.one
      obtain ⟨is, q, rfl⟩ := Option.map_eq_some_iff.mp (show (intsIn w.μ x).map (fun is => D.int is.sum) = some d from e)
      obtain ⟨p, rfl, g1⟩ := ints_ok ok rx q
      exact ⟨p, is, rfl, .inl (.inl g1), h9.out ok (Rp.int _)⟩
theorem bools_ok {w : Wd} {x : D} {v : V} {d : D} {g : List Bool → D} (ok : w.Ok G) (rx : RV G w x v) (e : (match listOf w.μ x with
    | some xs => (boolsOf xs).map g
    | none => none) = some d) : ∃ p bs, v = .ref p ∧ w.H p = some (.lst (bs.map V.bl)) ∧ d = g bs := by
  cases q : listOf w.μ x with
  | none => rw [q] at e; cases e
  | some xs =>
    rw [q] at e
    obtain ⟨bs, eb, rfl⟩ := Option.map_eq_some_iff.mp (show (boolsOf xs).map g = some d from e)
    obtain ⟨p, us, rfl, g1, r⟩ := ok.listOf rx q
    rw [r.bools eb] at g1
    exact ⟨p, bs, rfl, g1, rfl⟩
theorem bd_all : BiD G E (fun μ ds => biD μ .all ds) (rAll G.K) := fun w ds vs Q ok rv h => by
  obtain ⟨d, e, h9⟩ := Got.of h
  cases ds with
  | nil => cases e
  | cons x r =>
    cases r with
    | cons y r => cases e
    | nil =>
      obtain ⟨v, rfl, rx⟩ := rv.one
      obtain ⟨p, bs, rfl, g1, rfl⟩ := bools_ok (g := fun bs => .bl (bs.all id)) ok rx e
      exact ⟨p, bs, rfl, .inl (.inl g1), h9.out ok (Rp.bl _)⟩
theorem bd_any : BiD G E (fun μ ds => biD μ .any ds) (rAny G.K) := fun w ds vs Q ok rv h => by
  obtain ⟨d, e, h9⟩ := Got.of h
  cases ds with
  | nil => cases e
  | cons x r =>
    cases r with
    | cons y r => cases e
    | nil =>
      obtain ⟨v, rfl, rx⟩ := rv.one
      obtain ⟨p, bs, rfl, g1, rfl⟩ := bools_ok (g := fun bs => .bl (bs.any id)) ok rx e
      exact ⟨p, bs, rfl, .inl (.inl g1), h9.out ok (Rp.bl _)⟩
theorem bd_int : BiD G E (fun μ ds => biD μ .int ds) (fun xs H Q => (∃ i, xs = [.int i] ∧ Q (.int i) H) ∨ ∃ k, xs = [.bl k] ∧ Q (.int (if k then 1 else 0)) H) := fun w ds vs Q ok rv h => by
  obtain ⟨d, e, h9⟩ := Got.of h
  cases ds with
  | nil => cases e
  | cons x r =>
    cases r with
    | cons y r => cases x <;> cases e
    | nil =>
      obtain ⟨v, rfl, rx⟩ := rv.one
      cases x with
      | int i => cases e; cases rx.toInt; exact .inl ⟨i, rfl, h9.out ok (Rp.int _)⟩
      | _ => cases e
theorem bd_str : BiD G E (fun μ ds => biD μ .str ds) (fun xs H Q => ∃ i, xs = [.int i] ∧ i.natAbs.log2 < 1920 ∧ Q (.str (toString i)) H) := fun w ds vs Q ok rv h => by
  obtain ⟨d, e, h9⟩ := Got.of h
  cases ds with
  | nil => cases e
  | cons x r =>
    cases r with
    | cons y r => cases x <;> cases e
    | nil =>
      obtain ⟨v, rfl, rx⟩ := rv.one
      cases x with
      | int i =>
        have e : (if i.natAbs.log2 < 1920 then some (D.str (toString i)) else none) = some d := e
        split at e
        · cases e; cases rx.toInt; exact ⟨i, rfl, by assumption, h9.out ok (Rp.str _)⟩
        · cases e
      | _ => cases e
theorem bd_tuple : BiD G E (fun μ ds => biD μ .tuple ds) (fun xs H Q => ∃ p ys, xs = [.ref p] ∧ ((SqL G.K H p ys ∧ ∀ l, H l = none → Q (.ref l) (upd H l (.tup ys))) ∨ (SqT G.K H p ys ∧ Q (.ref p) H))) := fun w ds vs Q ok rv h => by
  obtain ⟨d, e, h9⟩ := Got.of h
  cases ds with
  | nil => cases e
  | cons x r =>
    cases r with
    | cons y r => cases e
    | nil =>
      obtain ⟨v, rfl, rx⟩ := rv.one
      obtain ⟨xs, q, rfl⟩ := Option.map_eq_some_iff.mp (show (seqOf w.μ x).map D.tup = some d from e)
      cases x with
      | tup ys =>
        cases q
        have rx0 := rx
        obtain ⟨p, us, rfl, g1, r⟩ := rx.toTup
        exact ⟨p, us, rfl, .inr ⟨g1, h9.out ok rx0⟩⟩
      | lst ys =>
        obtain ⟨p, us, rfl, g1, r⟩ := ok.listOf (d := .lst ys) rx q
        exact ⟨p, us, rfl, .inl ⟨.inl (.inl g1), h9.tup ok r⟩⟩
      | cell k =>
        obtain ⟨p, us, rfl, g1, r⟩ := ok.listOf (d := .cell k) rx q
        exact ⟨p, us, rfl, .inl ⟨.inl (.inl g1), h9.tup ok r⟩⟩
      | _ => cases q
/-- list(..): what it takes -/
theorem list_ok {w : Wd} {x : D} {v : V} {xs : List D} (ok : w.Ok G) (rx : RV G w x v) (e : biL w.μ .list [x] = some xs) : ∃ p us, v = .ref p ∧ (SqL G.K w.H p us ∨ SqT G.K w.H p us) ∧ RpL G w.F w.H xs us := by
  cases x with
  | scr is =>
    have e : is.map D.int = xs := by simpa [biL] using e
    subst e
    cases rx with
    | scr h =>
      refine ⟨_, is.map V.int, rfl, .inl ?_, RpL.map_int is⟩
      rcases h with ⟨o, h⟩ | h
      · exact .inl (.inr ⟨o, h⟩)
      · exact .inr h
  | cell k => exact ok.seqOf (d := .cell k) rx (by simpa [biL] using e)
  | lst k => exact ok.seqOf (d := .lst k) rx (by simpa [biL] using e)
  | tup k => exact ok.seqOf (d := .tup k) rx (by simpa [biL] using e)
  | _ => simp [biL, seqOf] at e
abbrev rListU (K : PySem.W.Frag) : List V → Hp → VK → Prop := fun xs H Q => ∃ p ys, xs = [.ref p] ∧ (SqL K H p ys ∨ SqT K H p ys) ∧ ∀ l, H l = none → Q (.ref l) (upd H l (.lst ys))
theorem bd_list : BiD G E (fun μ ds => biD μ .list ds) (rListU G.K) := fun w ds vs Q ok rv h => by
  obtain ⟨d, e, h9⟩ := Got.of h
  obtain ⟨xs, e1, rfl⟩ := Option.map_eq_some_iff.mp (show (biL w.μ .list ds).map D.lst = some d from e)
  cases ds with
  | nil => cases e1
  | cons x r =>
    cases r with
    | cons y r => cases x <;> cases e1
    | nil =>
      obtain ⟨v, rfl, rx⟩ := rv.one
      obtain ⟨p, us, rfl, g1, r⟩ := list_ok ok rx e1
      exact ⟨p, us, rfl, g1, h9.lst ok r⟩
theorem bl_list : BiL G E (fun μ ds => biL μ .list ds) (rListU G.K) := fun w ds vs Q H0 hn ok rv h => by
  obtain ⟨xs, e1, h9⟩ := Got.of h
  cases ds with
  | nil => cases e1
  | cons x r =>
    cases r with
    | cons y r => cases x <;> cases e1
    | nil =>
      obtain ⟨v, rfl, rx⟩ := rv.one
      obtain ⟨p, us, rfl, g1, r⟩ := list_ok ok rx e1
      exact ⟨p, us, rfl, g1, h9.newL ok hn r⟩
/-! ### sorted -/
theorem ins_perm (i : Int) : ∀ l : List Int, (ins i l).Perm (i :: l)
  | [] => .refl _
  | j :: r => by
    unfold ins
    split
    · exact .refl _
    · exact ((ins_perm i r).cons j).trans (.swap i j r)
theorem srt_perm : ∀ l : List Int, (srt l).Perm l
  | [] => .refl _
  | i :: r => (ins_perm i (srt r)).trans ((srt_perm r).cons i)
theorem ins_sorted (i : Int) : ∀ l : List Int, l.Pairwise (· ≤ ·) → (ins i l).Pairwise (· ≤ ·)
  | [], _ => by simp [ins]
  | j :: r, h => by
    unfold ins
    have h' := List.pairwise_cons.mp h
    split
    · rename_i c
      exact List.pairwise_cons.mpr ⟨fun k hk => by
        rcases List.mem_cons.mp hk with rfl | hk
        · exact c
        · exact Int.le_trans c (h'.1 k hk), h⟩
    · rename_i c
      refine List.pairwise_cons.mpr ⟨fun k hk => ?_, ins_sorted i r h'.2⟩
      rcases List.mem_cons.mp ((ins_perm i r).mem_iff.mp hk) with rfl | hk
      · omega
      · exact h'.1 k hk
theorem srt_sorted : ∀ l : List Int, (srt l).Pairwise (· ≤ ·)
  | [] => .nil
  | i :: r => ins_sorted i _ (srt_sorted r)
theorem srt_unique {l m : List Int} (p : m.Perm l) (s : m.Pairwise (· ≤ ·)) : m = srt l :=
  (p.trans (srt_perm l).symm).eq_of_pairwise (fun a b _ _ h1 h2 => Int.le_antisymm h1 h2) s (srt_sorted l)
theorem sorted_ok {w : Wd} {x : D} {v : V} {ys : List D} (ok : w.Ok G) (rx : RV G w x v) (e : biL w.μ .sorted [x] = some ys) : ∃ p is, v = .ref p ∧ w.H p = some (.lst (is.map V.int)) ∧ ys = (srt is).map D.int := by
  cases q : listOf w.μ x with
  | none => simp [biL, q] at e
  | some xs =>
    have e : (intsOf xs).map (fun is => (srt is).map D.int) = some ys := by simpa [biL, q] using e
    obtain ⟨is, ei, rfl⟩ := Option.map_eq_some_iff.mp e
    obtain ⟨p, us, rfl, g1, r⟩ := ok.listOf rx q
    rw [(r.ints ei).1] at g1
    exact ⟨p, is, rfl, g1, rfl⟩
theorem bd_sorted : BiD G E (fun μ ds => biD μ .sorted ds) (rSortedI G.K) := fun w ds vs Q ok rv h => by
  obtain ⟨d, e, h9⟩ := Got.of h
  obtain ⟨xs, e1, rfl⟩ := Option.map_eq_some_iff.mp (show (biL w.μ .sorted ds).map D.lst = some d from e)
  cases ds with
  | nil => cases e1
  | cons x r =>
    cases r with
    | cons y r => cases x <;> cases e1
    | nil =>
      obtain ⟨v, rfl, rx⟩ := rv.one
      obtain ⟨p, is, rfl, g1, rfl⟩ := sorted_ok ok rx e1
      refine ⟨p, is, rfl, .inl (.inl g1), fun ns' l hp hs hl => ?_⟩
      rw [srt_unique hp hs]
      exact h9.lst ok (RpL.map_int _) l hl
theorem bl_sorted : BiL G E (fun μ ds => biL μ .sorted ds) (rSortedI G.K) := fun w ds vs Q H0 hn ok rv h => by
  obtain ⟨xs, e1, h9⟩ := Got.of h
  cases ds with
  | nil => cases e1
  | cons x r =>
    cases r with
    | cons y r => cases x <;> cases e1
    | nil =>
      obtain ⟨v, rfl, rx⟩ := rv.one
      obtain ⟨p, is, rfl, g1, rfl⟩ := sorted_ok ok rx e1
      refine ⟨p, is, rfl, .inl (.inl g1), fun ns' l hp hs hl => ?_⟩
      rw [srt_unique hp hs]
      exact h9.newL ok hn (RpL.map_int _) l hl
/-! ### defs -/
/-- what a def promises: the run of its data -/
def spF (G : Gr) (cl : Calls) (f np : Nat) : Sp := fun vs H Q E => vs.length = np ∧ ∃ w ds, w.H = H ∧ w.Ok G ∧ RVL G w ds vs ∧ Got G w E (cl f ds w.μ) (RV G) Q
structure Def (X : Cx) (G : Gr) (cl : Calls) (n f np : Nat) (x : Str) : Prop where
  ok : ∃ fd ps, ps.length = np ∧ FnOk X.prog X.w X.K X.mg X.base (L2.CX X.prog X.w) n (G.fa f) fd ps (spF G cl f np) ∧ Binds X.K fd ps []
  kp : PySem.W.keepIn X.K (.ref (G.fa f)) = true
  mg : X.mg x = some (.ref (G.fa f))
theorem sp_go {f np : Nat} {σ : L2.St} {w : Wd} {ρ : Env} {Q : VK} (ok : w.Ok G) (sr : SRel G w ρ σ) (h : Got G w E ((evs cl ps ρ w.μ).bind fun ds μ1 => cl f ds μ1) (RV G) Q) (hl : ∀ ds (w1 : Wd), evs cl ps ρ w.μ = .ok ds w1.μ → ds.length = np) : tCallSD (spF G cl f np) [] (fun _ => E) (tDs G cl E ps) σ w.H Q :=
  ⟨w, ρ, rfl, ok, sr, go h fun ds w1 vs e ok1 e1 rv h1 => by
    rw [List.append_nil]
    exact ⟨by rw [← rv.length]; exact hl ds w1 e, w1, ds, rfl, ok1, rv, h1⟩⟩
def lenP : PX → Nat
  | .cs _ es => lenP es + 1
  | _ => 0
theorem evs_len : ∀ (p : PX) (ρ : Env) (μ : Store) (ds : List D) (μ' : Store), evs cl p ρ μ = .ok ds μ' → ds.length = lenP p
  | .nl, _, _, _, _, e => by cases e; rfl
  | .cs e es, ρ, μ, ds, μ', h => by
    rw [evs] at h
    cases q : ev cl e ρ μ with
    | ok d μ1 =>
      rw [q] at h
      cases q2 : evs cl es ρ μ1 with
      | ok r μ2 =>
        rw [Rs.bind_ok, q2] at h
        cases h
        rw [List.length_cons, evs_len es ρ μ1 r _ q2]
        rfl
      | ex x μ2 => rw [Rs.bind_ok, q2] at h; cases h
      | no => rw [Rs.bind_ok, q2] at h; cases h
    | ex x μ1 => rw [q] at h; cases h
    | no => rw [q] at h; cases h
  | .one _, _, _, _, _, h => by cases h
  | .non, _, _, _, _, h => by cases h
  | .bl _, _, _, _, _, h => by cases h
  | .int _, _, _, _, _, h => by cases h
  | .str _, _, _, _, _, h => by cases h
  | .var _, _, _, _, _, h => by cases h
  | .fn _, _, _, _, _, h => by cases h
  | .bin _ _ _, _, _, _, _, h => by cases h
  | .neg _, _, _, _, _, h => by cases h
  | .not _, _, _, _, _, h => by cases h
  | .and _ _, _, _, _, _, h => by cases h
  | .or _ _, _, _, _, _, h => by cases h
  | .cmp _ _ _, _, _, _, _, h => by cases h
  | .chn _ _ _ _ _, _, _, _, _, h => by cases h
  | .ife _ _ _, _, _, _, _, h => by cases h
  | .tup _, _, _, _, _, h => by cases h
  | .lst _, _, _, _, _, h => by cases h
  | .idx _ _, _, _, _, _, h => by cases h
  | .slc _ _ _, _, _, _, _, h => by cases h
  | .sls _ _, _, _, _, _, h => by cases h
  | .isi _ _, _, _, _, _, h => by cases h
  | .call _ _, _, _, _, _, h => by cases h
  | .cv _ _, _, _, _, _, h => by cases h
  | .bi _ _, _, _, _, _, h => by cases h
  | .new _, _, _, _, _, h => by cases h
  | .comp _ _ _ _ _, _, _, _, _, h => by cases h
  | .comp2 _ _ _ _ _ _ _, _, _, _, _, h => by cases h
  | .rng1 _, _, _, _, _, h => by cases h
  | .rng2 _ _, _, _, _, _, h => by cases h
  | .zp _ _, _, _, _, _, h => by cases h
  | .enm _, _, _, _, _, h => by cases h
  | .frz _, _, _, _, _, h => by cases h
theorem passAt_of (tk : Takes X fun cls d _ H => E cls d H) : ∀ σ, PassesAt (L2.CX X.prog X.w) X σ E := fun σ pins H s e s' I c => tk e s' (XE.of_call I (fun _ _ _ z => z) c)
theorem s_call {n f np : Nat} {x : Str} {p : Pos} (d : Def X G cl n f np x) (hr : Room n X.A) (hg : Gl X x) (tk : Takes X fun cls d _ H => E cls d H) (hdb : (x == ("__debug__" : Str)) = false) (ha : PA X (a :: es) (tDs G cl E ps)) (hs : (a :: es).all noStar = true) (hl : lenP ps = np) :
    PE X (.Call (.Name x p) (a :: es) [] pos) (tD G cl E (.call f ps)) := by
  rw [List.all_cons, Bool.and_eq_true] at hs
  obtain ⟨fd, qs, hq, F, hb⟩ := d.ok
  exact (pe_callSD F hr hg d.mg d.kp hb .nil (passAt_of tk) ha hdb (star_cons hs.1 _ _) (star_any hs.2 _ _)).imp fun σ H Q hq => by
    obtain ⟨w, ρ, rfl, ok, sr, h⟩ := hq
    exact sp_go ok sr h fun ds w1 e => (evs_len ps ρ w.μ ds _ e).trans hl
end DL
/-! DL7: what is walked; comprehensions. -/
namespace DL
open PySem PySem.Spec PyProof.Rows L2
variable {G : Gr} {cl : Calls} {E : XK} {X : Cx} {a b c : Expr} {pa pb pc : PX} {pos : Pos} {es : List Expr} {ps : PX}
/-! ### locks -/
def Wd.lk (w : Wd) (lk : Option Nat) : Wd := { w with μ := locked w.μ lk }
def Wd.ulk (w : Wd) (lk : Option Nat) : Wd := { w with μ := unlocked w.μ lk }
def LkOk (w : Wd) (lk : Option Nat) : Prop := ∀ k, lk = some k → ∃ xs, w.μ[k]? = some ⟨0, xs⟩
theorem st_ok {w : Wd} (ok : w.Ok G) {k st : Nat} {c : Cell} (hk : w.μ[k]? = some c) (h1 : c.st ≠ 1) (h2 : st ≠ 1) : Wd.Ok G { w with μ := w.μ.set k ⟨st, c.xs⟩ } where
  len := by simp [ok.len]
  nd := ok.nd
  cell := fun j c' q => by
    have q : (w.μ.set k ⟨st, c.xs⟩)[j]? = some c' := q
    by_cases hj : j = k
    · subst hj
      rw [List.getElem?_set_self (List.getElem?_eq_some_iff.mp hk).1] at q
      cases q
      obtain ⟨b, us, g1, g2, g3, g4⟩ := ok.cell j c hk
      exact ⟨b, us, g1, g2, g3, fun z => (h2 z).elim, fun z => (h1 (g4.mpr z)).elim⟩
    · rw [List.getElem?_set_ne (Ne.symm hj)] at q
      exact ok.cell j c' q
  fdom := ok.fdom
  jj := ok.jj
theorem lk_ok {w : Wd} (ok : w.Ok G) {lk : Option Nat} (hl : LkOk w lk) : (w.lk lk).Ok G := by
  cases lk with
  | none => exact ok
  | some k =>
    obtain ⟨xs, h⟩ := hl k rfl
    have e : (w.lk (some k)) = { w with μ := w.μ.set k ⟨2, xs⟩ } := by
      unfold Wd.lk
      rw [locked_some h]
    rw [e]
    exact st_ok ok (c := ⟨0, xs⟩) h (show (0 : Nat) ≠ 1 by decide) (by decide)
theorem lk_ev (G : Gr) {w : Wd} {lk : Option Nat} (hl : LkOk w lk) : Ev G w (w.lk lk) := by
  cases lk with
  | none => exact Ev.refl G w
  | some k =>
    obtain ⟨xs, h⟩ := hl k rfl
    have e : (w.lk (some k)) = { w with μ := w.μ.set k ⟨2, xs⟩ } := by
      unfold Wd.lk
      rw [locked_some h]
    rw [e]
    refine ⟨fun _ z => z, fun _ z => .inl z, ⟨[], by simp, fun _ z => nomatch z⟩, fun _ _ z _ _ => z, fun _ ps z => ⟨ps, z⟩, fun j c q z => ?_⟩
    show ∃ c' : Cell, (w.μ.set k ⟨2, xs⟩)[j]? = some c' ∧ _
    by_cases hj : j = k
    · subst hj
      rw [h] at q
      cases q
      exact absurd rfl z
    · exact ⟨c, by rw [List.getElem?_set_ne (Ne.symm hj)]; exact q, rfl, z, id⟩
theorem ulk_both {w w' : Wd} {lk : Option Nat} (hl : LkOk w lk) (ok' : w'.Ok G) (e : Ev G (w.lk lk) w') : (w'.ulk lk).Ok G ∧ Ev G w (w'.ulk lk) := by
  cases lk with
  | none => exact ⟨ok', e⟩
  | some k =>
    obtain ⟨xs, h⟩ := hl k rfl
    have eL : (w.lk (some k)) = { w with μ := w.μ.set k ⟨2, xs⟩ } := by
      unfold Wd.lk
      rw [locked_some h]
    rw [eL] at e
    have hk : k < w.μ.length := (List.getElem?_eq_some_iff.mp h).1
    have ev0 : Ev G w w' := ⟨e.sub, e.old, e.pre, e.keep, e.tb, fun j c q z => by
      have hj : j ≠ k := fun ej => by
        subst ej
        rw [h] at q
        cases q
        exact z rfl
      exact e.lock j c (by show (w.μ.set k ⟨2, xs⟩)[j]? = some c; rw [List.getElem?_set_ne (Ne.symm hj)]; exact q) z⟩
    obtain ⟨⟨st, xs'⟩, h1, h2, h3, _⟩ := e.lock k ⟨2, xs⟩ (List.getElem?_set_self hk) (show (2 : Nat) ≠ 0 by decide)
    have h2 : xs' = xs := h2
    subst h2
    by_cases h4 : st = 2
    · subst h4
      have eU : w'.ulk (some k) = { w' with μ := w'.μ.set k ⟨0, xs'⟩ } := by
        unfold Wd.ulk
        rw [unlocked_two h1]
      rw [eU]
      refine ⟨st_ok ok' (c := ⟨2, xs'⟩) h1 (show (2 : Nat) ≠ 1 by decide) (by decide), ev0.sub, ev0.old, ev0.pre, ev0.keep, ev0.tb, fun j c q z => ?_⟩
      obtain ⟨c', g1, g2⟩ := ev0.lock j c q z
      have hj : j ≠ k := fun ej => by
        subst ej
        rw [h] at q
        cases q
        exact z rfl
      exact ⟨c', by show (w'.μ.set k ⟨0, xs'⟩)[j]? = some c'; rw [List.getElem?_set_ne (Ne.symm hj)]; exact g1, g2⟩
    · have eU : w'.ulk (some k) = w' := by
        unfold Wd.ulk
        rw [unlocked_ne h1 h4]
      rw [eU]
      exact ⟨ok', ev0⟩
/-! ### walks -/
/-- J walks over ds from the state w0 on -/
def Wk (G : Gr) (J : It) (ds : List D) (w0 : Wd) : Prop := ∀ (i : Nat) (w : Wd), w.Ok G → Ev G w0 w →
  (∀ d, ds[i]? = some d → J.go i w.H ∧ ∀ x H', J.yld i w.H x H' → ∃ w' : Wd, w'.H = H' ∧ w'.μ = w.μ ∧ w'.cs = w.cs ∧ w'.F = w.F ∧ w'.Ok G ∧ Ev G w w' ∧ Rp G w'.F w'.H d x) ∧ (ds[i]? = none → J.stop i w.H)
def tDI (G : Gr) (cl : Calls) (E : XK) (p : PX) : TI := fun σ H R => At G σ H fun w ρ => Got G w E (evI cl p ρ w.μ) (fun (w1 : Wd) (q : Its) (J : It) => Wk G J q.1 (w1.lk q.2) ∧ LkOk w1 q.2) R
theorem _root_.L2.PI.imp {tg it : Expr} {t t' : TI} (h : PI X tg it t) (hi : ∀ σ H R, t' σ H R → t σ H R) : PI X tg it t' := ⟨fun pins s σ H R I hq => h.run pins s σ H R I (hi σ H R hq)⟩
theorem _root_.L2.PI.or {tg it : Expr} {t t' : TI} (h : PI X tg it t) (h' : PI X tg it t') : PI X tg it (fun σ H R => t σ H R ∨ t' σ H R) := ⟨fun pins s σ H R I hq => hq.elim (h.run pins s σ H R I) (h'.run pins s σ H R I)⟩
theorem wk_list {w0 : Wd} {ds : List D} {a : Addr} (h : ∀ w : Wd, w.Ok G → Ev G w0 w → ∃ vs, w.H a = some (.lst vs) ∧ RpL G w.F w.H ds vs) (K : PySem.W.Frag) : Wk G (Itl K a) ds w0 := fun i w ok e => by
  obtain ⟨vs, h1, r⟩ := h w ok e
  have sq : SqL K w.H a vs := .inl (.inl h1)
  refine ⟨fun d hd => ?_, fun hd => ⟨vs, sq, List.getElem?_eq_none_iff.mp (r.none_of hd)⟩⟩
  obtain ⟨x, h2, h3⟩ := r.get i hd
  refine ⟨⟨vs, x, sq, h2⟩, fun y H' hy => ?_⟩
  obtain ⟨rfl, hf⟩ := hy
  have := hf vs sq
  rw [h2] at this
  cases this
  exact ⟨w, rfl, rfl, rfl, rfl, ok, Ev.refl G w, h3⟩
theorem wk_tup {w0 : Wd} {ds : List D} {a : Addr} (h : ∀ w : Wd, w.Ok G → Ev G w0 w → ∃ vs, SqT G.K w.H a vs ∧ RpL G w.F w.H ds vs) : Wk G (Itt G.K a) ds w0 := fun i w ok e => by
  obtain ⟨vs, sq, r⟩ := h w ok e
  refine ⟨fun d hd => ?_, fun hd => ⟨vs, sq, List.getElem?_eq_none_iff.mp (r.none_of hd)⟩⟩
  obtain ⟨x, h2, h3⟩ := r.get i hd
  refine ⟨⟨vs, x, sq, h2⟩, fun y H' hy => ?_⟩
  obtain ⟨rfl, hf⟩ := hy
  have := hf vs sq
  rw [h2] at this
  cases this
  exact ⟨w, rfl, rfl, rfl, rfl, ok, Ev.refl G w, h3⟩
theorem rng_get (lo hi : Int) (i : Nat) : (rngL lo hi)[i]? = if i < (hi - lo).toNat then some (.int (lo + (i : Nat))) else none := by
  unfold rngL
  rw [List.getElem?_map]
  by_cases h : i < (hi - lo).toNat
  · rw [if_pos h, List.getElem?_range h]
    rfl
  · rw [if_neg h, List.getElem?_eq_none (by simpa using h)]
    rfl
theorem wk_rng (lo hi : Int) (w0 : Wd) : Wk G (Itr lo (hi - lo).toNat) (rngL lo hi) w0 := fun i w ok e => by
  rw [rng_get]
  by_cases h : i < (hi - lo).toNat
  · rw [if_pos h]
    refine ⟨fun d hd => ?_, fun hd => by cases hd⟩
    cases hd
    refine ⟨h, fun y H' hy => ?_⟩
    obtain ⟨rfl, rfl⟩ := hy
    exact ⟨w, rfl, rfl, rfl, rfl, ok, Ev.refl G w, Rp.int _⟩
  · rw [if_neg h]
    exact ⟨fun d hd => (by cases hd), fun _ => Nat.le_of_not_lt h⟩
/-- pairs, made anew at each turn -/
theorem wk_pair {J : It} {ds : List D} {w0 : Wd} {x y : Nat → D} (hd : ∀ (i : Nat) (d : D), ds[i]? = some d → d = .tup [x i, y i])
    (hg : ∀ (w : Wd) (i : Nat), w.Ok G → Ev G w0 w → ds[i]? ≠ none → J.go i w.H ∧ ∀ z H', J.yld i w.H z H' → ∃ T u v, z = .ref T ∧ w.H T = none ∧ H' = upd w.H T (.tup [u, v]) ∧ Rp G w.F w.H (x i) u ∧ Rp G w.F w.H (y i) v)
    (hs : ∀ (w : Wd) (i : Nat), w.Ok G → Ev G w0 w → ds[i]? = none → J.stop i w.H) : Wk G J ds w0 := fun i w ok e => by
  refine ⟨fun d h => ?_, fun h => hs w i ok e h⟩
  obtain ⟨g1, g2⟩ := hg w i ok e (by rw [h]; exact fun z => by cases z)
  refine ⟨g1, fun z H' hz => ?_⟩
  obtain ⟨T, u, v, rfl, hT, rfl, r1, r2⟩ := g2 z H' hz
  have e1 := fresh_ev (w := w) (o := .tup [u, v]) G hT
  rw [hd i d h]
  exact ⟨{ w with H := upd w.H T (.tup [u, v]) }, rfl, rfl, rfl, rfl, fresh_ok ok hT, e1, Rp.tup (.inl upd_same) (.cons (e1.rp ok r1) (.cons (e1.rp ok r2) .nil))⟩
theorem zip_get : ∀ (xs ys : List D) (i : Nat), (zipL xs ys)[i]? = match xs[i]?, ys[i]? with
    | some x, some y => some (.tup [x, y])
    | _, _ => none
  | [], _, i => by simp [zipL]
  | x :: xs, [], i => by
    cases h : (x :: xs)[i]? <;> simp [zipL]
  | x :: xs, y :: ys, 0 => rfl
  | x :: xs, y :: ys, i + 1 => by
    show (zipL xs ys)[i]? = _
    rw [zip_get xs ys i]
    rfl
theorem zip_some {xs ys : List D} {i : Nat} (h : (zipL xs ys)[i]? ≠ none) : ∃ x y, xs[i]? = some x ∧ ys[i]? = some y ∧ (zipL xs ys)[i]? = some (.tup [x, y]) := by
  rw [zip_get] at h ⊢
  cases hx : xs[i]? with
  | none => rw [hx] at h; exact absurd rfl h
  | some x =>
    cases hy : ys[i]? with
    | none => rw [hx, hy] at h; exact absurd rfl h
    | some y => exact ⟨x, y, rfl, rfl, rfl⟩
theorem zip_none {xs ys : List D} {i : Nat} (h : (zipL xs ys)[i]? = none) : xs[i]? = none ∨ ys[i]? = none := by
  rw [zip_get] at h
  cases hx : xs[i]? with
  | none => exact .inl rfl
  | some x =>
    cases hy : ys[i]? with
    | none => exact .inr rfl
    | some y => rw [hx, hy] at h; cases h
theorem zip_pair {xs ys : List D} (i : Nat) (d : D) (h : (zipL xs ys)[i]? = some d) : d = .tup [xs.getD i .non, ys.getD i .non] := by
  obtain ⟨x, y, h1, h2, h3⟩ := zip_some (xs := xs) (ys := ys) (i := i) (by rw [h]; exact fun z => by cases z)
  rw [h] at h3
  cases h3
  rw [List.getD_eq_getElem?_getD, List.getD_eq_getElem?_getD, h1, h2]
  rfl
theorem wk_zipL {w0 : Wd} {xs ys : List D} {a b : Addr} (K : PySem.W.Frag) (h : ∀ w : Wd, w.Ok G → Ev G w0 w → ∃ vs us, w.H a = some (.lst vs) ∧ RpL G w.F w.H xs vs ∧ w.H b = some (.lst us) ∧ RpL G w.F w.H ys us) : Wk G (Itz K a b) (zipL xs ys) w0 := by
  refine wk_pair zip_pair (fun w i ok e hi => ?_) (fun w i ok e hi => ?_)
  · obtain ⟨x, y, h1, h2, h3⟩ := zip_some hi
    obtain ⟨vs, us, g1, r1, g2, r2⟩ := h w ok e
    obtain ⟨v, k1, k2⟩ := r1.get i h1
    obtain ⟨u, k3, k4⟩ := r2.get i h2
    have s1 : SqL K w.H a vs := .inl (.inl g1)
    have s2 : SqL K w.H b us := .inl (.inl g2)
    refine ⟨⟨vs, us, v, u, s1, s2, k1, k3⟩, fun z H' hz => ?_⟩
    obtain ⟨T, v', u', rfl, hT, rfl, f1, f2⟩ := hz
    have e1 := f1 vs s1
    have e2 := f2 us s2
    rw [k1] at e1
    rw [k3] at e2
    cases e1
    cases e2
    refine ⟨T, v, u, rfl, hT, rfl, ?_, ?_⟩
    · rw [List.getD_eq_getElem?_getD, h1]; exact k2
    · rw [List.getD_eq_getElem?_getD, h2]; exact k4
  · obtain ⟨vs, us, g1, r1, g2, r2⟩ := h w ok e
    refine ⟨vs, us, .inl (.inl g1), .inl (.inl g2), (zip_none hi).imp (fun z => List.getElem?_eq_none_iff.mp (r1.none_of z)) fun z => List.getElem?_eq_none_iff.mp (r2.none_of z)⟩
theorem wk_zipT {w0 : Wd} {xs ys : List D} {a b : Addr} (h : ∀ w : Wd, w.Ok G → Ev G w0 w → ∃ vs us, SqT G.K w.H a vs ∧ RpL G w.F w.H xs vs ∧ SqT G.K w.H b us ∧ RpL G w.F w.H ys us) : Wk G (RZ.ItzT G.K a b) (zipL xs ys) w0 := by
  refine wk_pair zip_pair (fun w i ok e hi => ?_) (fun w i ok e hi => ?_)
  · obtain ⟨x, y, h1, h2, h3⟩ := zip_some hi
    obtain ⟨vs, us, s1, r1, s2, r2⟩ := h w ok e
    obtain ⟨v, k1, k2⟩ := r1.get i h1
    obtain ⟨u, k3, k4⟩ := r2.get i h2
    refine ⟨⟨vs, us, v, u, s1, s2, k1, k3⟩, fun z H' hz => ?_⟩
    obtain ⟨T, v', u', rfl, hT, rfl, f1, f2⟩ := hz
    have e1 := f1 vs s1
    have e2 := f2 us s2
    rw [k1] at e1
    rw [k3] at e2
    cases e1
    cases e2
    refine ⟨T, v, u, rfl, hT, rfl, ?_, ?_⟩
    · rw [List.getD_eq_getElem?_getD, h1]; exact k2
    · rw [List.getD_eq_getElem?_getD, h2]; exact k4
  · obtain ⟨vs, us, g1, r1, g2, r2⟩ := h w ok e
    refine ⟨vs, us, g1, g2, (zip_none hi).imp (fun z => List.getElem?_eq_none_iff.mp (r1.none_of z)) fun z => List.getElem?_eq_none_iff.mp (r2.none_of z)⟩
theorem enm_get : ∀ (xs : List D) (n i : Nat), (enmL n xs)[i]? = (xs[i]?).map fun x => .tup [.int ((n + i : Nat) : Int), x]
  | [], _, i => by simp [enmL]
  | x :: xs, n, 0 => rfl
  | x :: xs, n, i + 1 => by
    show (enmL (n + 1) xs)[i]? = _
    rw [enm_get xs (n + 1) i]
    show _ = (xs[i]?).map _
    rw [show n + 1 + i = n + (i + 1) by omega]
theorem wk_enmL {w0 : Wd} {xs : List D} {a : Addr} (K : PySem.W.Frag) (h : ∀ w : Wd, w.Ok G → Ev G w0 w → ∃ vs, w.H a = some (.lst vs) ∧ RpL G w.F w.H xs vs) : Wk G (Ite K a) (enmL 0 xs) w0 := by
  refine wk_pair (x := fun i => .int (i : Nat)) (y := fun i => xs.getD i .non) (fun i d hd => ?_) (fun w i ok e hi => ?_) (fun w i ok e hi => ?_)
  · rw [enm_get] at hd
    obtain ⟨x, h1, rfl⟩ := Option.map_eq_some_iff.mp hd
    rw [List.getD_eq_getElem?_getD, h1, Nat.zero_add]
    rfl
  · obtain ⟨vs, g1, r1⟩ := h w ok e
    have s1 : SqL K w.H a vs := .inl (.inl g1)
    cases hx : xs[i]? with
    | none => rw [enm_get, hx] at hi; exact absurd rfl hi
    | some x =>
      obtain ⟨v, k1, k2⟩ := r1.get i hx
      refine ⟨⟨vs, v, s1, k1⟩, fun z H' hz => ?_⟩
      obtain ⟨T, v', rfl, hT, rfl, f1⟩ := hz
      have e1 := f1 vs s1
      rw [k1] at e1
      cases e1
      refine ⟨T, _, v, rfl, hT, rfl, Rp.int _, ?_⟩
      show Rp G w.F w.H (xs.getD i .non) v
      rw [List.getD_eq_getElem?_getD, hx]
      exact k2
  · obtain ⟨vs, g1, r1⟩ := h w ok e
    have hx : xs[i]? = none := by
      rw [enm_get] at hi
      cases hx : xs[i]? with
      | none => rfl
      | some x => rw [hx] at hi; cases hi
    exact ⟨vs, .inl (.inl g1), List.getElem?_eq_none_iff.mp (r1.none_of hx)⟩
/-- a list of the store, locked or kept, stays what it is -/
theorem cell_stays {w w1 : Wd} (ok : w.Ok G) (ok1 : w1.Ok G) (e : Ev G w w1) {k : Nat} {c : Cell} {a : Addr} (h1 : w.μ[k]? = some c) (h2 : c.st ≠ 0) (h3 : w.cs[k]? = some a) : ∃ vs, w1.H a = some (.lst vs) ∧ RpL G w1.F w1.H c.xs vs := by
  obtain ⟨c', g1, g2, g3, _⟩ := e.lock k c h1 h2
  obtain ⟨b, vs, k1, k2, k3, _⟩ := ok1.cell k c' g1
  rw [e.csGet h3] at k1
  cases k1
  rw [← g2]
  exact ⟨vs, k2, k3⟩
theorem lst_stays {w w1 : Wd} (ok : w.Ok G) (e : Ev G w w1) {xs : List D} {v : V} (h : Rp G w.F w.H (.lst xs) v) : ∃ p vs, v = .ref p ∧ w1.H p = some (.lst vs) ∧ RpL G w1.F w1.H xs vs := by
  have h1 := e.rp ok h
  cases h1 with
  | lst g r => exact ⟨_, _, rfl, g.2, r⟩
/-- what is walked, where it is a value -/
theorem i_val {tg it : Expr} (h : PE X it (tD G cl E pa)) (hK : X.K = G.K) : PI X tg it (tDI G cl E (.one pa)) :=
  (PI.or (pi_list h) (pi_tup h)).imp fun σ H R hq => by
    obtain ⟨w, ρ, rfl, ok, sr, hq⟩ := hq
    have hq : Got G w E ((ev cl pa ρ w.μ).bind fun x μ1 => match seqOf μ1 x with
      | some xs => .ok (xs, lockOf μ1 x) μ1
      | none => .no) (fun (w1 : Wd) (q : Its) (J : It) => Wk G J q.1 (w1.lk q.2) ∧ LkOk w1 q.2) R := hq
    have isT : (∃ xs μ1, ev cl pa ρ w.μ = .ok (.tup xs) μ1) ∨ ¬ ∃ xs μ1, ev cl pa ρ w.μ = .ok (.tup xs) μ1 := Classical.em _
    rw [hK]
    rcases isT with ⟨xs, μ1, e⟩ | hn
    · refine .inr ⟨w, ρ, rfl, ok, sr, go hq fun x w1 v ex ok1 e1 rv h1 => ?_⟩
      rw [e] at ex
      cases ex
      have rv0 : Rp G w1.F w1.H (.tup xs) v := rv
      obtain ⟨p, vs, rfl, g1, r⟩ := RV.toTup (w := w1) rv
      refine ⟨p, rfl, ⟨vs, g1⟩, Got.out (rel := fun (w1 : Wd) (q : Its) (J : It) => Wk G J q.1 (w1.lk q.2) ∧ LkOk w1 q.2) h1 ok1 ⟨?_, fun k z => by cases z⟩⟩
      refine wk_tup fun w2 ok2 e2 => ?_
      have h2 := Ev.rp ok1 (show Ev G w1 w2 from e2) rv0
      cases h2 with
      | tup h r => exact ⟨_, h.sq, r⟩
    · refine .inl ⟨w, ρ, rfl, ok, sr, go hq fun x w1 v ex ok1 e1 rv h1 => ?_⟩
      cases x with
      | tup xs => exact (hn ⟨xs, _, ex⟩).elim
      | lst xs =>
        have rv0 : Rp G w1.F w1.H (.lst xs) v := rv
        obtain ⟨p, vs, rfl, g1, r⟩ := ok1.listOf (d := .lst xs) rv rfl
        refine ⟨p, rfl, ⟨vs, .inl (.inl g1)⟩, Got.out (rel := fun (w1 : Wd) (q : Its) (J : It) => Wk G J q.1 (w1.lk q.2) ∧ LkOk w1 q.2) h1 ok1 ⟨?_, fun k z => by cases z⟩⟩
        refine wk_list (fun w2 ok2 e2 => ?_) _
        obtain ⟨q, us, eq, h2, h3⟩ := lst_stays ok1 (show Ev G w1 w2 from e2) rv0
        cases eq
        exact ⟨us, h2, h3⟩
      | cell k =>
        obtain ⟨a, g0, rfl⟩ := rv
        cases q : w1.μ[k]? with
        | none => simp [seqOf, q] at h1; exact h1.elim
        | some c =>
          have h1 : Got G w1 E (.ok (c.xs, lockOf w1.μ (.cell k)) w1.μ) (fun (w1 : Wd) (q : Its) (J : It) => Wk G J q.1 (w1.lk q.2) ∧ LkOk w1 q.2) R := by
            simpa [seqOf, q] using h1
          obtain ⟨b, vs, k1, k2, k3, k4⟩ := ok1.cell k c q
          rw [g0] at k1
          cases k1
          have hL : LkOk w1 (lockOf w1.μ (.cell k)) := fun j hj => by
            obtain ⟨st, xs⟩ := c
            by_cases hst : st = 0
            · subst hst
              rw [lockOf_zero q] at hj
              cases hj
              exact ⟨_, q⟩
            · rw [lockOf_ne q hst] at hj
              cases hj
          refine ⟨a, rfl, ⟨vs, .inl (.inl k2)⟩, Got.out h1 ok1 ⟨?_, hL⟩⟩
          refine wk_list (fun w2 ok2 e2 => ?_) _
          have okL := lk_ok ok1 hL
          obtain ⟨st, xs⟩ := c
          by_cases hst : st = 0
          · subst hst
            rw [lockOf_zero q] at e2 okL
            have eL : (w1.lk (some k)) = { w1 with μ := w1.μ.set k ⟨2, xs⟩ } := by
              unfold Wd.lk
              rw [locked_some q]
            rw [eL] at e2 okL
            exact cell_stays okL ok2 e2 (c := ⟨2, xs⟩) (List.getElem?_set_self (List.getElem?_eq_some_iff.mp q).1) (show (2 : Nat) ≠ 0 by decide) g0
          · rw [lockOf_ne q hst] at e2
            exact cell_stays ok1 ok2 e2 (c := ⟨st, xs⟩) q hst g0
      | non => simp [seqOf] at h1; exact h1.elim
      | bl k => simp [seqOf] at h1; exact h1.elim
      | int k => simp [seqOf] at h1; exact h1.elim
      | str k => simp [seqOf] at h1; exact h1.elim
      | fn k => simp [seqOf] at h1; exact h1.elim
      | scr k => simp [seqOf] at h1; exact h1.elim
theorem one_star (h : noStar a = true) (env : PySem.Env) : starEach [a] env = [(false, eval a env)] := star_cons h env []
abbrev WkL (G : Gr) : Wd → Its → It → Prop := fun w1 q J => Wk G J q.1 (w1.lk q.2) ∧ LkOk w1 q.2
theorem i_rng1 {tg : Expr} {p : Pos} (h : PE X a (tD G cl E pa)) (hs : noStar a = true) (hg : Gl X "range") (hm : X.mg "range" = none) : PI X tg (.Call (.Name "range" p) [a] [] pos) (tDI G cl E (.rng1 pa)) :=
  (pi_range1 hg hm (pa_cons h pa_nil (star_cons hs _ _)) (one_star hs _)).imp fun σ H R hq => by
    obtain ⟨w, ρ, rfl, ok, sr, hq⟩ := hq
    refine ⟨w, ρ, rfl, ok, sr, go hq fun x w1 v ex ok1 e1 rv h1 => ?_⟩
    cases x with
    | int j =>
      have h1 : Got G w1 E (if rngOk 0 j = true then .ok (rngL 0 j, none) w1.μ else .no) (WkL G) R := h1
      split at h1
      · rename_i hr
        have hr := Bool.and_eq_true_iff.mp hr
        have hr2 := Bool.and_eq_true_iff.mp hr.1
        refine ⟨j, by rw [rv.toInt], of_decide_eq_true hr2.2, of_decide_eq_true hr.2, Got.out h1 ok1 ⟨?_, fun k z => by cases z⟩⟩
        have := wk_rng (G := G) 0 j (w1.lk none)
        rw [Int.sub_zero] at this
        exact this
      · exact h1.elim
    | _ => exact h1.elim
theorem i_rng2 {tg : Expr} {p : Pos} (h : PE X a (tD G cl E pa)) (h2 : PE X b (tD G cl E pb)) (hs : noStar a = true) (hs2 : noStar b = true) (hg : Gl X "range") (hm : X.mg "range" = none) : PI X tg (.Call (.Name "range" p) [a, b] [] pos) (tDI G cl E (.rng2 pa pb)) :=
  (pi_range2 hg hm (pa_cons h (pa_cons h2 pa_nil (star_cons hs2 _ _)) (star_cons hs _ _)) (by rw [star_cons hs, one_star hs2]) (by rw [one_star hs2])).imp fun σ H R hq => by
    obtain ⟨w, ρ, rfl, ok, sr, hq⟩ := hq
    refine ⟨w, ρ, rfl, ok, sr, go hq fun x w1 v ex ok1 e1 rv h1 => ⟨w1, ρ, rfl, ok1, sr.mono ok e1, go h1 fun y w2 u ey ok2 e2 ru h2 => ?_⟩⟩
    cases x with
    | int i =>
      cases y with
      | int j =>
        have h2 : Got G w2 E (if rngOk i j = true then .ok (rngL i j, none) w2.μ else .no) (WkL G) R := h2
        split at h2
        · rename_i hr
          have hr := Bool.and_eq_true_iff.mp hr
          have hr2 := Bool.and_eq_true_iff.mp hr.1
          have hr3 := Bool.and_eq_true_iff.mp hr2.1
          have rv2 := e2.rv ok1 rv
          refine ⟨i, j, by rw [rv2.toInt, ru.toInt], ⟨of_decide_eq_true hr3.1, of_decide_eq_true hr3.2, of_decide_eq_true hr2.2, of_decide_eq_true hr.2⟩, Got.out h2 ok2 ⟨wk_rng i j _, fun k z => by cases z⟩⟩
        · exact h2.elim
      | _ => exact h2.elim
    | _ => exact h2.elim
theorem i_zp {elts : List Expr} {kk : Nat} {tpos p : Pos} (h : PE X a (tD G cl E pa)) (h2 : PE X b (tD G cl E pb)) (hs : noStar a = true) (hs2 : noStar b = true) (hg : Gl X "zip") (hm : X.mg "zip" = none) (hK : X.K = G.K) : PI X (.Tuple elts kk tpos) (.Call (.Name "zip" p) [a, b] [] pos) (tDI G cl E (.zp pa pb)) :=
  (RZ.pi_zipA hg hm (pa_cons h (pa_cons h2 pa_nil (star_cons hs2 _ _)) (star_cons hs _ _)) (star_cons hs _ _) (star_any (by simp [hs2]) _ _)).imp fun σ H R hq => by
    obtain ⟨w, ρ, rfl, ok, sr, hq⟩ := hq
    rw [hK]
    refine ⟨w, ρ, rfl, ok, sr, go hq fun x w1 v ex ok1 e1 rv h1 => ⟨w1, ρ, rfl, ok1, sr.mono ok e1, go h1 fun y w2 u ey ok2 e2 ru h2 => ?_⟩⟩
    have rv2 := e2.rv ok1 rv
    cases x with
    | tup xs =>
      cases y with
      | tup ys =>
        have r1 : Rp G w2.F w2.H (.tup xs) v := rv2
        have r2 : Rp G w2.F w2.H (.tup ys) u := ru
        obtain ⟨p, vs, rfl, g1, _⟩ := RV.toTup (w := w2) rv2
        obtain ⟨q, us, rfl, g2, _⟩ := RV.toTup (w := w2) ru
        refine ⟨p, q, vs, us, rfl, .inr ⟨g1, g2, Got.out (d := (zipL xs ys, none)) (rel := WkL G) h2 ok2 ⟨wk_zipT fun w3 ok3 e3 => ?_, fun k z => by cases z⟩⟩⟩
        have k1 := Ev.rp ok2 (show Ev G w2 w3 from e3) r1
        have k2 := Ev.rp ok2 (show Ev G w2 w3 from e3) r2
        cases k1 with
        | tup a1 b1 =>
          cases k2 with
          | tup a2 b2 => exact ⟨_, _, a1.sq, b1, a2.sq, b2⟩
      | _ => exact h2.elim
    | lst xs =>
      cases y with
      | lst ys =>
        have r1 : Rp G w2.F w2.H (.lst xs) v := rv2
        have r2 : Rp G w2.F w2.H (.lst ys) u := ru
        obtain ⟨p, vs, rfl, g1, _⟩ := ok2.listOf (d := .lst xs) rv2 rfl
        obtain ⟨q, us, rfl, g2, _⟩ := ok2.listOf (d := .lst ys) ru rfl
        refine ⟨p, q, vs, us, rfl, .inl ⟨.inl (.inl g1), .inl (.inl g2), Got.out (d := (zipL xs ys, none)) (rel := WkL G) h2 ok2 ⟨wk_zipL _ (fun w3 ok3 e3 => ?_), fun k z => by cases z⟩⟩⟩
        obtain ⟨p', vs', eq1, a1, b1⟩ := lst_stays ok2 (show Ev G w2 w3 from e3) r1
        obtain ⟨q', us', eq2, a2, b2⟩ := lst_stays ok2 (show Ev G w2 w3 from e3) r2
        cases eq1
        cases eq2
        exact ⟨_, _, a1, b1, a2, b2⟩
      | _ => exact h2.elim
    | _ => exact h2.elim
end DL
/-! DL8: targets; comprehensions. -/
namespace DL
open PySem PySem.Spec PyProof.Rows L2
variable {G : Gr} {cl : Calls} {E : XK} {X : Cx} {a b c : Expr} {pa pb pc : PX} {pos : Pos} {es : List Expr} {ps : PX}
def namesT : PX → List Nat
  | .var i => [i]
  | .tup es => namesT es
  | .cs e es => namesT e ++ namesT es
  | _ => []
theorem wipe_get (σ : L2.St) : ∀ (vs : List Nat) (j : Nat), (L2.wipe σ vs)[j]? = if j ∈ vs then (σ[j]?).map (fun _ => none) else σ[j]?
  | [], j => by simp [L2.wipe]
  | v :: vs, j => by
    unfold L2.wipe
    by_cases hj : v = j
    · subst hj
      rw [if_pos List.mem_cons_self]
      by_cases hl : v < σ.length
      · rw [List.getElem?_set_self (by rw [L2.wipe_length]; exact hl), List.getElem?_eq_getElem hl]
        rfl
      · rw [List.getElem?_eq_none (by rw [List.length_set, L2.wipe_length]; omega), List.getElem?_eq_none (by omega)]
        rfl
    · rw [List.getElem?_set_ne hj, wipe_get σ vs j]
      by_cases hm : j ∈ vs
      · rw [if_pos hm, if_pos (List.mem_cons_of_mem _ hm)]
      · rw [if_neg hm, if_neg (fun z => (List.mem_cons.mp z).elim (fun q => hj q.symm) hm)]
theorem wipe_set {σ : L2.St} {i : Nat} {x : Option V} {vs : List Nat} (h : i ∈ vs) : L2.wipe (σ.set i x) vs = L2.wipe σ vs := by
  apply List.ext_getElem?
  intro j
  rw [wipe_get, wipe_get]
  by_cases hj : j ∈ vs
  · rw [if_pos hj, if_pos hj]
    by_cases e : i = j
    · subst e
      by_cases hl : i < σ.length
      · rw [List.getElem?_set_self hl, List.getElem?_eq_getElem hl]
        rfl
      · rw [List.getElem?_eq_none (by rw [List.length_set]; omega), List.getElem?_eq_none (by omega)]
    · rw [List.getElem?_set_ne e]
  · rw [if_neg hj, if_neg hj]
    rw [List.getElem?_set_ne (fun e => hj (by rw [← e]; exact h))]
theorem wipe_wipe (σ : L2.St) (vs : List Nat) : L2.wipe (L2.wipe σ vs) vs = L2.wipe σ vs := by
  apply List.ext_getElem?
  intro j
  rw [wipe_get, wipe_get]
  by_cases hj : j ∈ vs
  · rw [if_pos hj, if_pos hj]
    cases σ[j]? <;> rfl
  · rw [if_neg hj]
theorem wipe_D (ρ : Env) : ∀ (vs : List Nat) (j : Nat), (DL.wipe ρ vs)[j]? = if j ∈ vs then (ρ[j]?).map (fun _ => none) else ρ[j]?
  | [], j => by simp [DL.wipe]
  | v :: vs, j => by
    unfold DL.wipe
    have hlen : ∀ us : List Nat, (DL.wipe ρ us).length = ρ.length := fun us => by
      induction us with
      | nil => rfl
      | cons u us ih => unfold DL.wipe; rw [List.length_set, ih]
    by_cases hj : v = j
    · subst hj
      rw [if_pos List.mem_cons_self]
      by_cases hl : v < ρ.length
      · rw [List.getElem?_set_self (by rw [hlen]; exact hl), List.getElem?_eq_getElem hl]
        rfl
      · rw [List.getElem?_eq_none (by rw [List.length_set, hlen]; omega), List.getElem?_eq_none (by omega)]
        rfl
    · rw [List.getElem?_set_ne hj, wipe_D ρ vs j]
      by_cases hm : j ∈ vs
      · rw [if_pos hm, if_pos (List.mem_cons_of_mem _ hm)]
      · rw [if_neg hm, if_neg (fun z => (List.mem_cons.mp z).elim (fun q => hj q.symm) hm)]
theorem wipeD_len (ρ : Env) : ∀ us : List Nat, (DL.wipe ρ us).length = ρ.length
  | [] => rfl
  | u :: us => by unfold DL.wipe; rw [List.length_set, wipeD_len ρ us]
theorem SRel.wipe {w : Wd} {ρ : Env} {σ : L2.St} (s : SRel G w ρ σ) (vs : List Nat) : SRel G w (DL.wipe ρ vs) (L2.wipe σ vs) := by
  refine ⟨by rw [wipeD_len, L2.wipe_length]; exact s.1, fun i d h => ?_⟩
  rw [wipe_D] at h
  by_cases hi : i ∈ vs
  · rw [if_pos hi] at h
    cases q : ρ[i]? with
    | none => rw [q] at h; cases h
    | some o => rw [q] at h; cases h
  · rw [if_neg hi] at h
    obtain ⟨v, h1, h2⟩ := s.2 i d h
    exact ⟨v, by rw [wipe_get, if_neg hi]; exact h1, h2⟩
theorem SRel.set {w : Wd} {ρ : Env} {σ : L2.St} (s : SRel G w ρ σ) (i : Nat) {d : D} {v : V} (r : RV G w d v) : SRel G w (ρ.set i (some d)) (σ.set i (some v)) := by
  refine ⟨by rw [List.length_set, List.length_set]; exact s.1, fun j f h => ?_⟩
  by_cases e : i = j
  · subst e
    by_cases hl : i < ρ.length
    · rw [List.getElem?_set_self hl] at h
      cases h
      exact ⟨v, List.getElem?_set_self (by rw [← s.1]; exact hl), r⟩
    · rw [List.getElem?_eq_none (by rw [List.length_set]; omega)] at h
      cases h
  · rw [List.getElem?_set_ne e] at h
    obtain ⟨u, h1, h2⟩ := s.2 j f h
    exact ⟨u, by rw [List.getElem?_set_ne e]; exact h1, h2⟩
/-- names take a value -/
def tG (G : Gr) (p : PX) : TG := fun v σ H Q => ∃ w ρ d ρ', w.H = H ∧ w.Ok G ∧ SRel G w ρ σ ∧ RV G w d v ∧ asg p d ρ = some ρ' ∧ ∀ σ', SRel G w ρ' σ' → (∀ vs, (∀ i ∈ namesT p, i ∈ vs) → L2.wipe σ' vs = L2.wipe σ vs) → Q σ' H
def tGs (G : Gr) (p : PX) : TGs := fun vs σ H Q => ∃ w ρ ds ρ', w.H = H ∧ w.Ok G ∧ SRel G w ρ σ ∧ RpL G w.F w.H ds vs ∧ asgs p ds ρ = some ρ' ∧ ∀ σ', SRel G w ρ' σ' → (∀ us, (∀ i ∈ namesT p, i ∈ us) → L2.wipe σ' us = L2.wipe σ us) → Q σ' H
theorem _root_.L2.PG.imp {tg : Expr} {t t' : TG} (h : PG X tg t) (hi : ∀ v σ H Q, t' v σ H Q → t v σ H Q) : PG X tg t' := ⟨fun pins s σ H v u Q I r hq => h.run pins s σ H v u Q I r (hi v σ H Q hq)⟩
theorem _root_.L2.PGs.imp {tg : List Expr} {t t' : TGs} (h : PGs X tg t) (hi : ∀ v σ H Q, t' v σ H Q → t v σ H Q) : PGs X tg t' := ⟨fun pins s σ H v u Q I r hq => h.run pins s σ H v u Q I r (hi v σ H Q hq)⟩
theorem g_name {i : Nat} {x : Str} (hN : X.N.Nodup) (hi : X.N[i]? = some x) (hx : Loc X.env.scope x) (hf : X.fn x = true ∨ X.env.scope.names.lookup x = some .local) : PG X (.Name x pos) (tG G (.var i)) := (pg_name hN hi hx hf).imp fun v σ H Q hq => by
  obtain ⟨w, ρ, d, ρ', rfl, ok, sr, rv, ha, hQ⟩ := hq
  have ha : (if i < ρ.length then some (ρ.set i (some d)) else none) = some ρ' := ha
  split at ha
  · cases ha
    exact hQ _ (sr.set i rv) fun vs hv => wipe_set (hv i (by simp [namesT]))
  · cases ha
theorem gs_nil : PGs X [] (tGs G .nl) := pgs_nil.imp fun v σ H Q hq => by
  obtain ⟨w, ρ, ds, ρ', rfl, ok, sr, rv, ha, hQ⟩ := hq
  cases rv with
  | nil =>
    cases ha
    exact ⟨rfl, hQ _ sr fun _ _ => rfl⟩
  | cons _ _ => cases ha
theorem asn_cons (h : noStar a = true) (env : PySem.Env) (es : List Expr) : assignEach (a :: es) env = (false, assign a env) :: assignEach es env := by
  cases a <;> first | rfl | (cases h)
theorem asn_len : ∀ {es : List Expr}, es.all noStar = true → ∀ env : PySem.Env, (assignEach es env).length = es.length ∧ (assignEach es env).findIdx? (·.1) = none
  | [], _, _ => ⟨rfl, rfl⟩
  | e :: es, h, env => by
    rw [List.all_cons, Bool.and_eq_true] at h
    rw [asn_cons h.1]
    obtain ⟨h1, h2⟩ := asn_len h.2 env
    refine ⟨by rw [List.length_cons, h1, List.length_cons], ?_⟩
    rw [List.findIdx?_cons]
    simp [h2]
theorem gs_cons (h1 : PG X a (tG G pa)) (h2 : PGs X es (tGs G ps)) (hs : noStar a = true) : PGs X (a :: es) (tGs G (.cs pa ps)) := (pgs_cons h1 h2 (by rw [asn_cons hs]; rfl)).imp fun v σ H Q hq => by
  obtain ⟨w, ρ, ds, ρ', rfl, ok, sr, rv, ha, hQ⟩ := hq
  cases rv with
  | nil => cases ha
  | cons r rs =>
    rename_i d ds v vs
    have ha : (match asg pa d ρ with
      | some ρ1 => asgs ps ds ρ1
      | none => none) = some ρ' := ha
    cases q : asg pa d ρ with
    | none => rw [q] at ha; cases ha
    | some ρ1 =>
      rw [q] at ha
      have rv : RV G w d v := by cases d <;> first | exact r | cases r
      exact ⟨v, vs, rfl, w, ρ, d, ρ1, rfl, ok, sr, rv, q, fun σ1 sr1 hw1 => ⟨w, ρ1, ds, ρ', rfl, ok, sr1, rs, ha, fun σ2 sr2 hw2 => hQ σ2 sr2 fun us hu => (hw2 us fun i hi => hu i (by simp [namesT, hi])).trans (hw1 us fun i hi => hu i (by simp [namesT, hi]))⟩⟩
theorem asgs_len : ∀ {p : PX} {ds : List D} {ρ ρ' : Env}, asgs p ds ρ = some ρ' → ds.length = lenP p := by
  intro p
  induction p with
  | cs e es _ ih =>
    intro ds ρ ρ' h
    cases ds with
    | nil => cases h
    | cons d ds =>
      have h : (match asg e d ρ with
        | some ρ1 => asgs es ds ρ1
        | none => none) = some ρ' := h
      cases q : asg e d ρ with
      | none => rw [q] at h; cases h
      | some ρ1 =>
        rw [q] at h
        rw [List.length_cons, ih h]
        rfl
  | nl =>
    intro ds ρ ρ' h
    cases ds with
    | nil => rfl
    | cons d ds => cases h
  | _ =>
    intro ds ρ ρ' h
    cases h
theorem g_tup {k : Nat} (hc : X.calm = true) (h : PGs X es (tGs G ps)) (hs : es.all noStar = true) (hl : lenP ps = es.length) (hK : X.K = G.K) : PG X (.Tuple es k pos) (tG G (.tup ps)) := (pg_tup (n := es.length) hc h (asn_len hs _).1 (asn_len hs _).2).imp fun v σ H Q hq => by
  obtain ⟨w, ρ, d, ρ', rfl, ok, sr, rv, ha, hQ⟩ := hq
  cases d with
  | tup xs =>
    have ha : asgs ps xs ρ = some ρ' := ha
    obtain ⟨p, vs, rfl, h1, r⟩ := RV.toTup (w := w) rv
    rw [hK]
    exact ⟨p, vs, rfl, h1, by rw [← r.length, asgs_len ha, hl], w, ρ, xs, ρ', rfl, ok, sr, r, ha, hQ⟩
  | _ => cases ha
/-! ### a list under way -/
theorem temp_keep {w w' : Wd} (e : Ev G w w') {T : Addr} {vs : List V} (h : w.H T = some (.lst vs)) (hF : ¬ w.F T) (hc : T ∉ w.cs) : w'.H T = some (.lst vs) ∧ ¬ w'.F T ∧ T ∉ w'.cs := by
  refine ⟨e.keep T _ h (fun z => (hc z).elim) (fun _ z => by cases z), fun z => ?_, fun z => ?_⟩
  · rcases e.old T z with q | q | q
    · exact hF q
    · exact hc q
    · rw [h] at q; cases q
  · obtain ⟨ns, q, hn⟩ := e.pre
    rw [q] at z
    rcases List.mem_append.mp z with z | z
    · exact hc z
    · rw [hn T z] at h; cases h
theorem temp_rp {w : Wd} {T : Addr} {vs us : List V} (h : w.H T = some (.lst vs)) (hF : ¬ w.F T) {ds : List D} {xs : List V} (r : RpL G w.F w.H ds xs) : RpL G w.F (upd w.H T (.lst us)) ds xs := by
  refine r.mono (fun a zs z => ?_) (fun a zs z => ⟨z.1, ?_⟩) fun a o u z => ?_
  · refine z.imp (fun z => ?_) id
    rw [upd_ne (ne_of z h (fun q => by cases q))]
    exact z
  · rw [upd_ne (fun q => hF (by rw [← q]; exact z.1))]
    exact z.2
  · rw [upd_ne (ne_of z h (fun q => by cases q))]
    exact z
theorem temp_ok {w : Wd} (ok : w.Ok G) {T : Addr} {vs us : List V} (h : w.H T = some (.lst vs)) (hF : ¬ w.F T) (hc : T ∉ w.cs) : Wd.Ok G { w with H := upd w.H T (.lst us) } where
  len := ok.len
  nd := ok.nd
  cell := fun k c q => by
    obtain ⟨b, xs, g1, g2, g3, g4⟩ := ok.cell k c q
    refine ⟨b, xs, g1, ?_, temp_rp h hF g3, g4⟩
    show upd w.H T (.lst us) b = _
    rw [upd_ne (fun z => hc (by rw [← z]; exact List.mem_of_getElem? g1))]
    exact g2
  fdom := fun b q => by
    obtain ⟨o, z⟩ := ok.fdom b q
    refine ⟨o, ?_⟩
    show upd w.H T (.lst us) b = _
    rw [upd_ne (fun e => hF (by rw [← e]; exact q))]
    exact z
  jj := G.jj w.H _ (fun b o z hn => by
    show upd w.H T (.lst us) b = _
    rw [upd_ne (ne_of z h (hn vs))]
    exact z) ok.jj
theorem temp_ev {w0 w : Wd} (e : Ev G w0 w) {T : Addr} {us : List V} (hn : w0.H T = none) : Ev G w0 { w with H := upd w.H T (.lst us) } where
  sub := e.sub
  old := e.old
  pre := e.pre
  keep := fun b o z hc ht => by
    show upd w.H T (.lst us) b = _
    rw [upd_ne (ne_of_none z hn)]
    exact e.keep b o z hc ht
  tb := fun b ps z => by
    obtain ⟨ps', q⟩ := e.tb b ps z
    refine ⟨ps', ?_⟩
    show upd w.H T (.lst us) b = _
    rw [upd_ne (ne_of_none z hn)]
    exact q
  lock := e.lock
theorem frz_at {w : Wd} {d d' : D} {v : V} {μ' : Store} (ok : w.Ok G) (r : RV G w d v) (h : frz d w.μ = .ok d' μ') : ∃ w1 : Wd, w1.H = w.H ∧ w1.cs = w.cs ∧ w1.μ = μ' ∧ w1.Ok G ∧ Ev G w w1 ∧ Rp G w1.F w1.H d' v := by
  cases d with
  | cell k =>
    obtain ⟨a, h1, rfl⟩ := r
    cases q : w.μ[k]? with
    | none => simp [frz, q] at h
    | some c =>
      have h : D.lst c.xs = d' ∧ w.μ.set k ⟨1, c.xs⟩ = μ' := by simpa [frz, q] using h
      obtain ⟨rfl, rfl⟩ := h
      have o1 := frz_ok ok q h1
      have e1 := frz_ev G q h1
      obtain ⟨b, vs, g1, g2, g3, _⟩ := ok.cell k c q
      rw [h1] at g1
      cases g1
      exact ⟨{ w with F := fun b => w.F b ∨ b = a, μ := w.μ.set k ⟨1, c.xs⟩ }, rfl, rfl, rfl, o1, e1, Rp.lst ⟨.inr rfl, g2⟩ (e1.rpL ok g3)⟩
  | _ => cases h; exact ⟨w, rfl, rfl, rfl, ok, Ev.refl G w, r⟩
/-! ### comprehensions -/
def tDC (G : Gr) (cl : Calls) (p : PX) : L2.TT := fun σ H Q => At G σ H fun w ρ => Got G w E0 (evC cl p ρ w.μ) (fun _ b c => c = b) Q
theorem _root_.L2.PTs.imp {cs : List Expr} {t t' : L2.TT} (h : PTs X cs t) (hi : ∀ σ H Q, t' σ H Q → t σ H Q) : PTs X cs t' := ⟨fun pins s σ H Q I hq => h.run pins s σ H Q I (hi σ H Q hq)⟩
theorem c_nil : PTs X [] (tDC G cl .nl) := pts_nil.imp fun σ H Q hq => by
  obtain ⟨w, ρ, rfl, ok, sr, h⟩ := hq
  exact h.out ok rfl
theorem c_one (h : PT X a (tDT G cl E0 pa)) : PTs X [a] (tDC G cl (.one pa)) := (pts_one h).imp fun σ H Q hq => hq
/-- one turn of a comprehension's data -/
def turnC (cl : Calls) (own : List Nat) (elt tg cnd : PX) (ρ : Env) : D → Store → Rs (Option D) := fun x μ2 => (Rs.of (asg tg x (DL.wipe ρ own)) μ2).bind fun ρ1 μ3 => (evC cl cnd ρ1 μ3).bind fun c μ4 => if c = true then keepE (ev cl elt ρ1 μ4) else .ok none μ4
theorem bind_okE {α β : Type} {r : Rs α} {f : α → Store → Rs β} {z : β} {μ' : Store} (h : r.bind f = .ok z μ') : ∃ x μ1, r = .ok x μ1 ∧ f x μ1 = .ok z μ' := by
  cases r with
  | ok x μ1 => exact ⟨x, μ1, rfl, h⟩
  | ex x μ1 => cases h
  | no => cases h
theorem of_okE {α : Type} {o : Option α} {μ μ' : Store} {z : α} (h : Rs.of o μ = .ok z μ') : o = some z ∧ μ' = μ := by
  cases o with
  | none => cases h
  | some x => cases h; exact ⟨rfl, rfl⟩
theorem Got.okI {α β : Type} {w : Wd} {r : Rs α} {d : α} {μ' : Store} {rel : Wd → α → β → Prop} {Q : β → Hp → Prop} (e : r = .ok d μ') (h : ∀ (w' : Wd) b, w'.μ = μ' → w'.Ok G → Ev G w w' → rel w' d b → Q b w'.H) : Got G w E r rel Q := by
  rw [e]
  exact h
/-- a comprehension from its data -/
theorem comp_core {pelt ptg pit pcnd : PX} {own : List Nat} {σ : L2.St} {w : Wd} {ρ : Env} {α : Type} {K : List D → Store → Rs α} {rel : Wd → α → V → Prop} {Q : VK} (ok : w.Ok G) (sr : SRel G w ρ σ) (hown : ∀ i ∈ namesT ptg, i ∈ own)
    (h : Got G w E ((compR (evI cl pit ρ w.μ) (turnC cl own pelt ptg pcnd ρ)).bind K) rel Q)
    (hf : ∀ (w0 w2 : Wd) (xs : List D) (vs : List V) (p : Addr), Ev G w w0 → Ev G w0 w2 → w0.Ok G → w2.Ok G → w2.H p = some (.lst vs) → ¬ w2.F p → p ∉ w2.cs → RpL G w2.F w2.H xs vs → w0.H p = none → Got G w0 E (K xs w2.μ) rel Q → Q (.ref p) w2.H) :
    tLc (tDI G cl E pit) (tG G ptg) (tDC G cl pcnd) (tD G cl E0 pelt) own σ w.H Q := by
  unfold compR at h
  rw [Rs.bind_assoc] at h
  refine ⟨w, ρ, rfl, ok, sr, go h fun q w1 J _ ok1 e1 wkl h1 T hT => ?_⟩
  obtain ⟨wk, hl⟩ := wkl
  have okL := lk_ok ok1 hl
  have eL := lk_ev G hl
  cases hr : compL (turnC cl own pelt ptg pcnd ρ) q.1 (locked w1.μ q.2) with
  | no => rw [hr] at h1; exact h1.elim
  | ex x μx => rw [hr] at h1; exact h1.elim
  | ok xs μe =>
    rw [hr] at h1
    have h1 : Got G w1 E (((if xs.length ≤ sizeLine then Rs.ok xs μe else .no).un q.2).bind K) rel Q := h1
    by_cases hlen : xs.length ≤ sizeLine
    · rw [if_pos hlen] at h1
      have h1 : Got G w1 E (K xs (unlocked μe q.2)) rel Q := h1
      refine ⟨fun i m H => i + m = q.1.length ∧ ∃ (w2 : Wd) (accD : List D) (accV : List V) (tail : List D), w2.H = H ∧ w2.Ok G ∧ Ev G (w1.lk q.2) w2 ∧ H T = some (.lst accV) ∧ ¬ w2.F T ∧ T ∉ w2.cs ∧ RpL G w2.F w2.H accD accV ∧ compL (turnC cl own pelt ptg pcnd ρ) (q.1.drop i) w2.μ = .ok tail μe ∧ xs = accD ++ tail,
        ⟨q.1.length, by omega, { (w1.lk q.2) with H := upd w1.H T (.lst []) }, [], [], xs, rfl, fresh_ok okL hT, fresh_ev G hT, upd_same, okL.notF hT, okL.notCs hT, .nil, hr, rfl⟩, fun i m H hW => ?_⟩
      obtain ⟨him, w2, accD, accV, tail, rfl, ok2, e2, hTl, hTF, hTc, racc, hrun, hxs⟩ := hW
      obtain ⟨wk1, wk2⟩ := wk i w2 ok2 e2
      cases hd : q.1[i]? with
      | none =>
        refine .inl ⟨wk2 hd, ?_⟩
        have hdrop : q.1.drop i = [] := List.drop_eq_nil_iff.mpr (List.getElem?_eq_none_iff.mp hd)
        rw [hdrop] at hrun
        have hrun : (Rs.ok ([] : List D) w2.μ) = .ok tail μe := hrun
        cases hrun
        rw [List.append_nil] at hxs
        subst hxs
        obtain ⟨o5, e5⟩ := ulk_both hl ok2 e2
        exact hf w1 (w2.ulk q.2) _ accV T e1 e5 ok1 o5 hTl hTF hTc racc hT h1
      | some d =>
        have hi : i < q.1.length := (List.getElem?_eq_some_iff.mp hd).1
        have hdrop : q.1.drop i = d :: q.1.drop (i + 1) := by
          rw [List.drop_eq_getElem_cons hi]
          rw [List.getElem?_eq_getElem hi] at hd
          cases hd
          rfl
        rw [hdrop] at hrun
        obtain ⟨o, μ1, ht, hrun⟩ := bind_okE (show (turnC cl own pelt ptg pcnd ρ d w2.μ).bind (fun o μ1 => (compL (turnC cl own pelt ptg pcnd ρ) (q.1.drop (i + 1)) μ1).bind fun r μ2 => .ok (optCons o r) μ2) = .ok tail μe from hrun)
        obtain ⟨r, μ2, hrest, hrun⟩ := bind_okE hrun
        have htail : optCons o r = tail ∧ μ2 = μe := by cases hrun; exact ⟨rfl, rfl⟩
        obtain ⟨htail, rfl⟩ := htail
        obtain ⟨hgo, hyl⟩ := wk1 d hd
        refine .inr ⟨hgo, fun H' => (i + 1) + (m - 1) = q.1.length ∧ ∃ (w2 : Wd) (accD : List D) (accV : List V) (tail : List D), w2.H = H' ∧ w2.Ok G ∧ Ev G (w1.lk q.2) w2 ∧ H' T = some (.lst accV) ∧ ¬ w2.F T ∧ T ∉ w2.cs ∧ RpL G w2.F w2.H accD accV ∧ compL (turnC cl own pelt ptg pcnd ρ) (q.1.drop (i + 1)) w2.μ = .ok tail μ2 ∧ xs = accD ++ tail,
          fun H' hN => ⟨m - 1, by omega, hN⟩, fun x H' hy => ?_⟩
        obtain ⟨w3, rfl, m3, c3, f3, ok3, e3, rx⟩ := hyl x H' hy
        obtain ⟨ρ1, μ3, ha0, ht⟩ := bind_okE ht
        obtain ⟨ha, em3⟩ := of_okE ha0
        subst em3
        obtain ⟨kc, μ4, hcnd, ht⟩ := bind_okE ht
        have sr3 : SRel G w3 (DL.wipe ρ own) (L2.wipe σ own) := SRel.mono (SRel.mono (SRel.mono (sr.mono ok e1) ok1 eL) okL (e2.trans ok2 e3)) ok3 (Ev.refl G w3) |>.wipe own
        have rxv : RV G w3 d x := by cases d <;> first | exact rx | cases rx
        obtain ⟨t1, t2, t3⟩ := temp_keep e3 hTl hTF hTc
        refine ⟨w3, DL.wipe ρ own, d, ρ1, rfl, ok3, sr3, rxv, ha, fun σ2 sr4 hw => ⟨(hw own hown).trans (wipe_wipe σ own), ?_⟩⟩
        refine ⟨w3, ρ1, rfl, ok3, sr4, Got.okI (d := kc) (μ' := μ4) (by rw [m3]; exact hcnd) fun w4 kb m4 ok4 e4 hkb => ?_⟩
        subst hkb
        obtain ⟨u1, u2, u3⟩ := temp_keep e4 t1 t2 t3
        have racc4 := e4.rpL ok3 (e3.rpL ok2 racc)
        have e24 : Ev G (w1.lk q.2) w4 := (e2.trans ok2 e3).trans ok3 e4
        cases kb with
        | false =>
          rw [if_neg Bool.false_ne_true] at ht ⊢
          have ht : Rs.ok (none : Option D) μ4 = .ok o μ1 := ht
          cases ht
          subst htail
          exact ⟨by omega, w4, accD, accV, _, rfl, ok4, e24, u1, u2, u3, racc4, by rw [m4]; exact hrest, hxs⟩
        | true =>
          rw [if_pos rfl] at ht ⊢
          obtain ⟨d5, μ5, hev, ht⟩ := bind_okE (show (ev cl pelt ρ1 μ4).bind (fun d μ5 => (frz d μ5).bind fun d' μ6 => .ok (some d') μ6) = .ok o μ1 from ht)
          obtain ⟨d6, μ6, hfr, ht⟩ := bind_okE ht
          have ht : Rs.ok (some d6) μ6 = .ok o μ1 := ht
          cases ht
          refine ⟨w4, ρ1, rfl, ok4, sr4.mono ok3 e4, Got.okI (d := d5) (μ' := μ5) (by rw [m4]; exact hev) fun w5 y m5 ok5 e5 ry => ?_⟩
          obtain ⟨w6, h6, c6, m6, ok6, e6, r6⟩ := frz_at ok5 ry (by rw [m5]; exact hfr)
          obtain ⟨v1, v2, v3⟩ := temp_keep (e5.trans ok5 e6) u1 u2 u3
          have racc6 := e6.rpL ok5 (e5.rpL ok4 racc4)
          have e26 : Ev G (w1.lk q.2) w6 := (e24.trans ok4 e5).trans ok5 e6
          have hlacc : accV.length < sizeLine := by
            have := racc.length
            subst htail
            rw [hxs, List.length_append, show optCons (some d6) r = d6 :: r from rfl, List.length_cons] at hlen
            omega
          rw [← h6]
          refine ⟨accV, v1, hlacc, by omega, { w6 with H := upd w6.H T (.lst (accV ++ [y])) }, accD ++ [d6], accV ++ [y], r, rfl, temp_ok ok6 v1 v2 v3, temp_ev e26 hT, upd_same, v2, v3, temp_rp v1 v2 (racc6.append (.cons r6 .nil)), by show compL _ _ w6.μ = _; rw [m6]; exact hrest, ?_⟩
          subst htail
          rw [hxs, List.append_assoc]
          rfl
    · rw [if_neg hlen] at h1
      exact h1.elim
theorem s_comp {tg iter : Expr} {ifs : List Expr} {scope : Scope} {own : List (Str × Nat)} {pelt ptg pit pcnd : PX} (hc : X.calm = true) (hN : X.N.Nodup) (hi : PI X tg iter (tDI G cl E pit)) (ok : BlkOk X.N X.env.scope scope own)
    (hg : ∀ (s : Shared) (H : Hp) (C : Addr) (cs : List (Str × Addr)) (fp : List Addr), PG (X.blk s H scope (compEnvC scope cs C X.env) fp) tg (tG G ptg))
    (ht : ∀ (s : Shared) (H : Hp) (C : Addr) (cs : List (Str × Addr)) (fp : List Addr), PTs (X.blk s H scope (compEnvC scope cs C X.env) fp) ifs (tDC G cl pcnd))
    (he : ∀ (s : Shared) (H : Hp) (C : Addr) (cs : List (Str × Addr)) (fp : List Addr), PE (X.blk s H scope (compEnvC scope cs C X.env) fp) a (tD G cl E0 pelt))
    (hs : ∀ x, foldedSetIterable iter X.env x = pure x) (hown : ∀ i ∈ namesT ptg, i ∈ own.map (·.2)) :
    PE X (.ListComp a [⟨tg, iter, ifs, 0⟩] scope pos) (tD G cl E (.comp (own.map (·.2)) pelt ptg pit pcnd)) := (pe_lc hc hN hi ok hg ht he hs).imp fun σ H Q hq => by
  obtain ⟨w, ρ, rfl, ok, sr, h⟩ := hq
  refine comp_core (α := D) (rel := RV G) (K := fun (xs : List D) (μ : Store) => Rs.ok (D.lst xs) μ) ok sr hown h fun w0 w2 xs vs p e0 e2 ok0 ok2 h1 h2 h3 r hn h4 => ?_
  exact Got.at (w1 := { w2 with F := fun b => w2.F b ∨ b = p }) h4 rfl (hold_ok ok2 h1 h3) (hold_ev e2 hn) (Rp.lst ⟨.inr rfl, h1⟩ (r.mono (fun _ _ z => z) (fun _ _ z => ⟨.inl z.1, z.2⟩) fun _ _ _ z => z))
/-- .. a list of one's own -/
theorem comp_impL {pelt ptg pit pcnd : PX} {own : List Nat} (hown : ∀ i ∈ namesT ptg, i ∈ own) {σ : L2.St} {H : Hp} {Q : VK} (hq : tDL G cl E (.comp own pelt ptg pit pcnd) σ H Q) : tLc (tDI G cl E pit) (tG G ptg) (tDC G cl pcnd) (tD G cl E0 pelt) own σ H Q := by
  obtain ⟨w, ρ, rfl, ok, sr, h⟩ := hq
  have e : ∀ r : Rs (List D), r = r.bind fun (xs : List D) (μ : Store) => Rs.ok xs μ := fun r => by cases r <;> rfl
  have h : Got G w E (compR (evI cl pit ρ w.μ) (turnC cl own pelt ptg pcnd ρ)) (RL G w.H) Q := h
  rw [e (compR _ _)] at h
  refine comp_core (α := List D) (rel := RL G w.H) (K := fun (xs : List D) (μ : Store) => Rs.ok xs μ) ok sr hown h fun w0 w2 xs vs p e0 e2 ok0 ok2 h1 h2 h3 r hn h4 => ?_
  exact Got.at h4 rfl ok2 e2 ⟨p, vs, rfl, h1, h2, h3, r, e0.none ok0 hn⟩
theorem s_compL {tg iter : Expr} {ifs : List Expr} {scope : Scope} {own : List (Str × Nat)} {pelt ptg pit pcnd : PX} (hc : X.calm = true) (hN : X.N.Nodup) (hi : PI X tg iter (tDI G cl E pit)) (ok : BlkOk X.N X.env.scope scope own)
    (hg : ∀ (s : Shared) (H : Hp) (C : Addr) (cs : List (Str × Addr)) (fp : List Addr), PG (X.blk s H scope (compEnvC scope cs C X.env) fp) tg (tG G ptg))
    (ht : ∀ (s : Shared) (H : Hp) (C : Addr) (cs : List (Str × Addr)) (fp : List Addr), PTs (X.blk s H scope (compEnvC scope cs C X.env) fp) ifs (tDC G cl pcnd))
    (he : ∀ (s : Shared) (H : Hp) (C : Addr) (cs : List (Str × Addr)) (fp : List Addr), PE (X.blk s H scope (compEnvC scope cs C X.env) fp) a (tD G cl E0 pelt))
    (hs : ∀ x, foldedSetIterable iter X.env x = pure x) (hown : ∀ i ∈ namesT ptg, i ∈ own.map (·.2)) :
    PE X (.ListComp a [⟨tg, iter, ifs, 0⟩] scope pos) (tDL G cl E (.comp (own.map (·.2)) pelt ptg pit pcnd)) := (pe_lc hc hN hi ok hg ht he hs).imp fun σ H Q hq => comp_impL hown hq
/-- a new list becomes one of the store -/
theorem s_new (h : PE X a (tDL G cl E pa)) : PE X a (tD G cl E (.new pa)) := h.imp fun σ H Q hq => by
  obtain ⟨w, ρ, rfl, ok, sr, h⟩ := hq
  refine ⟨w, ρ, rfl, ok, sr, ?_⟩
  have h : Got G w E ((evL cl pa ρ w.μ).bind fun xs μ1 => .ok (.cell μ1.length) (μ1 ++ [⟨0, xs⟩])) (RV G) Q := h
  show Got G w E (evL cl pa ρ w.μ) (RL G w.H) Q
  cases e : evL cl pa ρ w.μ with
  | no => rw [e] at h; exact h
  | ex x μ => rw [e] at h; exact h
  | ok xs μ =>
    rw [e] at h
    intro w1 v m ok1 e1 hr
    obtain ⟨p, vs, rfl, h1, h2, h3, r, hn⟩ := hr
    subst m
    refine Got.at (w1 := { w1 with cs := w1.cs ++ [p], μ := w1.μ ++ [⟨0, xs⟩] }) h rfl (own_ok ok1 h1 h3 h2 r) (own_ev ok ok1 e1 hn) ⟨p, ?_, rfl⟩
    show (w1.cs ++ [p])[w1.μ.length]? = some p
    rw [← ok1.len, List.getElem?_append_right (Nat.le_refl _), Nat.sub_self]
    rfl
end DL
/-! DLs: further rules: calls without arguments, ... -/
namespace DL
open PySem PySem.Spec PyProof.Rows L2
variable {G : Gr} {cl : Calls} {E : XK} {X : Cx} {a b c : Expr} {pa pb pc : PX} {pos : Pos} {es : List Expr} {ps : PX}
theorem call_lenU : CallR X (.builtin "len") (rLenU X.K) := CallR.or call_len_seq call_len_str
theorem call_listU : CallR X (.type "list") (rListU X.K) := call_list_of
theorem s_call0 {n f np : Nat} {x : Str} {p : Pos} (d : Def X G cl n f np x) (hr : Room n X.A) (hg : Gl X x) (tk : Takes X fun cls d _ H => E cls d H) (hdb : (x == ("__debug__" : Str)) = false) (hl : 0 = np) :
    PE X (.Call (.Name x p) [] [] pos) (tD G cl E (.call f .nl)) := by
  obtain ⟨fd, qs, hq, F, hb⟩ := d.ok
  refine PE.imp (t := fun σ H Q => spF G cl f np [] H Q E) ⟨fun pins s σ H Q I h => ?_⟩ fun σ H Q hq => ?_
  · refine wpAny_Call_Name_kw (ld_glob I hg d.mg ?_ hdb)
    exact PySem.W.callWith_K0 I.kIn d.kp (run_fnSD (E := fun _ => E) (us := []) F hr hb .nil (passAt_of tk σ) I .nil h)
  · obtain ⟨w, ρ, rfl, ok, sr, h⟩ := hq
    rw [ev] at h
    exact ⟨hl, w, [], rfl, ok, .nil, h⟩
theorem rv_of {w : Wd} {d : DL.D} {v : V} (h : Rp G w.F w.H d v) : RV G w d v := by
  cases d with
  | cell k => cases h
  | _ => exact h
theorem s_frz (ha : PE X a (tD G cl E pa)) : PE X a (tD G cl E (.frz pa)) := ha.imp fun σ H Q hq => by
  obtain ⟨w, ρ, rfl, ok, sr, h⟩ := hq
  have h : Got G w E ((ev cl pa ρ w.μ).bind fun d μ1 => frz d μ1) (RV G) Q := h
  refine ⟨w, ρ, rfl, ok, sr, go h fun x w1 v _ ok1 e1 rv h1 => ?_⟩
  have e : frz x w1.μ = (frz x w1.μ).bind fun d μ => .ok d μ := by cases frz x w1.μ <;> rfl
  rw [e] at h1
  obtain ⟨w2, d', g, _, ok2, e2, r2, h2⟩ := frz_step ok1 rv h1
  rw [← g]
  exact h2.out ok2 (rv_of r2)
end DL
set_option maxHeartbeats 2000000
/-! DLn: enumerate over a tuple. -/
namespace PySem
open Sem (wp)
open AutoSeq1 (wpAny_loadPart')
theorem dl_enum_new {v : Value} {o : Obj} {HH : Heap → Prop} (B : Begins v o HH) :
    Meets (Builtin.«enumerate.__new__» ⟨[.type "enumerate", v], []⟩) (fun _ R s => HH s.heap ∧
      R (.ok (.ret (.ref (s.heap.push o).objs.size))) { s with heap := (s.heap.push o).push ⟨.type "enumerate", none, .fields #[.none, .bool false, .ref s.heap.objs.size, rawInt 0, .none, .none], #[]⟩ }) :=
  .of_wp fun prog w A R s h => by
    obtain ⟨hp, g, d, tk, os⟩ := s
    obtain ⟨h1, h⟩ := h
    have sub := sub_enumerate
    have q1 : ∀ {A2 : Around} {E2 : Value → Shared → Prop} {Q2 : Value → Shared → Prop}, Q2 (.ref hp.objs.size) ⟨hp.push o, g, d, tk, os⟩ → wpAny (model prog w) A2 (pyIter v) Q2 E2 ⟨hp, g, d, tk, os⟩ :=
      fun q => B.iter prog w _ _ ⟨hp, g, d, tk, os⟩ _ h1 q
    wp_walk using q1
    refine wpAny_stack_any fun z =>
      wpAny_pure ?_
    split
    · rename_i c _ _ _ _ _
      cases c == Value.type "enumerate" <;>
      · wp_walk using q1
        exact ⟨_, rfl, h⟩
    · wp_walk using q1
      exact ⟨_, rfl, h⟩
theorem dl_enum_call {prog : Program} {w : World} {A : Around} {E : Value → Shared → Prop} {s : Shared} {v : Value} {o : Obj} {HH : Heap → Prop} {Q : Value → Shared → Prop} (B : Begins v o HH) (h1 : HH s.heap)
    (h : ∀ h2, IsEnum h2 (s.heap.objs.size + 1) s.heap.objs.size 0 .none → h2.get? s.heap.objs.size = some o → (∀ b u, s.heap.get? b = some u → h2.get? b = some u) → Q (.ref (s.heap.objs.size + 1)) { s with heap := h2 }) :
    wpAny (model prog w) A (call (.type "enumerate") [v]) Q E s := by
  refine callType_new F.called_enumerate (by decide) (F.typeCall_enumerate_1 _) (F.newCall_enumerate_1 _)
    (fun obj => F.args_object_init_2 obj _) F.entry_enumerate_new (dl_enum_new B) ⟨h1, ?_⟩
  have hz : (s.heap.push o).objs.size = s.heap.objs.size + 1 := Heap.size_push ..
  show _ ∧ _
  rw [hz]
  have he : IsEnum ((s.heap.push o).push ⟨.type "enumerate", none, .fields #[.none, .bool false, .ref s.heap.objs.size, rawInt 0, .none, .none], #[]⟩) (s.heap.objs.size + 1) s.heap.objs.size 0 .none := by
    have q := Heap.get?_push_size (s.heap.push o) (o := ⟨.type "enumerate", none, .fields #[.none, .bool false, .ref s.heap.objs.size, rawInt 0, .none, .none], #[]⟩) rfl
    rw [hz] at q
    exact q
  exact ⟨⟨_, he, rfl⟩, h _ he (Heap.get?_push_of_some _ (Heap.get?_push_size _ B.free)) fun b u x => Heap.get?_push_of_some _ (Heap.get?_push_of_some _ x)⟩
end PySem
namespace DL
open PySem PySem.Spec PyProof.Rows L2
/-- the tuple at a, each item in a new pair -/
def Itet (K : PySem.W.Frag) (a : Addr) : It :=
  ⟨fun i H => ∃ (xs : List V) (x : V), SqT K H a xs ∧ xs[i]? = some x,
   fun i H v H2 => ∃ T x, v = .ref T ∧ H T = none ∧ H2 = upd H T (.tup [.int (i : Nat), x]) ∧ ∀ xs, SqT K H a xs → xs[i]? = some x,
   fun i H => ∃ xs : List V, SqT K H a xs ∧ xs.length ≤ i⟩
theorem turn_enumT {P : Program} {w : World} {K : PySem.W.Frag} {elts : List Expr} {kk : Nat} {tpos : Pos} (a e it : Addr) :
    Turn P w K (.Tuple elts kk tpos) (Itet K a) [e, it] e (fun i h => (∃ old, IsEnum h e it ((i : Nat) : Int) old) ∧ h.IsTupleIter it a i ∧ e ≠ it) where
  mem := by simp
  obj := fun i h st b hb => by
    obtain ⟨⟨old, he⟩, ⟨o, ho, hc, hd⟩, _⟩ := st
    have e2 : b = e ∨ b = it := by simpa using hb
    rcases e2 with rfl | rfl
    · exact ⟨_, he, fun v q => nomatch q⟩
    · exact ⟨o, ho, fun v q => by rw [hd] at q; cases q⟩
  keep := fun i h h2 st k => let ⟨⟨old, he⟩, hi, hne⟩ := st; ⟨⟨old, k e (by simp) _ he⟩, hi.at fun o q => k it (by simp) o q, hne⟩
  item := by
    intro X hP hw hK hc i pins s σ H E I hf st hg
    subst hP hw hK
    obtain ⟨⟨old, he⟩, hit, hne⟩ := st
    obtain ⟨xs, x, hq, hx⟩ := hg
    obtain ⟨its, rv, p, hz⟩ := I.tuple hq
    obtain ⟨u, hu, ru⟩ := rv.get hx
    have hel : e < s.heap.objs.size := Heap.lt_size he
    have hil : it < s.heap.objs.size := by obtain ⟨_, q, _⟩ := hit; exact Heap.lt_size q
    have ht : s.heap.IsTuple a its.toArray := p
    have hai : a ≠ it := fun z => by
      obtain ⟨o1, k1, k2, _⟩ := ht
      obtain ⟨o2, k3, k4, _⟩ := hit
      rw [z, k3] at k1
      cases k1
      rw [k4] at k2
      simp at k2
    have hae : e ≠ a := fun z => by
      obtain ⟨o1, k1, k2, _⟩ := ht
      rw [← z, show s.heap.get? e = _ from he] at k1
      cases k1
      simp at k2
    have D := Draws.tuple (prog := X.prog) (w := X.w) (A := X.A.in1) (show X.A.in1.handled = none from I.ok.hd hc) it a hai its.toArray
    have lt : i < its.toArray.size := by
      rw [List.size_toArray]
      exact (List.getElem?_eq_some_iff.mp hu).1
    refine wpAny_pyNext_enum_itemD D he ⟨hit, ht⟩ lt hne (by simp [hne, hae]) fun y h2 tk hy ho hst hT hsz hk => ?_
    have hy : u = y := by
      have hy : its.toArray[i]? = some y := hy
      rw [List.getElem?_toArray, hu] at hy
      cases hy
      rfl
    subst hy
    refine ⟨_, rfl, wpAny_letOwnedTupleGo_enum (s := { s with heap := h2, toks := tk + 1 }) ho fun h3 he3 sb => ?_⟩
    have hT2 : h3.get? s.heap.objs.size = some ⟨.type "tuple", none, .seq #[.int i tk, u], #[]⟩ := (sb.2 _ (Nat.ne_of_gt hel)).trans hT
    have new : ObjOk X.prog X.w (upd H s.heap.objs.size (.tup [.int (i : Nat), x])) h3 s.heap.objs.size (.tup [.int (i : Nat), x]) :=
      ⟨by show 2 ≤ sizeLine; decide, [.int i tk, u], .cons ⟨_, rfl⟩ (.cons ru .nil), ⟨_, hT2, rfl, _, rfl⟩⟩
    have I1 : Inv X pins σ (upd H s.heap.objs.size (.tup [.int (i : Nat), x])) { s with heap := h3, toks := tk + 1 } :=
      I.turnedNew (ch := [e, it]) (fun b ob hb q => (sb.2 b (fun z => hb (by simp [z]))).trans (hk b ob (fun z => hb (by simp [z])) (fun z => hb (by simp [z])) q)) hf (Nat.le_refl _) new
    refine ⟨.ref s.heap.objs.size, _, I1, rfl, ⟨_, x, rfl, I.hok.fresh (Nat.le_refl _), rfl, fun ys hy => by rw [I.tuple_inj hy hq]; exact hx⟩, ⟨⟨u, ?_⟩, hst.1.at fun o q => (sb.2 it (Ne.symm hne)).trans q, hne⟩, fun b hb => ?_⟩
    · have e1 : ((i + 1 : Nat) : Int) = (i : Int) + 1 := by omega
      rw [e1]
      exact he3
    · have hb2 : b < s.heap.objs.size := by
        have e2 : b = e ∨ b = it := by simpa using hb
        rcases e2 with rfl | rfl
        · exact hel
        · exact hil
      rw [upd_ne (Nat.ne_of_lt hb2)]
      exact (hf b hb).1
  done := by
    intro X hP hw hK hc i pins s σ H E I hf st hg
    subst hP hw hK
    obtain ⟨⟨old, he⟩, hit, hne⟩ := st
    obtain ⟨xs, hq, hx⟩ := hg
    obtain ⟨its, rv, p, hz⟩ := I.tuple hq
    obtain ⟨f0, f1, f2, f3, f4, f5⟩ := hf it (by simp)
    have hl := rv.length
    have ht : s.heap.IsTuple a its.toArray := p
    have hai : a ≠ it := fun z => by
      obtain ⟨o1, k1, k2, _⟩ := ht
      obtain ⟨o2, k3, k4, _⟩ := hit
      rw [z, k3] at k1
      cases k1
      rw [k4] at k2
      simp at k2
    have hT : s.TypeIs (.ref e) "enumerate" := ⟨_, he, rfl⟩
    unfold pyNext
    refine wpAny_bind (wpAny_attempt (wpAny_callSpecial?_slot (name := Str.ofString "__next__") hT F.slot_enumerate_next
      (wpAny_call_entry F.slot_enumerate_next hT F.entry_enumerate_next ?_ (F.args_enumerate_next_1 _))))
    show wpAny _ _ (field (.ref e) 2 >>= _) _ _ _
    refine wpAny_bind (wpAny_field he rfl (x := .ref it) rfl ?_)
    refine wpAny_bind (wpAny_nextOf_tuple_end (show X.A.in1.handled = none from I.ok.hd hc) hit ht (by rw [List.getElem?_toArray]; exact List.getElem?_eq_none (by omega)) fun h2 x he2 hx2 => ?_)
    obtain ⟨o, ho, hcl⟩ := hx2
    refine wpAny_bind (wpAny_isInstance (T := "StopIteration") (b := true) ⟨o, ho, hcl⟩ isSubtype_stop ?_)
    exact wpAny_pure ⟨rfl, I.turned (t' := s.toks) (fun b o hb q => he2 b o hb q) f0 f1 f3 f4 f5⟩
  self := fun A i s Q E st h => let ⟨⟨_, he⟩, _⟩ := st; wpAny_pyIter_enum he h
def iEnumT (K : PySem.W.Frag) (ta : TA) : TI := fun σ H R => ta σ H fun vs H1 => ∃ a xs, vs = [.ref a] ∧ SqT K H1 a xs ∧ R (Itet K a) H1
theorem pi_enumT {X : Cx} {e : Expr} {ta : TA} {p pos tpos : Pos} {elts : List Expr} {kk : Nat} (hg : Gl X "enumerate") (hm : X.mg "enumerate" = none) (ha : PA X [e] ta) (hs : starEach [e] X.env = [(false, eval e X.env)]) :
    PI X (.Tuple elts kk tpos) (.Call (.Name "enumerate" p) [e] [] pos) (iEnumT X.K ta) := by
  refine ⟨fun pins s σ H R I h => ?_⟩
  refine Call_ (ld_blt I hg hm boot_enumerate (PyProof.Rows.callWith_type1 (thn (ha.run pos pins s σ H _ I h) fun us s1 ⟨vs, H1, I1, r1, q1⟩ => ?_) hs rfl))
  obtain ⟨a, xs, ex, hq, q⟩ := q1
  subst ex
  cases r1 with
  | cons r rr =>
    cases rr
    cases r
    obtain ⟨its, rv, p2, hz⟩ := I1.tuple hq
    have ht : s1.heap.IsTuple a its.toArray := p2
    refine dl_enum_call (begins_tuple a its.toArray) ht fun h2 he hit hk => wpAny_pyIter_enum he ?_
    have I2 : Inv X pins σ H1 { s1 with heap := h2 } := I1.kept (t' := s1.toks) hk
    refine ⟨s1.heap.objs.size + 1, [s1.heap.objs.size + 1, s1.heap.objs.size], _, _, H1, rfl, I2, turn_enumT a (s1.heap.objs.size + 1) s1.heap.objs.size, ⟨⟨.none, he⟩, ⟨_, hit, rfl, rfl⟩, Nat.succ_ne_self _⟩, fun b hb => ?_, q⟩
    have e2 : b = s1.heap.objs.size + 1 ∨ b = s1.heap.objs.size := by simpa using hb
    have hle : s1.heap.objs.size ≤ b := by
      rcases e2 with rfl | rfl
      · exact Nat.le_succ _
      · exact Nat.le_refl _
    exact I1.fpOk hle (I1.hok.fresh hle)
variable {G : Gr} {cl : Calls} {E : XK} {X : Cx} {a b c : Expr} {pa pb pc : PX} {pos : Pos} {es : List Expr} {ps : PX}
theorem wk_enmT {w0 : Wd} {xs : List D} {a : Addr} (h : ∀ w : Wd, w.Ok G → Ev G w0 w → ∃ vs, SqT G.K w.H a vs ∧ RpL G w.F w.H xs vs) : Wk G (Itet G.K a) (enmL 0 xs) w0 := by
  refine wk_pair (x := fun i => .int (i : Nat)) (y := fun i => xs.getD i .non) (fun i d hd => ?_) (fun w i ok e hi => ?_) (fun w i ok e hi => ?_)
  · rw [enm_get] at hd
    obtain ⟨x, h1, rfl⟩ := Option.map_eq_some_iff.mp hd
    rw [List.getD_eq_getElem?_getD, h1, Nat.zero_add]
    rfl
  · obtain ⟨vs, s1, r1⟩ := h w ok e
    cases hx : xs[i]? with
    | none => rw [enm_get, hx] at hi; exact absurd rfl hi
    | some x =>
      obtain ⟨v, k1, k2⟩ := r1.get i hx
      refine ⟨⟨vs, v, s1, k1⟩, fun z H' hz => ?_⟩
      obtain ⟨T, v', rfl, hT, rfl, f1⟩ := hz
      have e1 := f1 vs s1
      rw [k1] at e1
      cases e1
      refine ⟨T, _, v, rfl, hT, rfl, Rp.int _, ?_⟩
      show Rp G w.F w.H (xs.getD i .non) v
      rw [List.getD_eq_getElem?_getD, hx]
      exact k2
  · obtain ⟨vs, s1, r1⟩ := h w ok e
    have hx : xs[i]? = none := by
      rw [enm_get] at hi
      cases hx : xs[i]? with
      | none => rfl
      | some x => rw [hx] at hi; cases hi
    exact ⟨vs, s1, List.getElem?_eq_none_iff.mp (r1.none_of hx)⟩
theorem i_enm {elts : List Expr} {kk : Nat} {tpos p : Pos} (h : PE X a (tD G cl E pa)) (hs : noStar a = true) (hg : Gl X "enumerate") (hm : X.mg "enumerate" = none) (hK : X.K = G.K) : PI X (.Tuple elts kk tpos) (.Call (.Name "enumerate" p) [a] [] pos) (tDI G cl E (.enm pa)) :=
  (PI.or (pi_enum hg hm (pa_cons h pa_nil (star_cons hs _ _)) (one_star hs _)) (pi_enumT hg hm (pa_cons h pa_nil (star_cons hs _ _)) (one_star hs _))).imp fun σ H R hq => by
    obtain ⟨w, ρ, rfl, ok, sr, hq⟩ := hq
    rw [hK]
    have hq : Got G w E ((ev cl pa ρ w.μ).bind fun x μ1 => match x with
      | .lst xs => .ok (enmL 0 xs, none) μ1
      | .tup xs => .ok (enmL 0 xs, none) μ1
      | _ => .no) (fun (w1 : Wd) (q : Its) (J : It) => Wk G J q.1 (w1.lk q.2) ∧ LkOk w1 q.2) R := hq
    by_cases isT : ∃ xs μ1, ev cl pa ρ w.μ = .ok (.tup xs) μ1
    · refine .inr ⟨w, ρ, rfl, ok, sr, go hq fun x w1 v ex ok1 e1 rv h1 => ?_⟩
      cases x with
      | tup xs =>
        have r1 : Rp G w1.F w1.H (.tup xs) v := rv
        obtain ⟨p, vs, rfl, g1, _⟩ := RV.toTup (w := w1) rv
        refine ⟨p, vs, rfl, g1, Got.out (d := (enmL 0 xs, none)) (rel := WkL G) h1 ok1 ⟨wk_enmT fun w3 ok3 e3 => ?_, fun k z => by cases z⟩⟩
        have k1 := Ev.rp ok1 (show Ev G w1 w3 from e3) r1
        cases k1 with
        | tup a1 b1 => exact ⟨_, a1.sq, b1⟩
      | _ =>
        obtain ⟨xs, μ1, z⟩ := isT
        rw [z] at ex
        cases ex
    · refine .inl ⟨w, ρ, rfl, ok, sr, go hq fun x w1 v ex ok1 e1 rv h1 => ?_⟩
      cases x with
      | lst xs =>
        have r1 : Rp G w1.F w1.H (.lst xs) v := rv
        obtain ⟨p, vs, rfl, g1, _⟩ := ok1.listOf (d := .lst xs) rv rfl
        refine ⟨p, vs, rfl, .inl (.inl g1), Got.out (d := (enmL 0 xs, none)) (rel := WkL G) h1 ok1 ⟨wk_enmL _ (fun w3 ok3 e3 => ?_), fun k z => by cases z⟩⟩
        obtain ⟨p', vs', eq1, a1, b1⟩ := lst_stays ok1 (show Ev G w1 w3 from e3) r1
        cases eq1
        exact ⟨_, a1, b1⟩
      | tup xs => exact absurd ⟨xs, _, ex⟩ isT
      | _ => exact h1.elim
end DL
/-! DLo: xs[::-1]. -/
namespace DL
open PySem PySem.Spec PyProof.Rows L2
section
variable {prog : Program} {w : World} {A : Around} {E : Value → Shared → Prop} {s : Shared}
theorem adj_rev (n : Nat) : Builtin.Slice.sliceAdjust none none (-1) (n : Int) = ((n : Int) - 1, -1) := by
  unfold Builtin.Slice.sliceAdjust
  simp
theorem places_rev (n : Nat) : Builtin.Slice.slicePlaces ((n : Int) - 1) (-1) (-1) = n := by
  unfold Builtin.Slice.slicePlaces
  simp
  omega
theorem applied_rev {sl : Addr} {n : Nat} {u : Tok} {Q : Int × Int × Nat → Shared → Prop} (hs : s.heap.IsSliceOf sl .none .none (.int (-1) u)) (h : Q ((n : Int) - 1, -1, n) s) :
    wpAny (model prog w) A (Builtin.Slice.sliceApplied (.ref sl) (pure (n : Int))) Q E s := by
  obtain ⟨os, hos, hcs, hds⟩ := id hs
  unfold Builtin.Slice.sliceApplied Builtin.Slice.sliceFields
  refine wpAny_bind (wpAny_bind (wpAny_field hos hds (x := .none) rfl (wpAny_bind (wpAny_field hos hds (x := .none) rfl (wpAny_bind (wpAny_field hos hds (x := .int (-1) u) rfl (wpAny_pure ?_)))))))
  refine wpAny_bind (slicePart_int ?_)
  show wpAny _ _ (if ((-1 : Int) == 0) = true then _ else _) _ _ s
  rw [if_neg (by decide)]
  refine wpAny_bind (slicePart_none (wpAny_bind (slicePart_none (wpAny_bind (wpAny_pure ?_)))))
  show wpAny _ _ (match Builtin.Slice.sliceAdjust none none (-1) (n : Int) with | (lo, hi) => pure (lo, (-1 : Int), Builtin.Slice.slicePlaces lo hi (-1))) _ _ s
  rw [adj_rev n]
  show wpAny _ _ (pure ((n : Int) - 1, (-1 : Int), Builtin.Slice.slicePlaces ((n : Int) - 1) (-1) (-1))) _ _ s
  rw [places_rev n]
  exact wpAny_pure h
theorem range_rev (n : Nat) : PySem.sliceRange (sliceBounds none none (some (-1)) n).1 (sliceBounds none none (some (-1)) n).2.1 (sliceBounds none none (some (-1)) n).2.2 = (List.range n).map fun (k : Nat) => ((n : Int) - 1 + (k : Int) * (-1)).toNat := by
  unfold PySem.sliceRange sliceBounds
  simp
  have e : (if (-1 : Int) < (n : Int) - 1 then (n : Int) else 0).toNat = n := by split <;> omega
  rw [e]
theorem pick_revT (xs : Array Value) : ((List.range xs.size).filterMap fun (k : Nat) => xs[(((xs.size : Nat) : Int) - 1 + (k : Int) * (-1)).toNat]?).toArray = xs.toList.reverse.toArray := by
  rw [← PySem.W.krv_pick]
  unfold slicePick
  rw [range_rev, List.filterMap_map]
  rfl
theorem getItem_rev {t sl : Addr} {items : Array Value} {u : Tok} {Q : Value → Shared → Prop} (ht : IsTup s.heap t items) (hs : s.heap.IsSliceOf sl .none .none (.int (-1) u)) (hsz : items.size ≤ sizeLine)
    (h : Q (.ref s.heap.objs.size) { s with heap := s.heap.push ⟨.type "tuple", none, .seq items.toList.reverse.toArray, #[]⟩ }) : wpAny (model prog w) A (getItem (.ref t) (.ref sl)) Q E s := by
  have hfit : sizeOk (.seq items.toList.reverse.toArray) := by
    show items.toList.reverse.toArray.size ≤ sizeLine
    rw [List.size_toArray, List.length_reverse, Array.length_toList]
    exact hsz
  obtain ⟨os, hos, hcs, hds⟩ := id hs
  have hTs : s.TypeIs (.ref sl) "slice" := ⟨os, hos, hcs⟩
  unfold getItem
  try with_reducible refine wpAny_holding ?_
  first | refine wpAny_bind (wpAny_pure ?_) | skip
  refine wpAny_bind (wpAny_sequenceKey ht.typeIs (by decide) ?_)
  refine wpAny_bind (wpAny_callSpecial?_slot (name := Str.ofString "__getitem__") ht.typeIs slot_tuple_getitem
    (wpAny_call_entry slot_tuple_getitem ht.typeIs entry_tuple_getitem ?_ (args_tuple_getitem _ _)))
  show wpAny _ _ (Builtin.Tuple.tupleItemsOf (.ref t) >>= _) _ _ s
  refine wpAny_bind (tupleItemsOf_ ht ?_)
  refine wpAny_bind (wpAny_typeOf hTs ?_)
  rw [if_pos (by decide)]
  refine wpAny_bind (applied_rev hs ?_)
  have hno : ¬ ((((items.size : Nat) : Int) - 1 == 0 && (-1 : Int) == 1 && items.size == items.size) = true) := by simp
  show wpAny _ _ (if (((items.size : Nat) : Int) - 1 == 0 && (-1 : Int) == 1 && items.size == items.size) = true then _ else _) _ _ s
  rw [if_neg hno, pick_revT items]
  first
    | exact wpAny_bind (m := Builtin.Tuple.tupleExact _) (wpAny_newObj_type (wpAny_pure ⟨_, rfl, wpAny_pure h⟩) hfit)
    | exact wpAny_bind (m := Builtin.Tuple.tupleExact _) (wpAny_newObj_type (wpAny_bind (wpAny_pure (wpAny_pure ⟨_, rfl, wpAny_pure h⟩))) hfit)
    | exact wpAny_bind (wpAny_bind (m := Builtin.Tuple.tupleExact _) (wpAny_newObj_type (wpAny_pure (wpAny_pure ⟨_, rfl, wpAny_pure h⟩)) hfit))
    | exact wpAny_bind (wpAny_bind (m := Builtin.Tuple.tupleExact _) (wpAny_newObj_type (wpAny_pure ⟨_, rfl, wpAny_pure h⟩) hfit))
end
def tRevU (K : PySem.W.Frag) (te : TE) : TE := fun σ H Q => te σ H fun x H1 => ∃ a xs, x = .ref a ∧ ((SqL K H1 a xs ∧ ∀ p, H1 p = none → Q (.ref p) (upd H1 p (.lst xs.reverse))) ∨ (SqT K H1 a xs ∧ ∀ p, H1 p = none → Q (.ref p) (upd H1 p (.tup xs.reverse))))
theorem pe_revU {X : Cx} {e : Expr} {te : TE} {k : Nat} {p1 p2 p3 pos : Pos} (he : PE X e te) : PE X (.Subscript e (.Slice none none (some (.UnaryOp .USub (.Constant (.int 1) k p1) p2)) p3) pos) (tRevU X.K te) := by
  refine ⟨fun pins s σ H Q I h => ?_⟩
  refine Subscript_ (thn (he.run pins s σ H _ I h) fun v s1 ⟨x, H1, I1, r1, q1⟩ => ?_)
  obtain ⟨a, xs, ex, hq⟩ := q1
  subst ex
  cases r1
  have hst : PE X (.UnaryOp .USub (.Constant (.int 1) k p1) p2) (tUn (rU fun i => .int (-i)) (tC (.int 1))) := pe_un un_neg pe_int
  refine wpAny_Slice (thn (po_none.run pins s1 σ H1 (fun o H2 => o = none ∧ H2 = H1) I1 ⟨rfl, rfl⟩) fun vl s2 ⟨l, H2, I2, pl, el, e2⟩ => ?_)
  subst el e2
  refine thn (po_none.run pins s2 σ H2 (fun o H3 => o = none ∧ H3 = H2) I2 ⟨rfl, rfl⟩) fun vu s3 ⟨u, H3, I3, pu, eu, e3⟩ => ?_
  subst eu e3
  refine thn (hst.run pins s3 σ H3 (fun z H4 => z = .int (-1) ∧ H4 = H3) I3 ⟨1, rfl, rfl, rfl⟩) fun vs s4 ⟨o, H4, I4, rs, eo, e4⟩ => ?_
  subst eo e4
  obtain ⟨tk, rfl⟩ := rs
  have I5 : Inv X pins σ H4 { s4 with heap := s4.heap.push { cls := .type "slice", data := .fields #[vl, vu, .int (-1) tk] } } := I4.kept (t' := s4.toks) fun b ob q => Heap.get?_push_of_some _ q
  have hsl := Heap.IsSliceOf.new s4.heap vl vu (.int (-1) tk)
  show wpAny (model X.prog X.w) X.A (subscriptTail e (.Slice none none (some (.UnaryOp .USub (.Constant (.int 1) k p1) p2)) p3) (.ref a) (.ref s4.heap.objs.size)) (EP X pins σ Q) X.xe { s4 with heap := s4.heap.push { cls := .type "slice", data := .fields #[vl, vu, .int (-1) tk] } }
  rcases hq with ⟨hx, q⟩ | ⟨hx, q⟩
  · obtain ⟨its, r, ht, hz⟩ := I5.list hx
    have hlen := r.length
    refine tail_any (ops := [.ref a, .ref s4.heap.objs.size]) ht.isList.typeIs (PySem.slot_list_getitem.lookup) ?_ (by with_unfolding_all rfl)
    refine wpAny_getItem_list_slice ht.isList hsl pl pu (.int _ _) (by decide) ?_ (by rw [List.size_toArray]; omega)
    rw [PySem.W.krv_pick]
    refine ⟨.ref _, _, I5.laid (t' := s4.toks) (o := .lst xs.reverse) (fun b ob q => Heap.get?_push_of_some _ q) (Nat.le_refl _) ?_, rfl, q _ (I5.hok.fresh (Nat.le_refl _))⟩
    exact ⟨by rw [List.length_reverse]; exact hz, _, 0, r.reverse, Heap.get?_push_size _ rfl⟩
  · obtain ⟨its, r, ht, hz⟩ := I5.tuple hx
    have hlen := r.length
    cases pl
    cases pu
    refine tail_any (ops := [.ref a, .ref s4.heap.objs.size]) ht.typeIs (PyProof.Rows.slot_tuple_getitem.lookup) ?_ (by with_unfolding_all rfl)
    refine getItem_rev ht hsl (by rw [List.size_toArray]; omega) ?_
    refine ⟨.ref _, _, I5.laid (t' := s4.toks) (o := .tup xs.reverse) (fun b ob q => Heap.get?_push_of_some _ q) (Nat.le_refl _) ?_, rfl, q _ (I5.hok.fresh (Nat.le_refl _))⟩
    exact ⟨by rw [List.length_reverse]; exact hz, _, r.reverse, IsTup.new _ _⟩
variable {G : Gr} {cl : Calls} {E : XK} {X : Cx} {a : Expr} {pa : PX} {pos : Pos}
theorem s_rev {k : Nat} {p1 p2 p3 : Pos} (ha : PE X a (tD G cl E pa)) (hK : X.K = G.K) : PE X (.Subscript a (.Slice none none (some (.UnaryOp .USub (.Constant (.int 1) k p1) p2)) p3) pos) (tD G cl E (.sls pa (.int (-1)))) := (pe_revU ha).imp fun σ H Q hq => by
  obtain ⟨w, ρ, rfl, ok, sr, h⟩ := hq
  rw [hK]
  have h : Got G w E ((ev cl pa ρ w.μ).bind fun x μ1 => Rs.of (slsD μ1 x (.int (-1))) μ1) (RV G) Q := h
  refine ⟨w, ρ, rfl, ok, sr, go h fun x w1 v _ ok1 e1 rv h1 => ?_⟩
  obtain ⟨d, e, h2⟩ := h1.of
  have gen : (listOf w1.μ x).map (fun xs => D.lst xs.reverse) = some d → ∃ a xs, v = .ref a ∧ ((SqL G.K w1.H a xs ∧ ∀ p, w1.H p = none → Q (.ref p) (upd w1.H p (.lst xs.reverse))) ∨ (SqT G.K w1.H a xs ∧ ∀ p, w1.H p = none → Q (.ref p) (upd w1.H p (.tup xs.reverse)))) := fun e => by
    obtain ⟨xs, e3, rfl⟩ := Option.map_eq_some_iff.mp e
    obtain ⟨p, vs, rfl, g1, r1⟩ := ok1.listOf rv e3
    exact ⟨p, vs, rfl, .inl ⟨.inl (.inl g1), h2.lst ok1 r1.reverse⟩⟩
  cases x with
  | tup xs =>
    have e : some (D.tup xs.reverse) = some d := e
    cases e
    obtain ⟨p, vs, rfl, g1, r1⟩ := RV.toTup (w := w1) rv
    exact ⟨p, vs, rfl, .inr ⟨g1, h2.tup ok1 r1.reverse⟩⟩
  | cell k =>
    refine gen ?_
    cases q : listOf w1.μ (.cell k) with
    | none => simp [slsD, q] at e
    | some xs => simpa [slsD, q, slsX] using e
  | lst xs => exact gen (by simpa [slsD, listOf, slsX] using e)
  | _ => simp [slsD, listOf] at e
end DL
set_option maxHeartbeats 4000000
/-! DLp: sorted(set(..)), the members whole numbers. -/
namespace L2
open PySem PySem.Spec PyProof.Rows
section
variable {P : Program} {w : World} {A : Around} {E : Value → Shared → Prop} {s : Shared}
abbrev dlNew (w : World) : Obj := ⟨.type "set", none, .set #[] 0 (.fresh 0 0 (!w.params.followText "set-order")), #[]⟩
theorem dl_set_list {l : Addr} {items : Array Value} (ns : List Int) {Q : Value → Shared → Prop} (hh : A.handled = none) (hl : s.heap.IsList l items) (hit : IntsAre items.toList ns) (hb : ns.length + 1 < scanBound)
    (h : ∀ (h2 : Heap) (tk c : Nat), SetR w h2 s.heap.objs.size (fun j => decide (j ∈ ns)) c → c ≤ ns.length → (∀ b o, s.heap.get? b = some o → h2.get? b = some o) → Q (.ref s.heap.objs.size) { s with heap := h2, toks := tk }) :
    wpAny (model P w) A (call (.type "set") [.ref l]) Q E s := by
  have size : items.size = ns.length := by
    have q := IntsAre.length hit
    rwa [Array.length_toList] at q
  obtain ⟨c, tl, hmro⟩ := F.called_set.mro
  have hmade := F.called_set.made
  have hsub := F.called_set.sub
  refine wpAny_call (codeAny_of_tree ?_)
  show wpAny _ _ (callAny (.type "set") _) _ _ _
  refine wpAny_pure ⟨Code.quiet_builtin _ (by decide +kernel), codeAny_builtin F.entry_type_call ?_⟩
  rw [Around.under_plain (weight_type_call_type "set" [.ref l] []) rfl]
  have h1 := F.called_set.notType
  have h2 := F.called_set.canCreate
  have hct := F.typeCall_set_1 (.ref l)
  repeat (any_goals (first | assumption | wp_step))
  refine codeAny_mono (code_set_led1 (.ref l) (E := E) (Q₁ := fun obj s₁ => obj = .ref s.heap.objs.size ∧ s₁ = { s with heap := s.heap.push (dlNew w) }) ⟨rfl, rfl⟩) fun r s1 hr => ?_
  cases r with
  | error e => exact hr
  | ok fl =>
    cases fl with
    | ret obj =>
      obtain ⟨rfl, rfl⟩ := hr
      have hS : (s.heap.push (dlNew w)).get? s.heap.objs.size = some (dlNew w) := Heap.get?_push_size _ rfl
      have hT : Shared.TypeIs { s with heap := s.heap.push (dlNew w) } (.ref s.heap.objs.size) "set" := ⟨_, hS, rfl⟩
      have hli := F.called_set.init.lookup
      have hbi := F.called_set.init.bind (.ref s.heap.objs.size)
      repeat (any_goals (first | assumption | wp_step))
      refine codeAny_mono (codeAny_call_builtin (R := wants (fun r s2 => r = .none ∧ ∃ h2 tk c, s2 = { s with heap := h2, toks := tk } ∧ SetR w h2 s.heap.objs.size (fun j => decide (j ∈ ns)) c ∧ c ≤ ns.length ∧
          (∀ b o, s.heap.get? b = some o → h2.get? b = some o)) E) F.called_set.init.plain F.entry_set_init (check_set_init_1 hT ?_)) fun r2 s2 hr2 => ?_
      · obtain ⟨⟨oc, od, odata, osl⟩, hol, hcl, nl, hdl⟩ := hl
        simp only at hcl hdl
        subst hcl hdl
        have hol2 : (s.heap.push (dlNew w)).get? l = some ⟨.type "list", od, .seq items nl, osl⟩ := Heap.get?_push_of_some _ hol
        have hsls := F.sub_list_set
        have hslf := F.sub_list_frozenset
        have hne : (Value.type "list" == Value.type "dict") = false := by decide
        have hl1 : (s.heap.push (dlNew w)).IsList l items := ⟨_, hol2, rfl, nl, rfl⟩
        unfold Builtin.«set.__init__» noKeywords
          Builtin.Frozenset.updateFrom
        generalize hPI : pyIter = PI
        wp_walk
        subst hPI
        refine wpAny_pyIter_list hl1 ?_
        refine wpAny_bind (wpAny_runValue ?_)
        have hlS : l < s.heap.objs.size := Heap.lt_size hol
        have hh3 : A.in1.in1.in1.handled = none := by simp [hh]
        have sz : (s.heap.push (dlNew w)).objs.size = s.heap.objs.size + 1 := Heap.size_push ..
        have hneI : l ≠ (s.heap.push (dlNew w)).objs.size := by
          rw [sz]
          exact Nat.ne_of_lt (Nat.lt_succ_of_lt hlS)
        have hSf : s.heap.objs.size ∉ [(s.heap.push (dlNew w)).objs.size, l] := by
          rw [sz]
          intro z
          rcases List.mem_cons.mp z with z | z
          · exact Nat.ne_of_lt (Nat.lt_succ_self _) z
          · exact Nat.ne_of_gt hlS (List.mem_singleton.mp z)
        have hval : ∀ (i : Nat) (v : Value), items[i]? = some v → ∃ k t, ns[i]? = some k ∧ v = .int k t := fun i v hv => by
          have hi : i < ns.length := by
            rw [← size]
            exact (Array.getElem?_eq_some_iff.mp hv).1
          obtain ⟨t, e⟩ := PyProof.Rows.IntsAre.int_at hit i v (by rw [Array.getElem?_toList]; exact hv)
          refine ⟨ns[i], t, List.getElem?_eq_getElem hi, ?_⟩
          rw [e, List.getD_eq_getElem?_getD, List.getElem?_eq_getElem hi] <;> rfl
        refine set_update_ints ((Walks.list hh3 _ l hneI items).toS) s.heap.objs.size hSf ns size hb hval (items.size - 0) 0 _ (by omega) (Nat.zero_le _) ⟨⟨_, Heap.get?_push_size _ rfl, rfl, rfl⟩, hl1.push _⟩ ?a0 ?a1
        case a0 =>
          have hget : ((s.heap.push (dlNew w)).push ⟨.type "list_iterator", none, .fields #[.ref l, .int 0 0], #[]⟩).get? s.heap.objs.size = some (dlNew w) := Heap.get?_push_of_some _ hS
          exact ⟨0, Nat.le_refl 0, setR_new_at hget⟩
        case a1 =>
          intro s' c2 hm hc2 hS2
          obtain ⟨h2, g2, d2, tk2, os2⟩ := s'
          have eg : g2 = s.gens := hm.gens
          have ed : d2 = s.drawn := hm.drawn
          have eo : os2 = s.os := hm.os
          subst eg ed eo
          show wpAny _ _ _ _ _ _
          refine wpAny_pure ?_
          show wpAny _ _ (ret Value.none) _ _ _
          rw [size] at hc2
          refine wpAny_pure ⟨rfl, h2, tk2, c2, rfl, hS2, hc2, fun b o e => ?_⟩
          have hb0 : b < s.heap.objs.size := Heap.lt_size e
          refine hm.heap b o (fun z => ?_) (Heap.get?_push_of_some _ (Heap.get?_push_of_some _ e))
          rcases List.mem_cons.mp z with z | z
          · exact Nat.ne_of_lt hb0 z
          · have z := List.mem_singleton.mp z
            rw [sz] at z
            exact Nat.ne_of_lt (Nat.lt_succ_of_lt hb0) z
      · cases r2 with
        | error e => exact hr2
        | ok fl2 =>
          cases fl2 with
          | ret r =>
            obtain ⟨rfl, h2, tk, c2, rfl, hS2, hc2, hk2⟩ := hr2
            repeat (any_goals (first | assumption | wp_step))
            exact h _ _ _ hS2 hc2 hk2
          | _ => exact hr2.elim
    | _ => exact hr.elim
end
end L2
set_option maxHeartbeats 2000000
/-! DLq: sorted(set(..)): the rule. -/
namespace DL
open PySem PySem.Spec PyProof.Rows L2
theorem insU_mem (i j : Int) : ∀ l : List Int, j ∈ insU i l ↔ j = i ∨ j ∈ l
  | [] => by simp [insU]
  | k :: r => by
    unfold insU
    split
    · simp
    · split
      · rename_i e
        subst e
        simp
      · rw [List.mem_cons, insU_mem i j r, List.mem_cons]
        constructor
        · rintro (h | h | h)
          · exact .inr (.inl h)
          · exact .inl h
          · exact .inr (.inr h)
        · rintro (h | h | h)
          · exact .inr (.inl h)
          · exact .inl h
          · exact .inr (.inr h)
theorem srtU_mem (j : Int) : ∀ l : List Int, j ∈ srtU l ↔ j ∈ l
  | [] => by simp [srtU]
  | k :: r => by rw [srtU, insU_mem, srtU_mem j r, List.mem_cons]
theorem insU_pw (i : Int) : ∀ l : List Int, l.Pairwise (· < ·) → (insU i l).Pairwise (· < ·)
  | [], _ => by simp [insU]
  | k :: r, h => by
    have ⟨h1, h2⟩ := List.pairwise_cons.mp h
    unfold insU
    split
    · rename_i lt
      exact List.pairwise_cons.mpr ⟨fun a ha => by
        rcases List.mem_cons.mp ha with rfl | ha
        · exact lt
        · exact Int.lt_trans lt (h1 a ha), h⟩
    · rename_i nlt
      split
      · exact h
      · rename_i ne
        refine List.pairwise_cons.mpr ⟨fun a ha => ?_, insU_pw i r h2⟩
        rcases (insU_mem i a r).mp ha with rfl | ha
        · omega
        · exact h1 a ha
theorem srtU_pw : ∀ l : List Int, (srtU l).Pairwise (· < ·)
  | [] => by simp [srtU]
  | k :: r => insU_pw k _ (srtU_pw r)
theorem asc_unique : ∀ {l m : List Int}, l.Pairwise (· < ·) → m.Pairwise (· < ·) → (∀ x, x ∈ l ↔ x ∈ m) → l = m
  | [], [], _, _, _ => rfl
  | [], y :: m, _, _, h => by have := (h y).mpr (by simp); simp at this
  | x :: l, [], _, _, h => by have := (h x).mp (by simp); simp at this
  | x :: l, y :: m, h1, h2, h => by
    have ⟨a1, a2⟩ := List.pairwise_cons.mp h1
    have ⟨b1, b2⟩ := List.pairwise_cons.mp h2
    have e : x = y := by
      have p := (h x).mp (by simp)
      have q := (h y).mpr (by simp)
      rcases List.mem_cons.mp p with p | p
      · exact p
      · rcases List.mem_cons.mp q with q | q
        · exact q.symm
        · have := a1 y q
          have := b1 x p
          omega
    subst e
    have : l = m := asc_unique a2 b2 fun z => by
      constructor
      · intro hz
        rcases List.mem_cons.mp ((h z).mp (List.mem_cons_of_mem _ hz)) with p | p
        · have := a1 z hz
          omega
        · exact p
      · intro hz
        rcases List.mem_cons.mp ((h z).mpr (List.mem_cons_of_mem _ hz)) with p | p
        · have := b1 z hz
          omega
        · exact p
    rw [this]
def rSetI (K : PySem.W.Frag) (w : World) : List V → Hp → VK → Prop := fun xs H Q => ∃ (l : Addr) (ns : List Int), xs = [V.ref l] ∧ (SqL K H l (ns.map V.int) ∨ SqT K H l (ns.map V.int)) ∧ ns.length < 64 ∧
  ∀ (p : Addr) (c : Nat), H p = none → c ≤ ns.length → Q (.ref p) (upd H p (SetO w p (fun j => decide (j ∈ ns)) c))
theorem ints_of {ns : List Int} {us : List Value} (r : Vals (ns.map V.int) us) : IntsAre us ns := by
  have h : IntsAre us.toArray.toList ns := intsAre_of (by simpa using r)
  simpa using h
theorem cr_setI {X : Cx} (hc : X.calm = true) : CallR X (.type "set") (rSetI X.K X.w) := by
  intro pins s σ H xs us Q I r h
  obtain ⟨l, ns, rfl, hl, hf, q⟩ := h
  rw [Vals.ref1 r]
  have hn : H s.heap.objs.size = none := I.hok.fresh (Nat.le_refl _)
  have hsb : ns.length + 1 < scanBound := by show _ < 4096; omega
  have fin : ∀ (h2 : Heap) (tk c : Nat), SetR X.w h2 s.heap.objs.size (fun j => decide (j ∈ ns)) c → c ≤ ns.length → (∀ b o, s.heap.get? b = some o → h2.get? b = some o) → EP X pins σ Q (.ref s.heap.objs.size) { s with heap := h2, toks := tk } := fun h2 tk c R hcn k =>
    ⟨.ref s.heap.objs.size, upd H s.heap.objs.size (SetO X.w s.heap.objs.size (fun j => decide (j ∈ ns)) c), I.laid (t' := tk) k (Nat.le_refl _) (setO_new R), rfl, q _ c hn hcn⟩
  rcases hl with hl | hl
  · obtain ⟨its, rv, pl, hz⟩ := I.list hl
    exact dl_set_list (P := X.prog) (w := X.w) ns (I.ok.hd hc) pl.isList (by simpa using ints_of rv) hsb fin
  · obtain ⟨its, rv, pl, hz⟩ := I.tuple hl
    exact call_set_tupI (P := X.prog) (w := X.w) ns (I.ok.hd hc) (show s.heap.IsTuple l its.toArray from pl) (by simpa using ints_of rv) hsb fin
variable {G : Gr} {cl : Calls} {E : XK} {X : Cx} {a : Expr} {pa : PX} {pos : Pos}
theorem s_sset {q1 q2 p2 : Pos} (hc : X.calm = true) (ha : PE X a (tD G cl E pa)) (hs : noStar a = true) (hg : Gl X "sorted") (hm : X.mg "sorted" = none) (hg2 : Gl X "set") (hm2 : X.mg "set" = none) (hK : X.K = G.K) :
    PE X (.Call (.Name "sorted" q1) [.Call (.Name "set" q2) [a] [] p2] [] pos) (tD G cl E (.bi .sortedset (.cs pa .nl))) :=
  (pe_callB (cr_sortedSet hc) hg hm (by decide +kernel) (pa_cons (pe_callTy (cr_setI hc) hg2 hm2 (by decide +kernel) (pa_cons ha pa_nil (star_cons hs _ _)) (by decide) (by decide) (star_cons hs _ _) rfl) pa_nil rfl) (by decide) (by decide) rfl rfl).imp fun σ H Q hq => by
    obtain ⟨w, ρ, rfl, ok, sr, h⟩ := hq
    have h : Got G w E (((ev cl pa ρ w.μ).bind fun d μ1 => .ok [d] μ1).bind fun ds μ1 => Rs.of (biD μ1 .sortedset ds) μ1) (RV G) Q := h
    rw [Rs.bind_assoc] at h
    rw [hK]
    refine ⟨w, ρ, rfl, ok, sr, go h fun x w1 v _ ok1 e1 rv h1 => ?_⟩
    obtain ⟨d, e, h2⟩ := Got.of (o := biD w1.μ .sortedset [x]) h1
    obtain ⟨xs, e2, rfl⟩ := Option.map_eq_some_iff.mp (show (biL w1.μ .sortedset [x]).map D.lst = some d from e)
    obtain ⟨is, e3, rfl⟩ := Option.map_eq_some_iff.mp (show (intsSq w1.μ x).map (fun is => (srtU is).map D.int) = some xs by cases x <;> exact e2)
    unfold intsSq at e3
    cases q : DL.seqOf w1.μ x with
    | none => rw [q] at e3; cases e3
    | some ys =>
      rw [q] at e3
      dsimp only at e3
      cases q5 : intsOf ys with
      | none => rw [q5] at e3; cases e3
      | some js =>
        rw [q5] at e3
        dsimp only at e3
        split at e3
        · rename_i few
          cases e3
          obtain ⟨p, vs, rfl, g1, r1⟩ := ok1.seqOf rv q
          obtain ⟨rfl, _⟩ := r1.ints q5
          refine ⟨p, is, rfl, g1, few, fun p c hp hcn => ?_⟩
          refine ⟨p, _, c, rfl, upd_same, by omega, fun ns' p' hpw hmem _ hp' => ?_⟩
          have e9 : ns' = srtU is := asc_unique hpw (srtU_pw is) fun k => by
            rw [hmem k, srtU_mem]
            exact decide_eq_true_iff
          subst e9
          have h3 : Got G { w1 with H := upd w1.H p (SetO X.w p (fun j => decide (j ∈ is)) c) } E (.ok (.lst ((srtU is).map D.int)) w1.μ) (RV G) Q := Got.mono h2 (fresh_ok ok1 hp) (fresh_ev G hp)
          exact h3.lst (fresh_ok ok1 hp) (RpL.map_int _) p' hp'
        · cases e3
end DL
set_option maxHeartbeats 1000000
/-! DL9: statements. -/
namespace DL
open PySem PySem.Spec PyProof.Rows L2
variable {G : Gr} {cl : Calls} {E : XK} {X : Cx} {a b c : Expr} {pa pb pc : PX} {pos : Pos} {es : List Expr} {ps : PX} {st : Stmt} {sts sts2 : List Stmt} {s1 s2 : SX}
def GotS (G : Gr) (w : Wd) (E : XK) (D : Ends) (r : Rs Flow) : Prop := match r with
  | .no => False
  | .ok (.nx ρ') μ' => ∀ (w' : Wd) σ', w'.μ = μ' → w'.Ok G → Ev G w w' → SRel G w' ρ' σ' → D.nx σ' w'.H
  | .ok (.brk ρ') μ' => ∀ (w' : Wd) σ', w'.μ = μ' → w'.Ok G → Ev G w w' → SRel G w' ρ' σ' → D.bk σ' w'.H
  | .ok (.cnt ρ') μ' => ∀ (w' : Wd) σ', w'.μ = μ' → w'.Ok G → Ev G w w' → SRel G w' ρ' σ' → D.ct σ' w'.H
  | .ok (.ret d) μ' => ∀ (w' : Wd) v, w'.μ = μ' → w'.Ok G → Ev G w w' → RV G w' d v → D.rt v w'.H
  | .ex x μ' => ∀ (w' : Wd) cls dx, w'.μ = μ' → w'.Ok G → Ev G w w' → ExR G x cls dx w'.H → E cls dx w'.H
theorem GotS.mono {w w1 : Wd} {D : Ends} {r : Rs Flow} (h : GotS G w E D r) (ok1 : w1.Ok G) (e : Ev G w w1) : GotS G w1 E D r := by
  cases r with
  | no => exact h
  | ex x μ => exact fun w' cls dx m ok' e' hr => h w' cls dx m ok' (e.trans ok1 e') hr
  | ok f μ =>
    cases f with
    | nx ρ => exact fun w' σ' m ok' e' hr => h w' σ' m ok' (e.trans ok1 e') hr
    | brk ρ => exact fun w' σ' m ok' e' hr => h w' σ' m ok' (e.trans ok1 e') hr
    | cnt ρ => exact fun w' σ' m ok' e' hr => h w' σ' m ok' (e.trans ok1 e') hr
    | ret d => exact fun w' v m ok' e' hr => h w' v m ok' (e.trans ok1 e') hr
/-- a term is run, then a statement goes on -/
theorem goS {α' β' : Type} {w : Wd} {s : Rs α'} {f : α' → Store → Rs Flow} {rel1 : Wd → α' → β' → Prop} {P : β' → Hp → Prop} {D : Ends} (h : GotS G w E D (s.bind f))
    (hc : ∀ (d : α') (w1 : Wd) (b : β'), s = .ok d w1.μ → w1.Ok G → Ev G w w1 → rel1 w1 d b → GotS G w1 E D (f d w1.μ) → P b w1.H) : Got G w E s rel1 P := by
  cases s with
  | no => exact h
  | ok d μ1 =>
    intro w1 b m ok1 e1 hr
    subst m
    exact hc d w1 b rfl ok1 e1 hr (GotS.mono h ok1 e1)
  | ex x μ1 => exact h
def tS (G : Gr) (cl : Calls) (E : XK) (p : SX) : TS := fun D σ H => At G σ H fun w ρ => GotS G w E D (exs cl p ρ w.μ)
theorem ss_nil : PSs X [] (tS G cl E .skip) := pss_nil.imp fun D σ H hq => by
  obtain ⟨w, ρ, rfl, ok, sr, h⟩ := hq
  exact h w σ rfl ok (Ev.refl G w) sr
/-- a run, then another one -/
theorem seq_imp {σ : L2.St} {H : Hp} {D : Ends} (hq : tS G cl E (.seq s1 s2) D σ H) : tSeq (tS G cl E s1) (tS G cl E s2) D σ H := by
  obtain ⟨w, ρ, rfl, ok, sr, h⟩ := hq
  refine ⟨w, ρ, rfl, ok, sr, ?_⟩
  rw [exs] at h
  show GotS G w E { D with nx := tS G cl E s2 D } (exs cl s1 ρ w.μ)
  cases e : exs cl s1 ρ w.μ with
  | no => rw [e] at h; exact h
  | ex x μ => rw [e] at h; exact h
  | ok f μ =>
    rw [e] at h
    cases f with
    | nx ρ1 => exact fun w' σ' m ok' e' sr' => ⟨w', ρ1, rfl, ok', sr', by subst m; exact GotS.mono h ok' e'⟩
    | brk ρ1 => exact h
    | cnt ρ1 => exact h
    | ret d => exact h
theorem ss_cons (h1 : PS X st (tS G cl E s1)) (h2 : PSs X sts (tS G cl E s2)) : PSs X (st :: sts) (tS G cl E (.seq s1 s2)) := (pss_cons h1 h2).imp fun D σ H hq => seq_imp hq
theorem ss_one (h1 : PS X st (tS G cl E s1)) : PSs X [st] (tS G cl E s1) := pss_one h1
theorem st_pass : PS X (.Pass pos) (tS G cl E .skip) := ps_pass.imp fun D σ H hq => by
  obtain ⟨w, ρ, rfl, ok, sr, h⟩ := hq
  exact h w σ rfl ok (Ev.refl G w) sr
theorem st_brk : PS X (.Break pos) (tS G cl E .brk) := ps_break.imp fun D σ H hq => by
  obtain ⟨w, ρ, rfl, ok, sr, h⟩ := hq
  exact h w σ rfl ok (Ev.refl G w) sr
theorem st_cnt : PS X (.Continue pos) (tS G cl E .cnt) := ps_continue.imp fun D σ H hq => by
  obtain ⟨w, ρ, rfl, ok, sr, h⟩ := hq
  exact h w σ rfl ok (Ev.refl G w) sr
theorem st_exp (h : PE X a (tD G cl E pa)) (hs : swapsWith a none pos.line X.env = pure false) : PS X (.Expr a pos) (tS G cl E (.exp pa)) := (ps_expr h hs).imp fun D σ H hq => by
  obtain ⟨w, ρ, rfl, ok, sr, h⟩ := hq
  refine ⟨w, ρ, rfl, ok, sr, goS h fun d w1 v _ ok1 e1 rv h1 => ?_⟩
  exact h1 w1 σ rfl ok1 (Ev.refl G w1) (sr.mono ok e1)
theorem st_ret (h : PE X a (tD G cl E pa)) : PS X (.Return (some a) pos) (tS G cl E (.ret pa)) := (ps_ret h).imp fun D σ H hq => by
  obtain ⟨w, ρ, rfl, ok, sr, h⟩ := hq
  refine ⟨w, ρ, rfl, ok, sr, goS h fun d w1 v _ ok1 e1 rv h1 => ?_⟩
  exact h1 w1 v rfl ok1 (Ev.refl G w1) rv
theorem st_retN : PS X (.Return none pos) (tS G cl E .retN) := ps_retN.imp fun D σ H hq => by
  obtain ⟨w, ρ, rfl, ok, sr, h⟩ := hq
  exact h w _ rfl ok (Ev.refl G w) Rp.non
theorem goSB {w : Wd} {s : Rs D} {f : Bool → Store → Rs Flow} {P : Bool → Hp → Prop} {D : Ends} (h : GotS G w E D (s.bind (onB f)))
    (hc : ∀ (k : Bool) (w1 : Wd), w1.Ok G → Ev G w w1 → GotS G w1 E D (f k w1.μ) → P k w1.H) : Got G w E (s.bind asB) (fun _ b c => c = b) P := by
  cases s with
  | no => exact h
  | ex x μ1 => exact h
  | ok d μ1 =>
    cases d with
    | bl k =>
      intro w1 c m ok1 e1 hr
      subst hr m
      exact hc _ w1 ok1 e1 (GotS.mono h ok1 e1)
    | _ => exact h
theorem st_if (hc : PT X c (tDT G cl E pc)) (h1 : PSs X sts (tS G cl E s1)) (h2 : PSs X sts2 (tS G cl E s2)) : PS X (.If c sts sts2 pos) (tS G cl E (.ife pc s1 s2)) := (ps_if hc h1 h2).imp fun D σ H hq => by
  obtain ⟨w, ρ, rfl, ok, sr, h⟩ := hq
  refine ⟨w, ρ, rfl, ok, sr, goSB (f := fun k μ1 => if k = true then exs cl s1 ρ μ1 else exs cl s2 ρ μ1) h fun k w1 ok1 e1 h1 => ?_⟩
  cases k with
  | true => exact ⟨w1, ρ, rfl, ok1, sr.mono ok e1, h1⟩
  | false => exact ⟨w1, ρ, rfl, ok1, sr.mono ok e1, h1⟩
/-- targets take a value -/
theorem set_imp {tg : PX} {σ : L2.St} {H : Hp} {D : Ends} (hq : tS G cl E (.set tg pa) D σ H) : tAsg (tD G cl E pa) (tG G tg) D σ H := by
  obtain ⟨w, ρ, rfl, ok, sr, h⟩ := hq
  refine ⟨w, ρ, rfl, ok, sr, goS h fun d w1 v _ ok1 e1 rv h1 => ?_⟩
  cases q : asg tg d ρ with
  | none => rw [q] at h1; exact h1.elim
  | some ρ1 =>
    rw [q] at h1
    exact ⟨w1, ρ, d, ρ1, rfl, ok1, sr.mono ok e1, rv, q, fun σ' sr' _ => h1 w1 σ' rfl ok1 (Ev.refl G w1) sr'⟩
theorem st_set {tg : Expr} {ptg : PX} (h : PE X a (tD G cl E pa)) (hg : PG X tg (tG G ptg)) (hst : noStar tg = true) (hs : swapsWithSole [tg] a pos.line X.env = pure false) (hw : swappedStores [tg] a X.env = pure none) : PS X (.Assign [tg] a pos) (tS G cl E (.set ptg pa)) :=
  (ps_asg h hg hs hw (by rw [asn_cons hst]; rfl)).imp fun D σ H hq => set_imp hq
theorem set_got {i : Nat} {w : Wd} {ρ : Env} {σ : L2.St} {r : Rs D} {D : Ends} (ok : w.Ok G) (sr : SRel G w ρ σ) (h : GotS G w E D (r.bind fun d μ1 => (Rs.of (asg (.var i) d ρ) μ1).bind fun ρ1 μ2 => .ok (.nx ρ1) μ2)) : Got G w E r (RV G) (fun v H => D.nx (σ.set i (some v)) H) := by
  cases r with
  | no => exact h
  | ex x μ => exact h
  | ok d μ =>
    intro w' v m ok' e' rv
    rw [Rs.bind_ok] at h
    cases q : asg (.var i) d ρ with
    | none => rw [q] at h; exact h.elim
    | some ρ1 =>
      rw [q] at h
      have q : (if i < ρ.length then some (ρ.set i (some d)) else none) = some ρ1 := q
      split at q
      · cases q
        exact h w' _ m ok' e' ((sr.mono ok e').set i rv)
      · cases q
/-- a name takes a comprehension's list at once -/
theorem setC_imp {i : Nat} {own : List Nat} {pelt ptg pit pcnd : PX} (hown : ∀ j ∈ namesT ptg, j ∈ own) {σ : L2.St} {H : Hp} {D : Ends} (hq : tS G cl E (.set (.var i) (.comp own pelt ptg pit pcnd)) D σ H) : tAsg (tLc (tDI G cl E pit) (tG G ptg) (tDC G cl pcnd) (tD G cl E0 pelt) own) (gName i) D σ H := by
  obtain ⟨w, ρ, rfl, ok, sr, h⟩ := hq
  show tLc _ _ _ _ _ σ w.H fun x H1 => D.nx (σ.set i (some x)) H1
  refine comp_core (α := DL.D) (rel := RV G) (K := fun (xs : List DL.D) (μ : Store) => Rs.ok (DL.D.lst xs) μ) ok sr hown (set_got ok sr h) fun w0 w2 xs vs p e0 e2 ok0 ok2 h1 h2 h3 r hn h4 => ?_
  exact h4 { w2 with F := fun b => w2.F b ∨ b = p } (.ref p) rfl (hold_ok ok2 h1 h3) (hold_ev e2 hn) (Rp.lst ⟨.inr rfl, h1⟩ (r.mono (fun _ _ z => z) (fun _ _ z => ⟨.inl z.1, z.2⟩) fun _ _ _ z => z))
theorem setN_imp {i : Nat} {own : List Nat} {pelt ptg pit pcnd : PX} (hown : ∀ j ∈ namesT ptg, j ∈ own) {σ : L2.St} {H : Hp} {D : Ends} (hq : tS G cl E (.set (.var i) (.new (.comp own pelt ptg pit pcnd))) D σ H) : tAsg (tLc (tDI G cl E pit) (tG G ptg) (tDC G cl pcnd) (tD G cl E0 pelt) own) (gName i) D σ H := by
  obtain ⟨w, ρ, rfl, ok, sr, h⟩ := hq
  show tLc _ _ _ _ _ σ w.H fun x H1 => D.nx (σ.set i (some x)) H1
  refine comp_core (α := DL.D) (rel := RV G) (K := fun (xs : List DL.D) (μ : Store) => Rs.ok (DL.D.cell μ.length) (μ ++ ([⟨0, xs⟩] : List Cell))) ok sr hown (set_got ok sr h) fun w0 w2 xs vs p e0 e2 ok0 ok2 h1 h2 h3 r hn h4 => ?_
  refine h4 { w2 with cs := w2.cs ++ [p], μ := w2.μ ++ [⟨0, xs⟩] } (.ref p) rfl (own_ok ok2 h1 h3 h2 r) (own_ev ok0 ok2 e2 hn) ⟨p, ?_, rfl⟩
  show (w2.cs ++ [p])[w2.μ.length]? = some p
  rw [← ok2.len, List.getElem?_append_right (Nat.le_refl _), Nat.sub_self]
  rfl
end DL
/-! DLa: stores, loops, raise. -/
namespace DL
open PySem PySem.Spec PyProof.Rows L2
variable {G : Gr} {cl : Calls} {E : XK} {X : Cx} {a b c o i : Expr} {pa pb pc po pi : PX} {pos : Pos} {es : List Expr} {ps : PX} {st : Stmt} {sts sts2 : List Stmt} {s1 s2 : SX}
/-! ### a, b = x, y -/
theorem pars_len : ∀ (is : List Nat) (ds : List DL.D) (ρ ρ1 : Env), pars is ds ρ = some ρ1 → ds.length = is.length := by
  intro is
  induction is with
  | nil =>
    intro ds ρ ρ1 h
    cases ds with
    | nil => rfl
    | cons _ _ => cases h
  | cons i is ih =>
    intro ds ρ ρ1 h
    cases ds with
    | nil => cases h
    | cons d ds =>
      have h : (if i < ρ.length then pars is ds (ρ.set i (some d)) else none) = some ρ1 := h
      split at h
      · rw [List.length_cons, ih _ _ _ h, List.length_cons]
      · cases h
theorem par2_imp {i j : Nat} {σ : L2.St} {H : Hp} {D : Ends} (hq : tS G cl E (.par [i, j] ps) D σ H) : tPar i j (tDs G cl E ps) D σ H := by
  obtain ⟨w, ρ, rfl, ok, sr, h⟩ := hq
  refine ⟨w, ρ, rfl, ok, sr, goS h fun ds w1 vs _ ok1 e1 rv h1 => ?_⟩
  have sr1 := sr.mono ok e1
  have few : ds.length = 2 := by
    cases q : pars [i, j] ds ρ with
    | none => rw [q] at h1; exact h1.elim
    | some ρ1 => exact pars_len _ _ _ _ q
  match ds, vs, rv, few with
  | [d, f], [v, u], .cons r1 (.cons r2 .nil), _ =>
    by_cases hi : i < ρ.length
    · by_cases hj : j < ρ.length
      · have h1 : GotS G w1 E D (.ok (.nx ((ρ.set i (some d)).set j (some f))) w1.μ) := by
          simpa [pars, hi, hj] using h1
        exact ⟨v, u, rfl, h1 w1 _ rfl ok1 (Ev.refl G w1) ((sr1.set i r1).set j r2)⟩
      · simp [pars, hi, hj] at h1
        exact h1.elim
    · simp [pars, hi] at h1
      exact h1.elim
theorem par3_imp {i j k : Nat} {σ : L2.St} {H : Hp} {D : Ends} (hq : tS G cl E (.par [i, j, k] ps) D σ H) : tPar3 i j k (tDs G cl E ps) D σ H := by
  obtain ⟨w, ρ, rfl, ok, sr, h⟩ := hq
  refine ⟨w, ρ, rfl, ok, sr, goS h fun ds w1 vs _ ok1 e1 rv h1 => ?_⟩
  have sr1 := sr.mono ok e1
  have few : ds.length = 3 := by
    cases q : pars [i, j, k] ds ρ with
    | none => rw [q] at h1; exact h1.elim
    | some ρ1 => exact pars_len _ _ _ _ q
  match ds, vs, rv, few with
  | [d, f, g], [v, u, z], .cons r1 (.cons r2 (.cons r3 .nil)), _ =>
    by_cases hi : i < ρ.length
    · by_cases hj : j < ρ.length
      · by_cases hk : k < ρ.length
        · have h1 : GotS G w1 E D (.ok (.nx (((ρ.set i (some d)).set j (some f)).set k (some g))) w1.μ) := by
            simpa [pars, hi, hj, hk] using h1
          exact ⟨v, u, z, rfl, h1 w1 _ rfl ok1 (Ev.refl G w1) (((sr1.set i r1).set j r2).set k r3)⟩
        · simp [pars, hi, hj, hk] at h1
          exact h1.elim
      · simp [pars, hi, hj] at h1
        exact h1.elim
    · simp [pars, hi] at h1
      exact h1.elim
/-! ### a list of the store is written -/
theorem write_ok {w : Wd} (ok : w.Ok G) {k : Nat} {p : Addr} {xs ys : List DL.D} {us : List V} (hk : w.μ[k]? = some ⟨0, xs⟩) (hp : w.cs[k]? = some p) (r : RpL G w.F w.H ys us) : Wd.Ok G { w with H := upd w.H p (.lst us), μ := w.μ.set k ⟨0, ys⟩ } := by
  obtain ⟨q, vs, g1, g2, g3, g4⟩ := ok.cell k _ hk
  rw [hp] at g1
  cases g1
  have hF : ¬ w.F p := fun z => absurd (g4.mpr z) (show (0 : Nat) ≠ 1 by decide)
  refine ⟨by simp [ok.len], ok.nd, fun j c h => ?_, fun b z => ?_, ?_⟩
  · have h : (w.μ.set k ⟨0, ys⟩)[j]? = some c := h
    by_cases hj : j = k
    · subst hj
      rw [List.getElem?_set_self (List.getElem?_eq_some_iff.mp hk).1] at h
      cases h
      exact ⟨p, us, hp, upd_same, temp_rp g2 hF r, g4⟩
    · rw [List.getElem?_set_ne (Ne.symm hj)] at h
      obtain ⟨b, ws, k1, k2, k3, k4⟩ := ok.cell j c h
      refine ⟨b, ws, k1, ?_, temp_rp g2 hF k3, k4⟩
      show upd w.H p (.lst us) b = _
      rw [upd_ne (fun e => ?_)]
      · exact k2
      · subst e
        obtain ⟨l1, e1⟩ := List.getElem?_eq_some_iff.mp k1
        obtain ⟨l2, e2⟩ := List.getElem?_eq_some_iff.mp hp
        exact hj ((List.getElem_inj ok.nd).mp (e1.trans e2.symm))
  · obtain ⟨o, q⟩ := ok.fdom b z
    refine ⟨o, ?_⟩
    show upd w.H p (.lst us) b = _
    rw [upd_ne (fun e => hF (by rw [← e]; exact z))]
    exact q
  · refine G.jj w.H _ (fun b o z hn => ?_) ok.jj
    show upd w.H p (.lst us) b = _
    rw [upd_ne (ne_of z g2 (hn vs))]
    exact z
theorem write_ev {w : Wd} (ok : w.Ok G) {k : Nat} {p : Addr} {xs ys : List DL.D} {us : List V} (hk : w.μ[k]? = some ⟨0, xs⟩) (hp : w.cs[k]? = some p) : Ev G w { w with H := upd w.H p (.lst us), μ := w.μ.set k ⟨0, ys⟩ } := by
  obtain ⟨q, vs, g1, g2, g3, g4⟩ := ok.cell k _ hk
  rw [hp] at g1
  cases g1
  have hF : ¬ w.F p := fun z => absurd (g4.mpr z) (show (0 : Nat) ≠ 1 by decide)
  have hm : p ∈ w.cs := List.mem_of_getElem? hp
  refine ⟨fun _ z => z, fun _ z => .inl z, ⟨[], by simp, fun _ z => nomatch z⟩, fun b o z hc _ => ?_, fun b ps z => ⟨ps, ?_⟩, fun j c q z => ?_⟩
  · show upd w.H p (.lst us) b = _
    rw [upd_ne (fun e => hF (by rw [← e]; exact hc (by rw [e]; exact hm)))]
    exact z
  · show upd w.H p (.lst us) b = _
    rw [upd_ne (ne_of z g2 (fun q => by cases q))]
    exact z
  · show ∃ c' : Cell, (w.μ.set k ⟨0, ys⟩)[j]? = some c' ∧ _
    have hj : j ≠ k := fun e => by
      subst e
      rw [hk] at q
      cases q
      exact z rfl
    exact ⟨c, by rw [List.getElem?_set_ne (Ne.symm hj)]; exact q, rfl, z, id⟩
theorem frz_goS {w : Wd} {d : DL.D} {v : V} {f : DL.D → Store → Rs Flow} {D : Ends} (ok : w.Ok G) (r : RV G w d v) (h : GotS G w E D ((frz d w.μ).bind f)) :
    ∃ (w1 : Wd) (d' : DL.D), w1.H = w.H ∧ w1.cs = w.cs ∧ w1.Ok G ∧ Ev G w w1 ∧ Rp G w1.F w1.H d' v ∧ GotS G w1 E D (f d' w1.μ) := by
  cases e : frz d w.μ with
  | no => rw [e] at h; exact h.elim
  | ex x μ => cases d <;> simp [frz] at e <;> split at e <;> cases e
  | ok d' μ =>
    obtain ⟨w1, h1, h2, h3, h4, h5, h6⟩ := frz_at ok r e
    rw [e] at h
    refine ⟨w1, d', h1, h2, h4, h5, h6, ?_⟩
    rw [h3]
    exact GotS.mono h h4 h5
theorem sub_imp {σ : L2.St} {H : Hp} {D : Ends} (hq : tS G cl E (.sub po pi pa) D σ H) : tAsg (tD G cl E pa) (gSub (tD G cl E po) (tD G cl E pi) rSetL) D σ H := by
  obtain ⟨w, ρ, rfl, ok, sr, h⟩ := hq
  refine ⟨w, ρ, rfl, ok, sr, goS h fun d w1 v _ ok1 e1 rv h1 => ?_⟩
  obtain ⟨w2, d', hH, _, ok2, e2, r2, h2⟩ := frz_goS ok1 rv h1
  rw [← hH]
  have sr2 := (sr.mono ok e1).mono ok1 e2
  refine ⟨w2, ρ, rfl, ok2, sr2, goS h2 fun x w3 ov _ ok3 e3 ro h3 => ⟨w3, ρ, rfl, ok3, sr2.mono ok2 e3, goS h3 fun y w4 iv _ ok4 e4 ri h4 => ?_⟩⟩
  have ro4 := e4.rv ok3 ro
  have sr4 := (sr2.mono ok2 e3).mono ok3 e4
  have r4 := e4.rp ok3 (e3.rp ok2 r2)
  cases q : setD w4.μ x y d' with
  | none => rw [q] at h4; exact h4.elim
  | some μ5 =>
    rw [q] at h4
    cases x with
    | cell k =>
      cases y with
      | int j =>
        obtain ⟨p, hp, rfl⟩ := ro4
        cases ri.toInt
        cases hk0 : mutOf w4.μ k with
        | none => simp [setD, hk0] at q
        | some xs =>
          have hk := mutOf_some.mp hk0
          have q : (ixN xs.length j).map (fun m => w4.μ.set k ⟨0, xs.set m d'⟩) = some μ5 := by simpa [setD, hk0] using q
          obtain ⟨m, hm, rfl⟩ := Option.map_eq_some_iff.mp q
          obtain ⟨p', vs, g1, g2, g3, g4⟩ := ok4.cell k _ hk
          rw [hp] at g1
          cases g1
          have hlen : xs.length = vs.length := RpL.length g3
          have r5 := RpL.set (i := m) g3 r4
          exact ⟨p, vs, j, m, rfl, rfl, g2, by rw [← hlen]; exact hm, h4 _ σ rfl (write_ok ok4 hk hp r5) (write_ev ok4 hk hp) (sr4.mono ok4 (write_ev ok4 hk hp))⟩
      | _ => cases q
    | _ => cases q
theorem cellV {i : Nat} {w : Wd} {ρ : Env} {σ : L2.St} {k : Nat} (sr : SRel G w ρ σ) (h : ρ[i]? = some (some (.cell k))) : ∃ p, w.cs[k]? = some p ∧ σ[i]? = some (some (.ref p)) := by
  obtain ⟨v, h1, p, h2, rfl⟩ := sr.2 i _ h
  exact ⟨p, h2, h1⟩
theorem app_imp {i : Nat} {σ : L2.St} {H : Hp} {D : Ends} (hK : X.K = G.K) (hq : tS G cl E (.app i pa) D σ H) : tDrop (tBM X.K "list" rAppend (tVar i) (tCons (tD G cl E pa) tNil)) D σ H := by
  obtain ⟨w, ρ, rfl, ok, sr, h⟩ := hq
  rw [exs] at h
  cases hi : ρ[i]? with
  | none => rw [hi] at h; exact h.elim
  | some od =>
    cases od with
    | none => rw [hi] at h; exact h.elim
    | some d =>
      cases d with
      | cell k =>
        rw [hi] at h
        have h : GotS G w E D ((ev cl pa ρ w.μ).bind fun d μ1 => (frz d μ1).bind fun d' μ2 => match mutOf μ2 k with
          | some xs => if xs.length < sizeLine then .ok (.nx ρ) (μ2.set k ⟨0, xs ++ [d']⟩) else .no
          | none => .no) := h
        obtain ⟨p, hp, hs⟩ := cellV sr hi
        obtain ⟨vs0, hl0⟩ := ok.inCs (List.mem_of_getElem? hp)
        refine ⟨.ref p, hs, .inl ⟨rfl, vs0, .inl (.inl hl0)⟩, w, ρ, rfl, ok, sr, goS h fun d w1 v _ ok1 e1 rv h1 => ?_⟩
        obtain ⟨w2, d', hH, hcs, ok2, e2, r2, h2⟩ := frz_goS ok1 rv h1
        have hp2 : w2.cs[k]? = some p := by rw [hcs]; exact e1.csGet hp
        have sr2 := (sr.mono ok e1).mono ok1 e2
        rw [← hH]
        cases hk0 : mutOf w2.μ k with
        | none => simp [hk0] at h2; exact h2.elim
        | some xs =>
          have hk := mutOf_some.mp hk0
          simp only [hk0] at h2
          split at h2
          · rename_i hlt
            obtain ⟨p', vs, g1, g2, g3, g4⟩ := ok2.cell k _ hk
            rw [hp2] at g1
            cases g1
            have hlen : xs.length = vs.length := RpL.length g3
            have r5 := RpL.append g3 (.cons r2 .nil)
            exact ⟨p, vs, v, rfl, rfl, g2, by rw [← hlen]; exact hlt, h2 _ σ rfl (write_ok ok2 hk hp2 r5) (write_ev ok2 hk hp2) (sr2.mono ok2 (write_ev ok2 hk hp2))⟩
          · exact h2.elim
      | _ => rw [hi] at h; exact h.elim
theorem ext_imp {i : Nat} {σ : L2.St} {H : Hp} {D : Ends} (hK : X.K = G.K) (hq : tS G cl E (.ext i pa) D σ H) : tDrop (tBM X.K "list" rExtend (tVar i) (tCons (tD G cl E pa) tNil)) D σ H := by
  obtain ⟨w, ρ, rfl, ok, sr, h⟩ := hq
  rw [exs] at h
  cases hi : ρ[i]? with
  | none => rw [hi] at h; exact h.elim
  | some od =>
    cases od with
    | none => rw [hi] at h; exact h.elim
    | some d =>
      cases d with
      | cell k =>
        rw [hi] at h
        have h : GotS G w E D ((ev cl pa ρ w.μ).bind fun d μ1 => match d, mutOf μ1 k with
          | .lst ys, some xs => if xs.length + ys.length ≤ sizeLine then .ok (.nx ρ) (μ1.set k ⟨0, xs ++ ys⟩) else .no
          | _, _ => .no) := h
        obtain ⟨p, hp, hs⟩ := cellV sr hi
        obtain ⟨vs0, hl0⟩ := ok.inCs (List.mem_of_getElem? hp)
        refine ⟨.ref p, hs, .inl ⟨rfl, vs0, .inl (.inl hl0)⟩, w, ρ, rfl, ok, sr, goS h fun d w1 v _ ok1 e1 rv h1 => ?_⟩
        have hp1 := e1.csGet hp
        have sr1 := sr.mono ok e1
        cases d with
        | lst ys =>
          obtain ⟨q, us, rfl, l1, r1⟩ := ok1.listOf (d := .lst ys) rv rfl
          cases hk0 : mutOf w1.μ k with
          | none => simp [hk0] at h1; exact h1.elim
          | some xs =>
            have hk := mutOf_some.mp hk0
            simp only [hk0] at h1
            split at h1
            · rename_i hlt
              obtain ⟨p', vs, g1, g2, g3, g4⟩ := ok1.cell k _ hk
              rw [hp1] at g1
              cases g1
              have hlen : xs.length = vs.length := RpL.length g3
              have r5 := RpL.append g3 r1
              exact ⟨p, q, vs, us, rfl, rfl, g2, l1, by rw [← hlen, ← r1.length]; exact hlt, h1 _ σ rfl (write_ok ok1 hk hp1 r5) (write_ev ok1 hk hp1) (sr1.mono ok1 (write_ev ok1 hk hp1))⟩
            · exact h1.elim
        | _ => exact h1.elim
      | _ => rw [hi] at h; exact h.elim
/-! ### loops -/
theorem for_imp {ptg pit : PX} {σ : L2.St} {H : Hp} {D : Ends} (hq : tS G cl E (.loop ptg pit s1) D σ H) : tFor (tDI G cl E pit) (tG G ptg) (tS G cl E s1) D σ H := by
  obtain ⟨w, ρ, rfl, ok, sr, h⟩ := hq
  refine ⟨w, ρ, rfl, ok, sr, goS h fun q w1 J _ ok1 e1 wkl h1 => ?_⟩
  obtain ⟨wk, hl⟩ := wkl
  have okL := lk_ok ok1 hl
  have eL := lk_ev G hl
  let f : DL.D → Env → Store → Rs Flow := fun x ρ1 μ2 => (Rs.of (asg ptg x ρ1) μ2).bind fun ρ2 μ3 => exs cl s1 ρ2 μ3
  refine ⟨fun i m σ H => i + m = q.1.length ∧ ∃ (w2 : Wd) (ρ2 : Env), w2.H = H ∧ w2.Ok G ∧ Ev G (w1.lk q.2) w2 ∧ SRel G w2 ρ2 σ ∧ GotS G w1 E D ((loopL f (q.1.drop i) ρ2 w2.μ).un q.2),
    ⟨q.1.length, by omega, w1.lk q.2, ρ, rfl, okL, Ev.refl G _, ((sr.mono ok e1).mono ok1 eL), h1⟩, fun i m σ H hW => ?_⟩
  obtain ⟨him, w2, ρ2, rfl, ok2, e2, sr2, hg⟩ := hW
  obtain ⟨wk1, wk2⟩ := wk i w2 ok2 e2
  cases hd : q.1[i]? with
  | none =>
    refine .inl ⟨wk2 hd, ?_⟩
    rw [List.drop_eq_nil_iff.mpr (List.getElem?_eq_none_iff.mp hd)] at hg
    obtain ⟨o5, e5⟩ := ulk_both hl ok2 e2
    exact hg (w2.ulk q.2) σ rfl o5 e5 ⟨sr2.1, sr2.2⟩
  | some d =>
    have hi : i < q.1.length := (List.getElem?_eq_some_iff.mp hd).1
    have hdrop : q.1.drop i = d :: q.1.drop (i + 1) := by
      rw [List.drop_eq_getElem_cons hi]
      rw [List.getElem?_eq_getElem hi] at hd
      cases hd
      rfl
    rw [hdrop] at hg
    obtain ⟨hgo, hyl⟩ := wk1 d hd
    let N : L2.St → Hp → Prop := fun σ H => (i + 1) + (m - 1) = q.1.length ∧ ∃ (w2 : Wd) (ρ2 : Env), w2.H = H ∧ w2.Ok G ∧ Ev G (w1.lk q.2) w2 ∧ SRel G w2 ρ2 σ ∧ GotS G w1 E D ((loopL f (q.1.drop (i + 1)) ρ2 w2.μ).un q.2)
    refine .inr ⟨hgo, N, fun σ' H' hN => ⟨m - 1, by omega, hN⟩, fun x H' hy => ?_⟩
    obtain ⟨w3, rfl, m3, c3, f3, ok3, e3, rx⟩ := hyl x H' hy
    have rxv : RV G w3 d x := by cases d <;> first | exact rx | cases rx
    have hg : GotS G w1 E D (((f d ρ2 w2.μ).bind fun fl μ1 => match fl with
      | .nx ρ1 => loopL f (q.1.drop (i + 1)) ρ1 μ1
      | .cnt ρ1 => loopL f (q.1.drop (i + 1)) ρ1 μ1
      | .brk ρ1 => .ok (.nx ρ1) μ1
      | .ret d => .ok (.ret d) μ1).un q.2) := hg
    cases qa : asg ptg d ρ2 with
    | none =>
      have : f d ρ2 w2.μ = .no := by show (Rs.of (asg ptg d ρ2) w2.μ).bind _ = _; rw [qa]; rfl
      rw [this] at hg
      exact hg.elim
    | some ρ3 =>
      have ef : f d ρ2 w2.μ = exs cl s1 ρ3 w2.μ := by show (Rs.of (asg ptg d ρ2) w2.μ).bind _ = _; rw [qa]; rfl
      rw [ef] at hg
      refine ⟨w3, ρ2, d, ρ3, rfl, ok3, sr2.mono ok2 e3, rxv, qa, fun σ' sr' _ => ⟨w3, ρ3, rfl, ok3, sr', ?_⟩⟩
      show GotS G w3 E _ (exs cl s1 ρ3 w3.μ)
      rw [m3]
      have e23 := e2.trans ok2 e3
      cases er : exs cl s1 ρ3 w2.μ with
      | no => rw [er] at hg; exact hg
      | ex z μz =>
        rw [er] at hg
        intro w5 cls dx m5 ok5 e5 hx
        obtain ⟨o6, e6⟩ := ulk_both hl ok5 (e23.trans ok3 e5)
        exact hg (w5.ulk q.2) cls dx (by show unlocked w5.μ q.2 = _; rw [m5]) o6 e6 hx
      | ok fl μf =>
        rw [er] at hg
        cases fl with
        | nx ρ5 => exact fun w5 σ5 m5 ok5 e5 sr5 => ⟨by omega, w5, ρ5, rfl, ok5, e23.trans ok3 e5, sr5, by rw [m5]; exact hg⟩
        | cnt ρ5 => exact fun w5 σ5 m5 ok5 e5 sr5 => ⟨by omega, w5, ρ5, rfl, ok5, e23.trans ok3 e5, sr5, by rw [m5]; exact hg⟩
        | brk ρ5 =>
          intro w5 σ5 m5 ok5 e5 sr5
          obtain ⟨o6, e6⟩ := ulk_both hl ok5 (e23.trans ok3 e5)
          exact hg (w5.ulk q.2) σ5 (by show unlocked w5.μ q.2 = _; rw [m5]) o6 e6 ⟨sr5.1, sr5.2⟩
        | ret d5 =>
          intro w5 v5 m5 ok5 e5 rv5
          obtain ⟨o6, e6⟩ := ulk_both hl ok5 (e23.trans ok3 e5)
          exact hg (w5.ulk q.2) v5 (by show unlocked w5.μ q.2 = _; rw [m5]) o6 e6 (by cases d5 <;> exact rv5)
theorem whl_imp {σ : L2.St} {H : Hp} {D : Ends} (hq : tS G cl E (.whl pc s1) D σ H) : tWhile (tDT G cl E pc) (tS G cl E s1) D σ H := by
  obtain ⟨w, ρ, rfl, ok, sr, h⟩ := hq
  let c : Env → Store → Rs Bool := fun ρ1 μ1 => (ev cl pc ρ1 μ1).bind asB
  let f : Env → Store → Rs Flow := fun ρ1 μ1 => exs cl s1 ρ1 μ1
  refine ⟨fun m σ H => ∃ (w2 : Wd) (ρ2 : Env), w2.H = H ∧ w2.Ok G ∧ SRel G w2 ρ2 σ ∧ GotS G w2 E D (whileL c f m ρ2 w2.μ), ⟨turns, w, ρ, rfl, ok, sr, h⟩, fun m σ H hW => ?_⟩
  obtain ⟨w2, ρ2, rfl, ok2, sr2, hg⟩ := hW
  cases m with
  | zero => exact hg.elim
  | succ m =>
    have hg : GotS G w2 E D ((c ρ2 w2.μ).bind fun b μ1 => if b = true then (f ρ2 μ1).bind fun fl μ2 => match fl with
      | .nx ρ1 => whileL c f m ρ1 μ2
      | .cnt ρ1 => whileL c f m ρ1 μ2
      | .brk ρ1 => .ok (.nx ρ1) μ2
      | .ret d => .ok (.ret d) μ2 else .ok (.nx ρ2) μ1) := hg
    refine ⟨w2, ρ2, rfl, ok2, sr2, goS hg fun k w3 k' _ ok3 e3 hk hg3 => ?_⟩
    subst hk
    have sr3 := sr2.mono ok2 e3
    cases k' with
    | false =>
      rw [if_neg Bool.false_ne_true] at hg3 ⊢
      exact hg3 w3 σ rfl ok3 (Ev.refl G w3) sr3
    | true =>
      rw [if_pos rfl] at hg3 ⊢
      refine ⟨fun σ H => ∃ (w2 : Wd) (ρ2 : Env), w2.H = H ∧ w2.Ok G ∧ SRel G w2 ρ2 σ ∧ GotS G w2 E D (whileL c f m ρ2 w2.μ), fun σ' H' hN => ⟨m, Nat.lt_succ_self m, hN⟩, w3, ρ2, rfl, ok3, sr3, ?_⟩
      show GotS G w3 E _ (exs cl s1 ρ2 w3.μ)
      cases er : exs cl s1 ρ2 w3.μ with
      | no =>
        have : f ρ2 w3.μ = .no := er
        rw [this] at hg3
        exact hg3
      | ex z μz =>
        have : f ρ2 w3.μ = .ex z μz := er
        rw [this] at hg3
        exact hg3
      | ok fl μf =>
        have : f ρ2 w3.μ = .ok fl μf := er
        rw [this] at hg3
        cases fl with
        | nx ρ5 => exact fun w5 σ5 m5 ok5 e5 sr5 => ⟨w5, ρ5, rfl, ok5, sr5, by rw [m5]; exact GotS.mono hg3 ok5 e5⟩
        | cnt ρ5 => exact fun w5 σ5 m5 ok5 e5 sr5 => ⟨w5, ρ5, rfl, ok5, sr5, by rw [m5]; exact GotS.mono hg3 ok5 e5⟩
        | brk ρ5 => exact hg3
        | ret d5 => exact hg3
end DL
set_option maxHeartbeats 2000000
/-! DLb: from the program's own terms to ours. -/
namespace DL
open PySem PySem.Spec PyProof.Rows L2
/-- where one stands: names by slot, the scope that runs, which captured names may be stored -/
structure Sc where
  N : List Str
  sc : Scope
  fb : Str → Bool
  /-- names whose lists are changed in place -/
  mu : List Str := []
  /-- what is returned is a list of the caller's own -/
  own : Bool := false
  /-- names whose lists are held where a value is returned; those that are held here -/
  fz : List Str := []
  fzz : List Str := []
/-- what the module's names are -/
structure Nm where
  fns : List (Str × Nat)
  nums : List (Str × Int)
  excs : List Str
def ixOf (x : Str) : List Str → Option Nat
  | [] => none
  | y :: r => if x = y then some 0 else (ixOf x r).map (· + 1)
theorem ixOf_get {x : Str} : ∀ {l : List Str} {i : Nat}, ixOf x l = some i → l[i]? = some x
  | [], _, h => by cases h
  | y :: r, i, h => by
    unfold ixOf at h
    split at h
    · rename_i e
      cases h
      rw [e]
      rfl
    · obtain ⟨j, h1, rfl⟩ := Option.map_eq_some_iff.mp h
      exact ixOf_get (l := r) h1
def fnOf (x : Str) : List (Str × Nat) → Option (Nat × Nat)
  | [] => none
  | y :: r => if x = y.1 then some (0, y.2) else (fnOf x r).map fun p => (p.1 + 1, p.2)
theorem fnOf_get {x : Str} : ∀ {l : List (Str × Nat)} {i np : Nat}, fnOf x l = some (i, np) → l[i]? = some (x, np)
  | [], _, _, h => by cases h
  | (y, m) :: r, i, np, h => by
    unfold fnOf at h
    split at h
    · rename_i e
      cases h
      have e : x = y := e
      rw [e]
      rfl
    · obtain ⟨⟨j, k⟩, h1, h2⟩ := Option.map_eq_some_iff.mp h
      cases h2
      exact fnOf_get (l := r) h1
def intAt (x : Str) : List (Str × Int) → Option Int
  | [] => none
  | y :: r => if x = y.1 then some y.2 else intAt x r
def nmOk (x : Str) : Bool := !(x == ("__debug__" : Str)) && !(x == ("__classdict__" : Str)) && !decide (x = ("__name__" : Str))
def visB (sc : Scope) (x : Str) : Bool := match sc.names.lookup x with
  | some .local => true
  | some .cell => true
  | some .free => true
  | _ => false
def glB (sc : Scope) (x : Str) : Bool := decide (sc.names.lookup x = some .globalImplicit)
def locB (Γ : Sc) (x : Str) : Bool := match Γ.sc.names.lookup x with
  | some .local => true
  | some .cell => Γ.fb x
  | _ => false
def opOk : Operator → Bool
  | .Add => true
  | .Sub => true
  | .Mult => true
  | .FloorDiv => true
  | .Mod => true
  | .Pow => true
  | .LShift => true
  | _ => false
def noSet : Expr → Bool
  | .Name .. => true
  | .Call .. => true
  | .Constant .. => true
  | .Tuple .. => true
  | .List .. => true
  | .BinOp .. => true
  | .UnaryOp .. => true
  | .Subscript .. => true
  | .IfExp .. => true
  | .ListComp .. => true
  | _ => false
def noSlice : Expr → Bool
  | .Name .. => true
  | .Call .. => true
  | .Constant .. => true
  | .BinOp .. => true
  | .UnaryOp .. => true
  | .Subscript .. => true
  | .IfExp .. => true
  | _ => false
/-- a test whose own value is asked -/
def plainT : Expr → Bool
  | .Name .. => true
  | .Call .. => true
  | .Constant .. => true
  | .Subscript .. => true
  | _ => false
def listP : List PX → PX
  | [] => .nl
  | p :: r => .cs p (listP r)
/-- arguments, one after another -/
def cEs (f : Expr → Option PX) : List Expr → Option PX
  | [] => some .nl
  | e :: es => if noStar e then (f e).bind fun p => (cEs f es).map fun q => .cs p q else none
def cBool (f : Expr → Option PX) (op : BoolOp) : List Expr → Option PX
  | [] => none
  | [e] => f e
  | e :: es => (f e).bind fun p => (cBool f op es).map fun q => match op with
    | .And => .and p q
    | .Or => .or p q
def cOpt (f : Expr → Option PX) : Option Expr → Option PX
  | none => some .nl
  | some e => (f e).map .one
/-- targets: names, tuples of targets -/
def cG (Γ : Sc) : Nat → Expr → Option PX
  | 0, _ => none
  | n + 1, e => match e with
    | .Name x _ => if locB Γ x then (ixOf x Γ.N).map .var else none
    | .Tuple es _ _ => (cEs (cG Γ n) es).map .tup
    | _ => none
/-- the scope of a comprehension within one's own -/
def blkSc (Γ : Sc) (scope : Scope) : Sc := ⟨Γ.N, { scope with names := scope.names.map fun (n, k) => if (k == .free && Γ.sc.kind == .function && Γ.sc.names.lookup n == some .cell) then (n, .cell) else (n, k) }, fun x => scope.names.lookup x == some .cell, [], false, [], []⟩
/-- the comprehension's own names with their places -/
def ownOf (N : List Str) : List (Str × NameKind) → List (Str × Nat)
  | [] => []
  | (x, k) :: r => if decide (k = .local) || decide (k = .cell) then (match ixOf x N with
    | some i => (x, i) :: ownOf N r
    | none => ownOf N r) else ownOf N r
def bi1 (x : Str) : Option BI :=
  if x = ("len" : Str) then some .len else if x = ("abs" : Str) then some .abs else if x = ("max" : Str) then some .max1 else if x = ("min" : Str) then some .min1 else if x = ("sum" : Str) then some .sum
  else if x = ("all" : Str) then some .all else if x = ("any" : Str) then some .any else if x = ("int" : Str) then some .int else if x = ("str" : Str) then some .str else if x = ("tuple" : Str) then some .tuple
  else if x = ("list" : Str) then some .list else if x = ("sorted" : Str) then some .sorted else none
def bi2 (x : Str) : Option BI := if x = ("max" : Str) then some .max2 else if x = ("min" : Str) then some .min2 else none
def tyName (x : Str) : Option String :=
  if x = ("int" : Str) then some "int" else if x = ("bool" : Str) then some "bool" else if x = ("str" : Str) then some "str" else if x = ("tuple" : Str) then some "tuple" else if x = ("list" : Str) then some "list" else none
def guardO {α : Type} (b : Bool) (o : Option α) : Option α := if b then o else none
theorem guardO_some {α : Type} {b : Bool} {o : Option α} {z : α} (h : guardO b o = some z) : b = true ∧ o = some z := by
  unfold guardO at h
  split at h
  · exact ⟨by assumption, h⟩
  · cases h
mutual
def cE (nm : Nm) : Nat → Sc → Expr → Option PX
  | 0, _, _ => none
  | n + 1, Γ, e => match e with
    | .Constant .none _ _ => some .non
    | .Constant (.bool b) _ _ => some (.bl b)
    | .Constant (.int i) _ _ => some (.int i)
    | .Constant (.str x) _ _ => some (.str x)
    | .Name x _ => guardO (nmOk x) (if visB Γ.sc x then (ixOf x Γ.N).map (fun i => if decide (x ∈ Γ.fzz) = true then .frz (.var i) else .var i) else guardO (glB Γ.sc x) ((intAt x nm.nums).map .int))
    | .BinOp a op b _ => guardO (opOk op) ((cE nm n Γ a).bind fun p => (cE nm n Γ b).map fun q => .bin op p q)
    | .UnaryOp op a _ => match op with
      | .USub => (cE nm n Γ a).map .neg
      | .Not => (cE nm n Γ a).map .not
      | _ => none
    | .BoolOp op vs _ => cBool (cE nm n Γ) op vs
    | .Compare a ops bs _ => match ops, bs with
      | [op], [b] => guardO (noSet b) ((cE nm n Γ a).bind fun p => (cE nm n Γ b).map fun q => .cmp op p q)
      | [op, op'], [b, c] => guardO (noSet b && noSet c) ((cE nm n Γ a).bind fun p => (cE nm n Γ b).bind fun q => (cE nm n Γ c).map fun r => .chn op op' p q r)
      | _, _ => none
    | .IfExp c a b _ => (cT nm n Γ c).bind fun r => (cE nm n Γ a).bind fun p => (cE nm n Γ b).map fun q => .ife r p q
    | .Tuple es _ _ => (cEs (cE nm n Γ) es).map .tup
    | .List es _ => (cEs (cE nm n Γ) es).map .lst
    | .Subscript a s _ => match s with
      | .Slice lo hi none _ => (cE nm n Γ a).bind fun p => (cOpt (cE nm n Γ) lo).bind fun l => (cOpt (cE nm n Γ) hi).map fun h => .slc p l h
      | .Slice none none (some (.UnaryOp .USub (.Constant (.int 1) _ _) _)) _ => (cE nm n Γ a).map fun p => .sls p (.int (-1))
      | s => guardO (noSlice s) ((cE nm n Γ a).bind fun p => (cE nm n Γ s).map fun q => .idx p q)
    | .Call f es ks _ => match f, ks with
      | .Name x _, [] => cCall nm n Γ x es
      | _, _ => none
    | .ListComp elt gs scope _ => match gs with
      | [⟨tg, iter, ifs, k⟩] => cComp nm n Γ elt tg iter ifs k scope
      | _ => none
    | _ => none
def cCall (nm : Nm) : Nat → Sc → Str → List Expr → Option PX
  | 0, _, _, _ => none
  | n + 1, Γ, x, es => guardO (nmOk x && glB Γ.sc x) (match fnOf x nm.fns with
    | some (i, np) => guardO (decide (es.length = np)) ((cEs (cE nm n Γ) es).map fun ps => .call i ps)
    | none => match es with
      | [a] => match a with
        | .Call (.Name y _) [b] [] _ => if (decide (x = ("sorted" : Str)) && decide (y = ("set" : Str)) && glB Γ.sc y && noStar b) = true then (cE nm n Γ b).map fun p => .bi .sortedset (.cs p .nl)
            else (bi1 x).bind fun bi => (cEs (cE nm n Γ) es).map fun ps => .bi bi ps
        | _ => (bi1 x).bind fun bi => (cEs (cE nm n Γ) es).map fun ps => .bi bi ps
      | [a, b] => if x = ("isinstance" : Str) then (match b with
          | .Name y _ => guardO (nmOk y && glB Γ.sc y && noStar a) ((cE nm n Γ a).bind fun p => (tyName y).map fun T => .isi p T)
          | _ => none) else (bi2 x).bind fun bi => (cEs (cE nm n Γ) es).map fun ps => .bi bi ps
      | _ => none)
def cComp (nm : Nm) : Nat → Sc → Expr → Expr → Expr → List Expr → Int → Scope → Option PX
  | 0, _, _, _, _, _, _, _ => none
  | n + 1, Γ, elt, tg, iter, ifs, k, scope => guardO (decide (k = 0) && noSet iter && blkC Γ.N Γ.sc scope (ownOf Γ.N scope.names)) ((cI nm n Γ tg iter).bind fun pit => (cG (blkSc Γ scope) n tg).bind fun ptg =>
      ((match ifs with
        | [] => some .nl
        | [c] => (cT nm n (blkSc Γ scope) c).map .one
        | _ => none) : Option PX).bind fun pc => (cE nm n (blkSc Γ scope) elt).bind fun pe => guardO ((namesT ptg).all fun i => decide (i ∈ (ownOf Γ.N scope.names).map (·.2))) (some (.comp ((ownOf Γ.N scope.names).map (·.2)) pe ptg pit pc)))
/-- a test -/
def cT (nm : Nm) : Nat → Sc → Expr → Option PX
  | 0, _, _ => none
  | n + 1, Γ, e => match e with
    | .UnaryOp .Not a _ => (cT nm n Γ a).map .not
    | .BoolOp op vs _ => cBool (cT nm n Γ) op vs
    | .Compare a ops bs _ => match ops, bs with
      | [op], [b] => guardO (noSet b) ((cE nm n Γ a).bind fun p => (cE nm n Γ b).map fun q => .cmp op p q)
      | [op, op'], [b, c] => guardO (noSet b && noSet c) ((cE nm n Γ a).bind fun p => (cE nm n Γ b).bind fun q => (cE nm n Γ c).map fun r => .chn op op' p q r)
      | _, _ => none
    | e => guardO (plainT e) (cE nm n Γ e)
/-- what is walked, with its target -/
def cI (nm : Nm) : Nat → Sc → Expr → Expr → Option PX
  | 0, _, _, _ => none
  | n + 1, Γ, tg, e => match e with
    | .Call (.Name x _) es [] _ => if glB Γ.sc x && decide (x = ("range" : Str)) then (match es with
        | [a] => guardO (noStar a) ((cE nm n Γ a).map .rng1)
        | [a, b] => guardO (noStar a && noStar b) ((cE nm n Γ a).bind fun p => (cE nm n Γ b).map fun q => .rng2 p q)
        | _ => none)
      else if glB Γ.sc x && decide (x = ("zip" : Str)) then (match tg, es with
        | .Tuple .., [a, b] => guardO (noStar a && noStar b) ((cE nm n Γ a).bind fun p => (cE nm n Γ b).map fun q => .zp p q)
        | _, _ => none)
      else if glB Γ.sc x && decide (x = ("enumerate" : Str)) then (match tg, es with
        | .Tuple .., [a] => guardO (noStar a) ((cE nm n Γ a).map .enm)
        | _, _ => none)
      else (cE nm n Γ e).map .one
    | e => (cE nm n Γ e).map .one
end
/-- a new list of one's own -/
def cL (nm : Nm) : Nat → Sc → Expr → Option PX
  | 0, _, _ => none
  | n + 1, Γ, e => match e with
    | .List es _ => (cEs (cE nm n Γ) es).map .lst
    | .BinOp a op b _ => match op with
      | .Add => (cE nm n Γ a).bind fun p => (cE nm n Γ b).map fun q => .bin .Add p q
      | .Mult => (cE nm n Γ a).bind fun p => (cE nm n Γ b).map fun q => .bin .Mult p q
      | _ => none
    | .Subscript a (.Slice lo hi none _) _ => (cE nm n Γ a).bind fun p => (cOpt (cE nm n Γ) lo).bind fun l => (cOpt (cE nm n Γ) hi).map fun h => .slc p l h
    | .Call (.Name x _) [a] [] _ => guardO (nmOk x && glB Γ.sc x && noStar a) (if x = ("list" : Str) then (cE nm n Γ a).map fun p => .bi .list (.cs p .nl) else if x = ("sorted" : Str) then (cE nm n Γ a).map fun p => .bi .sorted (.cs p .nl) else none)
    | .IfExp c a b _ => (cT nm n Γ c).bind fun r => (cL nm n Γ a).bind fun p => (cL nm n Γ b).map fun q => .ife r p q
    | .ListComp elt [⟨tg, iter, ifs, k⟩] scope _ => cComp nm n Γ elt tg iter ifs k scope
    | _ => none
end DL
/-! DLc: what is compiled is sound: terms. -/
namespace DL
open PySem PySem.Spec PyProof.Rows L2
def bltNames : List Str := ["len", "abs", "max", "min", "sum", "all", "any", "int", "str", "tuple", "list", "sorted", "set", "isinstance", "range", "zip", "enumerate", "bool"]
/-- a context that fits -/
structure Gd (G : Gr) (nm : Nm) (cl : Calls) (n : Nat) (E : XK) (Γ : Sc) (X : Cx) : Prop where
  K : X.K = G.K
  calm : X.calm = true
  nd : X.N.Nodup
  N : X.N = Γ.N
  sc : X.env.scope = Γ.sc
  fb : ∀ x, Γ.fb x = true → X.fn x = true
  room : Room n X.A
  tk : Takes X fun c d _ H => E c d H
  free : ∀ x ∈ bltNames, X.mg x = none
  nums : ∀ x i, intAt x nm.nums = some i → ∃ t, X.mg x = some (.int i t)
  fns : ∀ i x np, nm.fns[i]? = some (x, np) → Def X G cl n i np x
  exc : ∀ c x, nm.excs[c]? = some x → X.mg x = some (.ref (G.ea c)) ∧ PySem.W.excIn X.K (G.ea c) He.veBase "ValueError.__new__" = true ∧ PySem.W.keepIn X.K (.ref (G.ea c)) = true ∧ Raises X (.ref (G.ea c))
section
variable {G : Gr} {nm : Nm} {cl : Calls} {m : Nat} {E : XK} {Γ : Sc} {X : Cx}
theorem takesE0 {X : Cx} : Takes X fun c d (_ : L2.St) H => E0 c d H := fun _ _ x => by
  obtain ⟨_, _, _, _, _, _, _, _, _, _, _, _, _, _, _, _, z⟩ := x
  exact z.elim
theorem Gd.blk (g : Gd G nm cl m E Γ X) (scope : Scope) (s : Shared) (H : Hp) (C : Addr) (cs : List (Str × Addr)) (fp : List Addr) : Gd G nm cl m E0 (blkSc Γ scope) (X.blk s H scope (compEnvC scope cs C X.env) fp) where
  K := g.K
  calm := g.calm
  nd := g.nd
  N := g.N
  sc := by
    show relabel scope X.env = _
    unfold relabel
    have : X.env.kindOf = fun n => X.env.scope.names.lookup n := rfl
    rw [this, g.sc]
    rfl
  fb := fun x h => h
  room := g.room
  tk := takesE0
  free := g.free
  nums := g.nums
  fns := fun i x np h => ⟨(g.fns i x np h).ok, (g.fns i x np h).kp, (g.fns i x np h).mg⟩
  exc := fun c x h => g.exc c x h
theorem Gd.fzz (g : Gd G nm cl m E Γ X) {l : List Str} : Gd G nm cl m E { Γ with fzz := l } X := ⟨g.K, g.calm, g.nd, g.N, g.sc, g.fb, g.room, g.tk, g.free, g.nums, g.fns, g.exc⟩
theorem Gd.vis (g : Gd G nm cl m E Γ X) {x : Str} (h : visB Γ.sc x = true) : Vis X.env.scope x := by
  rw [g.sc]
  unfold visB at h
  unfold Vis
  split at h
  · exact .inl (by assumption)
  · exact .inr (.inl (by assumption))
  · exact .inr (.inr (by assumption))
  · cases h
theorem Gd.gl (g : Gd G nm cl m E Γ X) {x : Str} (h : glB Γ.sc x = true) : Gl X x := by
  show X.env.scope.names.lookup x = _
  rw [g.sc]
  exact of_decide_eq_true h
theorem Gd.loc (g : Gd G nm cl m E Γ X) {x : Str} (h : locB Γ x = true) : Loc X.env.scope x ∧ (X.fn x = true ∨ X.env.scope.names.lookup x = some .local) := by
  rw [g.sc]
  unfold locB at h
  split at h
  · rename_i e
    exact ⟨.inl e, .inr e⟩
  · rename_i e
    exact ⟨.inr e, .inl (g.fb x h)⟩
  · cases h
theorem Gd.ix (g : Gd G nm cl m E Γ X) {x : Str} {i : Nat} (h : ixOf x Γ.N = some i) : X.N[i]? = some x := by
  rw [g.N]
  exact ixOf_get h
theorem nmOk_all {x : Str} (h : nmOk x = true) : (x == ("__debug__" : Str)) = false ∧ (x == ("__classdict__" : Str)) = false ∧ x ≠ "__name__" := by
  unfold nmOk at h
  rw [Bool.and_eq_true, Bool.and_eq_true] at h
  refine ⟨?_, ?_, ?_⟩
  · simpa using h.1.1
  · simpa using h.1.2
  · simpa using h.2
/-! ### rules by operator -/
theorem bin_rule (g : Gd G nm cl m E Γ X) {op : Operator} (h : opOk op = true) : ∃ r, OpR X (binaryOp op) r ∧ OpD G E (fun μ => binD μ op) r := by
  cases op with
  | Add => exact ⟨_, opr_add, by rw [g.K]; exact opd_add⟩
  | Sub => exact ⟨_, op_sub, opd_sub⟩
  | Mult => exact ⟨_, opr_mul, by rw [g.K]; exact opd_mul⟩
  | Mod => exact ⟨_, op_modN, opd_mod⟩
  | Pow => exact ⟨_, op_pow, opd_pow⟩
  | LShift => exact ⟨_, op_shl, opd_shl⟩
  | FloorDiv => exact ⟨_, op_fdivN, opd_fdiv⟩
  | _ => cases h
theorem cmp_rule (g : Gd G nm cl m E Γ X) (op : CmpOp) : ∃ r, OpR X (compareOp op) r ∧ CmD G E op r := by
  cases op with
  | Eq => exact ⟨_, op_eqD g.room.units, by rw [g.K]; exact cmd_eq⟩
  | NotEq => exact ⟨_, op_neD g.room.units, by rw [g.K]; exact cmd_ne⟩
  | Lt => exact ⟨_, op_lt, cmd_lt⟩
  | LtE => exact ⟨_, op_le, cmd_le⟩
  | Gt => exact ⟨_, op_gt, cmd_gt⟩
  | GtE => exact ⟨_, op_ge, cmd_ge⟩
  | Is => exact ⟨_, OpR.or op_isN op_isBl, cmd_is⟩
  | IsNot => exact ⟨_, OpR.or op_notN op_notBl, cmd_isnot⟩
  | In => exact ⟨_, op_in_seq, by rw [g.K]; exact cmd_in⟩
  | NotIn => exact ⟨_, op_notIn_seq, by rw [g.K]; exact cmd_notin⟩
theorem marks {b : Expr} (h : noSet b = true) (op : CmpOp) : behindInMarks op b = false := by
  cases b <;> first | (cases h; done) | rfl
theorem plain_ix {b : Expr} (h : noSlice b = true) : PlainIx b := fun o i => by
  cases b <;> first | (cases h; done) | rfl
theorem plain_t {e : Expr} (h : plainT e = true) (env : PySem.Env) : ∀ whole, isTrue e env whole = (do let v ← whole; standAt e.pos; holding [v] (truthy v)) := fun whole => by
  cases e <;> first | (cases h; done) | rfl
theorem fold_set {e : Expr} (h : noSet e = true) (env : PySem.Env) : ∀ x, foldedSetIterable e env x = pure x := fun x => by
  cases e <;> first | (cases h; done) | rfl
theorem own_names : ∀ {N : List Str} {l : List (Str × NameKind)}, True := fun {_ _} => trivial
theorem cEs_len {f : Expr → Option PX} : ∀ {es : List Expr} {ps : PX}, cEs f es = some ps → lenP ps = es.length ∧ es.all noStar = true
  | [], ps, h => by cases h; exact ⟨rfl, rfl⟩
  | e :: es, ps, h => by
    unfold cEs at h
    split at h
    · rename_i hs
      obtain ⟨p, h1, h⟩ := Option.bind_eq_some_iff.mp h
      obtain ⟨q, h2, rfl⟩ := Option.map_eq_some_iff.mp h
      obtain ⟨h3, h4⟩ := cEs_len h2
      exact ⟨by show lenP q + 1 = _; rw [h3]; rfl, by rw [List.all_cons, hs, h4]; rfl⟩
    · cases h
theorem pa_of {f : Expr → Option PX} (hf : ∀ e p, f e = some p → PE X e (tD G cl E p)) : ∀ {es : List Expr} {ps : PX}, cEs f es = some ps → PA X es (tDs G cl E ps)
  | [], ps, h => by cases h; exact a_nil
  | e :: es, ps, h => by
    unfold cEs at h
    split at h
    · rename_i hs
      obtain ⟨p, h1, h⟩ := Option.bind_eq_some_iff.mp h
      obtain ⟨q, h2, rfl⟩ := Option.map_eq_some_iff.mp h
      exact a_cons (hf e p h1) (pa_of hf h2) (star_cons hs _ _)
    · cases h
theorem bool_of {f : Expr → Option PX} {op : BoolOp} {pos : Pos} (hf : ∀ e p, f e = some p → PE X e (tD G cl E p)) : ∀ {es : List Expr} {ps : PX}, cBool f op es = some ps → PE X (.BoolOp op es pos) (tD G cl E ps)
  | [], ps, h => by cases h
  | [e], ps, h => pe_one (hf e ps h)
  | e :: e2 :: es, ps, h => by
    obtain ⟨p, h1, h⟩ := Option.bind_eq_some_iff.mp (show (f e).bind _ = some ps from h)
    obtain ⟨q, h2, h3⟩ := Option.map_eq_some_iff.mp h
    have ih := bool_of hf (pos := pos) h2
    cases op with
    | And => cases h3; exact s_and (hf e p h1) ih
    | Or => cases h3; exact s_or (hf e p h1) ih
theorem test_of {f : Expr → Option PX} {op : BoolOp} {pos : Pos} (hf : ∀ e p, f e = some p → PT X e (tDT G cl E p)) : ∀ {es : List Expr} {ps : PX}, cBool f op es = some ps → PW X (.BoolOp op es pos) (tDT G cl E ps)
  | [], ps, h => by cases h
  | [e], ps, h => by
    cases op with
    | And => exact pw_and1 (hf e ps h)
    | Or => exact pw_or1 (hf e ps h)
  | e :: e2 :: es, ps, h => by
    obtain ⟨p, h1, h⟩ := Option.bind_eq_some_iff.mp (show (f e).bind _ = some ps from h)
    obtain ⟨q, h2, h3⟩ := Option.map_eq_some_iff.mp h
    have ih := test_of hf (pos := pos) h2
    cases op with
    | And => cases h3; exact w_and (hf e p h1) ih
    | Or => cases h3; exact w_or (hf e p h1) ih
theorem opt_of {f : Expr → Option PX} (hf : ∀ e p, f e = some p → PE X e (tD G cl E p)) {o : Option Expr} {p : PX} (h : cOpt f o = some p) : PO X o (tDO G cl E p) := by
  cases o with
  | none => cases h; exact o_none
  | some e =>
    obtain ⟨q, h1, rfl⟩ := Option.map_eq_some_iff.mp h
    exact o_some (hf e q h1)
theorem tg_of (g : Gd G nm cl m E Γ X) : ∀ (n : Nat) {e : Expr} {p : PX}, cG Γ n e = some p → PG X e (tG G p) := by
  intro n
  induction n with
  | zero => intro e p h; cases h
  | succ n ih =>
    intro e p h
    unfold cG at h
    split at h
    · split at h
      · rename_i hl
        obtain ⟨i, h1, rfl⟩ := Option.map_eq_some_iff.mp h
        exact g_name g.nd (g.ix h1) (g.loc hl).1 (g.loc hl).2
      · cases h
    · obtain ⟨ps, h1, rfl⟩ := Option.map_eq_some_iff.mp h
      have hh := cEs_len h1
      refine g_tup g.calm ?_ hh.2 hh.1 g.K
      have gen : ∀ {es : List Expr} {ps : PX}, cEs (cG Γ n) es = some ps → PGs X es (tGs G ps) := by
        intro es
        induction es with
        | nil => intro ps h; cases h; exact gs_nil
        | cons e es ihs =>
          intro ps h
          unfold cEs at h
          split at h
          · rename_i hs
            obtain ⟨p, h1, h⟩ := Option.bind_eq_some_iff.mp h
            obtain ⟨q, h2, rfl⟩ := Option.map_eq_some_iff.mp h
            exact gs_cons (ih h1) (ihs h2) hs
          · cases h
      exact gen h1
    · cases h
theorem noStar_of (n : Nat) {e : Expr} {p : PX} (h : cG Γ n e = some p) : noStar e = true := by
  cases n with
  | zero => cases h
  | succ n =>
    unfold cG at h
    cases e <;> first | rfl | (cases h)
end
end DL
/-! DLd: what is compiled is sound: terms, by parts. -/
namespace DL
open PySem PySem.Spec PyProof.Rows L2
section
variable {G : Gr} {nm : Nm} {cl : Calls} {m : Nat}
def SE (G : Gr) (nm : Nm) (cl : Calls) (m n : Nat) : Prop := ∀ (E : XK) (Γ : Sc) (X : Cx), Gd G nm cl m E Γ X → ∀ e p, cE nm n Γ e = some p → PE X e (tD G cl E p)
def SCl (G : Gr) (nm : Nm) (cl : Calls) (m n : Nat) : Prop := ∀ (E : XK) (Γ : Sc) (X : Cx), Gd G nm cl m E Γ X → ∀ x es q pos p, cCall nm n Γ x es = some p → PE X (.Call (.Name x q) es [] pos) (tD G cl E p)
def SCo (G : Gr) (nm : Nm) (cl : Calls) (m n : Nat) : Prop := ∀ (E : XK) (Γ : Sc) (X : Cx), Gd G nm cl m E Γ X → ∀ elt tg iter ifs k scope pos p, cComp nm n Γ elt tg iter ifs k scope = some p → PE X (.ListComp elt [⟨tg, iter, ifs, k⟩] scope pos) (tD G cl E p) ∧ PE X (.ListComp elt [⟨tg, iter, ifs, k⟩] scope pos) (tDL G cl E p)
def STe (G : Gr) (nm : Nm) (cl : Calls) (m n : Nat) : Prop := ∀ (E : XK) (Γ : Sc) (X : Cx), Gd G nm cl m E Γ X → ∀ e p, cT nm n Γ e = some p → PT X e (tDT G cl E p)
def SI (G : Gr) (nm : Nm) (cl : Calls) (m n : Nat) : Prop := ∀ (E : XK) (Γ : Sc) (X : Cx), Gd G nm cl m E Γ X → ∀ tg e p, cI nm n Γ tg e = some p → PI X tg e (tDI G cl E p)
theorem num_rule {E : XK} {Γ : Sc} {X : Cx} (g : Gd G nm cl m E Γ X) {x : Str} {i : Int} {pos : Pos} (h : nmOk x = true) (hg : glB Γ.sc x = true) (hi : intAt x nm.nums = some i) : PE X (.Name x pos) (tD G cl E (.int i)) := by
  obtain ⟨h1, h2, h3⟩ := nmOk_all h
  obtain ⟨t, ht⟩ := g.nums x i hi
  exact s_const (pe_glob (v := .int i) (g.gl hg) ht ⟨_, rfl⟩ h1) (fun _ _ => rfl) fun _ => Rp.int i
theorem marks2 {b c : Expr} (h : noSet c = true) (op op' : CmpOp) : lastMarks [op, op'] [b, c] = false := marks h op'
theorem cmp_all {E : XK} {Γ : Sc} {X : Cx} (g : Gd G nm cl m E Γ X) {a b : Expr} {op : CmpOp} {pos : Pos} {p q : PX} (hb : noSet b = true) (ha : PE X a (tD G cl E p)) (hq : PE X b (tD G cl E q)) : PE X (.Compare a [op] [b] pos) (tD G cl E (.cmp op p q)) ∧ PT X (.Compare a [op] [b] pos) (tDT G cl E (.cmp op p q)) := by
  obtain ⟨r, h1, h2⟩ := cmp_rule g op
  exact ⟨s_cmp ha hq h1 (marks hb op) h2, t_cmp ha hq h1 (marks hb op) h2⟩
theorem chn_all {E : XK} {Γ : Sc} {X : Cx} (g : Gd G nm cl m E Γ X) {a b c : Expr} {op op' : CmpOp} {pos : Pos} {p q r : PX} (hb : noSet b = true) (hc : noSet c = true) (ha : PE X a (tD G cl E p)) (hq : PE X b (tD G cl E q)) (hr : PE X c (tD G cl E r)) : PE X (.Compare a [op, op'] [b, c] pos) (tD G cl E (.chn op op' p q r)) ∧ PT X (.Compare a [op, op'] [b, c] pos) (tDT G cl E (.chn op op' p q r)) := by
  obtain ⟨r1, h1, h2⟩ := cmp_rule g op
  obtain ⟨r2, h3, h4⟩ := cmp_rule g op'
  exact ⟨s_chn (pe_chain h1 h3 ha hq hr (marks2 hc op op')) h2 h4, t_chn (pt_chain h1 h3 ha hq hr (marks2 hc op op')) h2 h4⟩
variable {E : XK} {Γ : Sc} {X : Cx}
theorem bi1_rule (g : Gd G nm cl m E Γ X) {x : Str} {bi : BI} {a : Expr} {ps : PX} {q pos : Pos} (hg : glB Γ.sc x = true) (hn : x ≠ "__name__") (hd : (x == ("__debug__" : Str)) = false) (hb : bi1 x = some bi) (ha : PA X [a] (tDs G cl E ps)) (hs : [a].all noStar = true) : PE X (.Call (.Name x q) [a] [] pos) (tD G cl E (.bi bi ps)) := by
  have gl := g.gl hg
  have hK := g.K
  unfold bi1 at hb
  split at hb
  · cases hb; rename_i e; subst e
    exact s_bi call_lenU gl (g.free _ (by decide)) (by decide +kernel) hn hd ha hs (by rw [hK]; exact bd_len)
  split at hb
  · cases hb; rename_i e; subst e
    exact s_bi call_abs gl (g.free _ (by decide)) (by decide +kernel) hn hd ha hs bd_abs
  split at hb
  · cases hb; rename_i e; subst e
    exact s_bi (cr_max g.calm) gl (g.free _ (by decide)) (by decide +kernel) hn hd ha hs (by rw [hK]; exact bd_max1)
  split at hb
  · cases hb; rename_i e; subst e
    exact s_bi (cr_min g.calm) gl (g.free _ (by decide)) (by decide +kernel) hn hd ha hs (by rw [hK]; exact bd_min1)
  split at hb
  · cases hb; rename_i e; subst e
    exact s_bi (cr_sum g.calm) gl (g.free _ (by decide)) (by decide +kernel) hn hd ha hs (by rw [hK]; exact bd_sum)
  split at hb
  · cases hb; rename_i e; subst e
    exact s_bi (cr_all g.calm) gl (g.free _ (by decide)) (by decide +kernel) hn hd ha hs (by rw [hK]; exact bd_all)
  split at hb
  · cases hb; rename_i e; subst e
    exact s_bi (cr_any g.calm) gl (g.free _ (by decide)) (by decide +kernel) hn hd ha hs (by rw [hK]; exact bd_any)
  split at hb
  · cases hb; rename_i e; subst e
    exact s_ty call_int1 gl (g.free _ (by decide)) (by decide +kernel) hn hd ha hs bd_int
  split at hb
  · cases hb; rename_i e; subst e
    exact s_ty call_str_int gl (g.free _ (by decide)) (by decide +kernel) hn hd ha hs bd_str
  split at hb
  · cases hb; rename_i e; subst e
    exact s_ty call_tuple_of gl (g.free _ (by decide)) (by decide +kernel) hn hd ha hs (by rw [hK]; exact bd_tuple)
  split at hb
  · cases hb; rename_i e; subst e
    exact s_ty call_listU gl (g.free _ (by decide)) (by decide +kernel) hn hd ha hs (by rw [hK]; exact bd_list)
  split at hb
  · cases hb; rename_i e; subst e
    exact s_bi cr_sortedI gl (g.free _ (by decide)) (by decide +kernel) hn hd ha hs (by rw [hK]; exact bd_sorted)
  cases hb
theorem bi2_rule (g : Gd G nm cl m E Γ X) {x : Str} {bi : BI} {a b : Expr} {ps : PX} {q pos : Pos} (hg : glB Γ.sc x = true) (hn : x ≠ "__name__") (hd : (x == ("__debug__" : Str)) = false) (hb : bi2 x = some bi) (ha : PA X [a, b] (tDs G cl E ps)) (hs : [a, b].all noStar = true) : PE X (.Call (.Name x q) [a, b] [] pos) (tD G cl E (.bi bi ps)) := by
  have gl := g.gl hg
  unfold bi2 at hb
  split at hb
  · cases hb; rename_i e; subst e
    exact s_bi (call_max2 g.calm) gl (g.free _ (by decide)) (by decide +kernel) hn hd ha hs bd_max2
  split at hb
  · cases hb; rename_i e; subst e
    exact s_bi (call_min2 g.calm) gl (g.free _ (by decide)) (by decide +kernel) hn hd ha hs bd_min2
  cases hb
theorem ty_boot {y : Str} {T : String} (h : tyName y = some T) : bootBuiltins y = some (.type T) ∧ y ∈ bltNames := by
  unfold tyName at h
  split at h
  · cases h; rename_i e; subst e; exact ⟨by decide +kernel, by decide⟩
  split at h
  · cases h; rename_i e; subst e; exact ⟨by decide +kernel, by decide⟩
  split at h
  · cases h; rename_i e; subst e; exact ⟨by decide +kernel, by decide⟩
  split at h
  · cases h; rename_i e; subst e; exact ⟨by decide +kernel, by decide⟩
  split at h
  · cases h; rename_i e; subst e; exact ⟨by decide +kernel, by decide⟩
  cases h
theorem se_step {n : Nat} (hE : SE G nm cl m n) (hC : SCl G nm cl m n) (hL : SCo G nm cl m n) (hT : STe G nm cl m n) : SE G nm cl m (n + 1) := by
  intro E Γ X g e p h
  have H := hE E Γ X g
  unfold cE at h
  split at h
  · cases h; exact s_non
  · cases h; exact s_bl
  · cases h; exact s_int
  · cases h; exact s_str
  · obtain ⟨h1, h2⟩ := guardO_some h
    obtain ⟨d1, d2, d3⟩ := nmOk_all h1
    split at h2
    · rename_i hv
      obtain ⟨i, hi, rfl⟩ := Option.map_eq_some_iff.mp h2
      split
      · exact s_frz (s_var (g.ix hi) (g.vis hv) d1 d2)
      · exact s_var (g.ix hi) (g.vis hv) d1 d2
    · obtain ⟨h3, h4⟩ := guardO_some h2
      obtain ⟨i, hi, rfl⟩ := Option.map_eq_some_iff.mp h4
      exact num_rule g h1 h3 hi
  · obtain ⟨h1, h2⟩ := guardO_some h
    obtain ⟨pa, ha, h3⟩ := Option.bind_eq_some_iff.mp h2
    obtain ⟨pb, hb, rfl⟩ := Option.map_eq_some_iff.mp h3
    obtain ⟨r, o1, o2⟩ := bin_rule g h1
    exact s_bin (H _ _ ha) (H _ _ hb) o1 o2
  · split at h
    · obtain ⟨pa, ha, rfl⟩ := Option.map_eq_some_iff.mp h
      exact s_neg (H _ _ ha)
    · obtain ⟨pa, ha, rfl⟩ := Option.map_eq_some_iff.mp h
      exact s_not (H _ _ ha)
    · cases h
  · exact bool_of H h
  · split at h
    · obtain ⟨h1, h2⟩ := guardO_some h
      obtain ⟨pa, ha, h3⟩ := Option.bind_eq_some_iff.mp h2
      obtain ⟨pb, hb, rfl⟩ := Option.map_eq_some_iff.mp h3
      exact (cmp_all g h1 (H _ _ ha) (H _ _ hb)).1
    · obtain ⟨h1, h2⟩ := guardO_some h
      rw [Bool.and_eq_true] at h1
      obtain ⟨pa, ha, h3⟩ := Option.bind_eq_some_iff.mp h2
      obtain ⟨pb, hb, h4⟩ := Option.bind_eq_some_iff.mp h3
      obtain ⟨pc, hc, rfl⟩ := Option.map_eq_some_iff.mp h4
      exact (chn_all g h1.1 h1.2 (H _ _ ha) (H _ _ hb) (H _ _ hc)).1
    · cases h
  · obtain ⟨pc, hc, h2⟩ := Option.bind_eq_some_iff.mp h
    obtain ⟨pa, ha, h3⟩ := Option.bind_eq_some_iff.mp h2
    obtain ⟨pb, hb, rfl⟩ := Option.map_eq_some_iff.mp h3
    exact s_ife (hT E Γ X g _ _ hc) (H _ _ ha) (H _ _ hb)
  · obtain ⟨ps, h1, rfl⟩ := Option.map_eq_some_iff.mp h
    exact s_tup (pa_of H h1)
  · obtain ⟨ps, h1, rfl⟩ := Option.map_eq_some_iff.mp h
    exact s_lst (pa_of H h1)
  · split at h
    · obtain ⟨pa, ha, h3⟩ := Option.bind_eq_some_iff.mp h
      obtain ⟨pl, hl, h4⟩ := Option.bind_eq_some_iff.mp h3
      obtain ⟨ph, hh, rfl⟩ := Option.map_eq_some_iff.mp h4
      exact s_slc (H _ _ ha) (opt_of H hl) (opt_of H hh) g.K
    · obtain ⟨pa, ha, rfl⟩ := Option.map_eq_some_iff.mp h
      exact s_rev (H _ _ ha) g.K
    · obtain ⟨h1, h2⟩ := guardO_some h
      obtain ⟨pa, ha, h3⟩ := Option.bind_eq_some_iff.mp h2
      obtain ⟨pb, hb, rfl⟩ := Option.map_eq_some_iff.mp h3
      exact s_idx (H _ _ ha) (H _ _ hb) (plain_ix h1) g.K
  · split at h
    · exact hC E Γ X g _ _ _ _ _ h
    · cases h
  · split at h
    · exact (hL E Γ X g _ _ _ _ _ _ _ _ h).1
    · cases h
  · cases h
theorem st_step {n : Nat} (hE : SE G nm cl m n) (hT : STe G nm cl m n) : STe G nm cl m (n + 1) := by
  intro E Γ X g e p h
  have H := hE E Γ X g
  unfold cT at h
  split at h
  · obtain ⟨pa, ha, rfl⟩ := Option.map_eq_some_iff.mp h
    exact t_not (hT E Γ X g _ _ ha)
  · exact (test_of (hT E Γ X g) h).pt
  · split at h
    · obtain ⟨h1, h2⟩ := guardO_some h
      obtain ⟨pa, ha, h3⟩ := Option.bind_eq_some_iff.mp h2
      obtain ⟨pb, hb, rfl⟩ := Option.map_eq_some_iff.mp h3
      exact (cmp_all g h1 (H _ _ ha) (H _ _ hb)).2
    · obtain ⟨h1, h2⟩ := guardO_some h
      rw [Bool.and_eq_true] at h1
      obtain ⟨pa, ha, h3⟩ := Option.bind_eq_some_iff.mp h2
      obtain ⟨pb, hb, h4⟩ := Option.bind_eq_some_iff.mp h3
      obtain ⟨pc, hc, rfl⟩ := Option.map_eq_some_iff.mp h4
      exact (chn_all g h1.1 h1.2 (H _ _ ha) (H _ _ hb) (H _ _ hc)).2
    · cases h
  · obtain ⟨h1, h2⟩ := guardO_some h
    exact t_val (H _ _ h2) (plain_t h1 X.env)
theorem sco_step {n : Nat} (hE : SE G nm cl m n) (hT : STe G nm cl m n) (hI : SI G nm cl m n) : SCo G nm cl m (n + 1) := by
  intro E Γ X g elt tg iter ifs k scope pos p h
  unfold cComp at h
  obtain ⟨h1, h2⟩ := guardO_some h
  simp only [Bool.and_eq_true, decide_eq_true_eq] at h1
  obtain ⟨⟨hk, hns⟩, hb⟩ := h1
  subst hk
  obtain ⟨pit, hit, h3⟩ := Option.bind_eq_some_iff.mp h2
  obtain ⟨ptg, htg, h4⟩ := Option.bind_eq_some_iff.mp h3
  obtain ⟨pc, hc, h5⟩ := Option.bind_eq_some_iff.mp h4
  obtain ⟨pe, he, h6⟩ := Option.bind_eq_some_iff.mp h5
  obtain ⟨hown, h7⟩ := guardO_some h6
  cases h7
  have hown : ∀ i ∈ namesT ptg, i ∈ (ownOf Γ.N scope.names).map (·.2) := fun i hi => by
    have := List.all_eq_true.mp hown i hi
    exact of_decide_eq_true this
  have ok : BlkOk X.N X.env.scope scope (ownOf Γ.N scope.names) := by
    rw [g.N, g.sc]
    exact blkOk_by hb
  have G2 := g.blk scope
  have A1 := fun s H C cs fp => tg_of (G2 s H C cs fp) n htg
  have A2 : ∀ (s : Shared) (H : Hp) (C : Addr) (cs : List (Str × Addr)) (fp : List Addr), PTs (X.blk s H scope (compEnvC scope cs C X.env) fp) ifs (tDC G cl pc) := fun s H C cs fp => by
    split at hc
    · cases hc; exact c_nil
    · obtain ⟨pt, ht, rfl⟩ := Option.map_eq_some_iff.mp hc
      exact c_one (hT E0 _ _ (G2 s H C cs fp) _ _ ht)
    · cases hc
  have A3 := fun s H C cs fp => hE E0 _ _ (G2 s H C cs fp) _ _ he
  have A4 := hI E Γ X g _ _ _ hit
  exact ⟨s_comp g.calm g.nd A4 ok A1 A2 A3 (fold_set hns X.env) hown, s_compL g.calm g.nd A4 ok A1 A2 A3 (fold_set hns X.env) hown⟩
theorem range_in : ("range" : Str) ∈ bltNames := by decide
theorem zip_in : ("zip" : Str) ∈ bltNames := by decide
theorem enum_in : ("enumerate" : Str) ∈ bltNames := by decide
theorem si_step {n : Nat} (hE : SE G nm cl m n) : SI G nm cl m (n + 1) := by
  intro E Γ X g tg e p h
  have H := hE E Γ X g
  have V : ∀ {e p}, (cE nm n Γ e).map PX.one = some p → PI X tg e (tDI G cl E p) := fun h => by
    obtain ⟨pa, ha, rfl⟩ := Option.map_eq_some_iff.mp h
    exact i_val (H _ _ ha) g.K
  unfold cI at h
  split at h
  · split at h
    · rename_i hx
      rw [Bool.and_eq_true, decide_eq_true_eq] at hx
      obtain ⟨hg, rfl⟩ := hx
      split at h
      · obtain ⟨h1, h2⟩ := guardO_some h
        obtain ⟨pa, ha, rfl⟩ := Option.map_eq_some_iff.mp h2
        exact i_rng1 (H _ _ ha) h1 (g.gl hg) (g.free _ range_in)
      · obtain ⟨h1, h2⟩ := guardO_some h
        rw [Bool.and_eq_true] at h1
        obtain ⟨pa, ha, h3⟩ := Option.bind_eq_some_iff.mp h2
        obtain ⟨pb, hb, rfl⟩ := Option.map_eq_some_iff.mp h3
        exact i_rng2 (H _ _ ha) (H _ _ hb) h1.1 h1.2 (g.gl hg) (g.free _ range_in)
      · cases h
    · split at h
      · rename_i hx
        rw [Bool.and_eq_true, decide_eq_true_eq] at hx
        obtain ⟨hg, rfl⟩ := hx
        split at h
        · obtain ⟨h1, h2⟩ := guardO_some h
          rw [Bool.and_eq_true] at h1
          obtain ⟨pa, ha, h3⟩ := Option.bind_eq_some_iff.mp h2
          obtain ⟨pb, hb, rfl⟩ := Option.map_eq_some_iff.mp h3
          exact i_zp (H _ _ ha) (H _ _ hb) h1.1 h1.2 (g.gl hg) (g.free _ zip_in) g.K
        · cases h
      · split at h
        · rename_i hx
          rw [Bool.and_eq_true, decide_eq_true_eq] at hx
          obtain ⟨hg, rfl⟩ := hx
          split at h
          · obtain ⟨h1, h2⟩ := guardO_some h
            obtain ⟨pa, ha, rfl⟩ := Option.map_eq_some_iff.mp h2
            exact i_enm (H _ _ ha) h1 (g.gl hg) (g.free _ enum_in) g.K
          · cases h
        · exact V h
  · exact V h
theorem scl_step {n : Nat} (hE : SE G nm cl m n) : SCl G nm cl m (n + 1) := by
  intro E Γ X g x es q pos p h
  have H := hE E Γ X g
  unfold cCall at h
  obtain ⟨h1, h2⟩ := guardO_some h
  rw [Bool.and_eq_true] at h1
  obtain ⟨hn, hg⟩ := h1
  obtain ⟨d1, d2, d3⟩ := nmOk_all hn
  have B1 : ∀ {a : Expr} {p : PX}, ((bi1 x).bind fun bi => (cEs (cE nm n Γ) [a]).map fun ps => PX.bi bi ps) = some p → PE X (.Call (.Name x q) [a] [] pos) (tD G cl E p) := fun {a p} h => by
    obtain ⟨bi, hb, h⟩ := Option.bind_eq_some_iff.mp h
    obtain ⟨ps, hp, rfl⟩ := Option.map_eq_some_iff.mp h
    exact bi1_rule g hg d3 d1 hb (pa_of H hp) (cEs_len hp).2
  split at h2
  · rename_i i np hf
    obtain ⟨h3, h4⟩ := guardO_some h2
    obtain ⟨ps, hp, rfl⟩ := Option.map_eq_some_iff.mp h4
    have hl := cEs_len hp
    cases es with
    | nil =>
      cases hp
      exact s_call0 (g.fns i x np (fnOf_get hf)) g.room (g.gl hg) g.tk d1 (of_decide_eq_true h3)
    | cons e es => exact s_call (g.fns i x np (fnOf_get hf)) g.room (g.gl hg) g.tk d1 (pa_of H hp) hl.2 (hl.1.trans (of_decide_eq_true h3))
  · split at h2
    · split at h2
      · rename_i y q2 b p2
        split at h2
        · rename_i h5
          simp only [Bool.and_eq_true, decide_eq_true_eq] at h5
          obtain ⟨⟨⟨rfl, rfl⟩, hy⟩, hs⟩ := h5
          obtain ⟨pb, hb, rfl⟩ := Option.map_eq_some_iff.mp h2
          exact s_sset g.calm (H _ _ hb) hs (g.gl hg) (g.free _ (by decide)) (g.gl hy) (g.free _ (by decide)) g.K
        · exact B1 h2
      · exact B1 h2
    · rename_i a b
      split at h2
      · rename_i hx
        subst hx
        split at h2
        · rename_i y p2
          obtain ⟨h5, h6⟩ := guardO_some h2
          simp only [Bool.and_eq_true] at h5
          obtain ⟨⟨h7, h8⟩, h9⟩ := h5
          obtain ⟨pa, ha, h6⟩ := Option.bind_eq_some_iff.mp h6
          obtain ⟨T, hT, rfl⟩ := Option.map_eq_some_iff.mp h6
          obtain ⟨e1, e2, e3⟩ := nmOk_all h7
          have ⟨b1, b2⟩ := ty_boot hT
          exact s_isi (H _ _ ha) (star_cons h9 _ _) (g.gl hg) (g.free _ (by decide)) (g.gl h8) (g.free _ b2) b1 e3 e1 g.K
        · cases h2
      · obtain ⟨bi, hb, h⟩ := Option.bind_eq_some_iff.mp h2
        obtain ⟨ps, hp, rfl⟩ := Option.map_eq_some_iff.mp h
        exact bi2_rule g hg d3 d1 hb (pa_of H hp) (cEs_len hp).2
    · cases h2
theorem all_sound (n : Nat) : SE G nm cl m n ∧ SCl G nm cl m n ∧ SCo G nm cl m n ∧ STe G nm cl m n ∧ SI G nm cl m n := by
  induction n with
  | zero => exact ⟨fun _ _ _ _ _ _ h => (by cases h), fun _ _ _ _ _ _ _ _ _ h => (by cases h), fun _ _ _ _ _ _ _ _ _ _ _ _ h => (by cases h), fun _ _ _ _ _ _ h => (by cases h), fun _ _ _ _ _ _ _ h => (by cases h)⟩
  | succ n ih =>
    obtain ⟨h1, h2, h3, h4, h5⟩ := ih
    exact ⟨se_step h1 h2 h3 h4, scl_step h1, sco_step h1 h4 h5, st_step h1 h4, si_step h1⟩
end
end DL
/-! DLe: new lists: what is compiled is sound. -/
namespace DL
open PySem PySem.Spec PyProof.Rows L2
section
variable {G : Gr} {nm : Nm} {cl : Calls} {m : Nat} {E : XK} {Γ : Sc} {X : Cx}
theorem cE_ok (g : Gd G nm cl m E Γ X) (n : Nat) {e : Expr} {p : PX} (h : cE nm n Γ e = some p) : PE X e (tD G cl E p) := (all_sound n).1 E Γ X g e p h
theorem cT_ok (g : Gd G nm cl m E Γ X) (n : Nat) {e : Expr} {p : PX} (h : cT nm n Γ e = some p) : PT X e (tDT G cl E p) := (all_sound n).2.2.2.1 E Γ X g e p h
theorem cI_ok (g : Gd G nm cl m E Γ X) (n : Nat) {tg e : Expr} {p : PX} (h : cI nm n Γ tg e = some p) : PI X tg e (tDI G cl E p) := (all_sound n).2.2.2.2 E Γ X g tg e p h
theorem cEs_ok (g : Gd G nm cl m E Γ X) (n : Nat) {es : List Expr} {p : PX} (h : cEs (cE nm n Γ) es = some p) : PA X es (tDs G cl E p) := pa_of (fun _ _ => cE_ok g n) h
theorem cComp_ok (g : Gd G nm cl m E Γ X) (n : Nat) {elt tg iter ifs k scope pos p} (h : cComp nm n Γ elt tg iter ifs k scope = some p) : PE X (.ListComp elt [⟨tg, iter, ifs, k⟩] scope pos) (tDL G cl E p) := ((all_sound n).2.2.1 E Γ X g elt tg iter ifs k scope pos p h).2
theorem cL_ok (g : Gd G nm cl m E Γ X) : ∀ (n : Nat) {e : Expr} {p : PX}, cL nm n Γ e = some p → PE X e (tDL G cl E p) := by
  intro n
  induction n with
  | zero => intro e p h; cases h
  | succ n ih =>
    intro e p h
    have H : ∀ {e p}, cE nm n Γ e = some p → PE X e (tD G cl E p) := fun h => cE_ok g n h
    unfold cL at h
    split at h
    · obtain ⟨ps, h1, rfl⟩ := Option.map_eq_some_iff.mp h
      exact s_lstL (cEs_ok g n h1)
    · split at h
      · obtain ⟨pa, ha, h3⟩ := Option.bind_eq_some_iff.mp h
        obtain ⟨pb, hb, rfl⟩ := Option.map_eq_some_iff.mp h3
        exact s_catL (H ha) (H hb)
      · obtain ⟨pa, ha, h3⟩ := Option.bind_eq_some_iff.mp h
        obtain ⟨pb, hb, rfl⟩ := Option.map_eq_some_iff.mp h3
        exact s_repL (H ha) (H hb)
      · cases h
    · obtain ⟨pa, ha, h3⟩ := Option.bind_eq_some_iff.mp h
      obtain ⟨pl, hl, h4⟩ := Option.bind_eq_some_iff.mp h3
      obtain ⟨ph, hh, rfl⟩ := Option.map_eq_some_iff.mp h4
      exact s_slcL (H ha) (opt_of (fun _ _ => H) hl) (opt_of (fun _ _ => H) hh) g.K
    · obtain ⟨h1, h2⟩ := guardO_some h
      simp only [Bool.and_eq_true] at h1
      obtain ⟨⟨hn, hg⟩, hs⟩ := h1
      obtain ⟨d1, d2, d3⟩ := nmOk_all hn
      split at h2
      · rename_i e
        subst e
        obtain ⟨pa, ha, rfl⟩ := Option.map_eq_some_iff.mp h2
        exact s_tyL call_listU (g.gl hg) (g.free _ (by decide)) (by decide +kernel) d3 d1 (a_cons (H ha) a_nil (star_cons hs _ _)) (by rw [List.all_cons, hs]; rfl) (by rw [g.K]; exact bl_list)
      · split at h2
        · rename_i e
          subst e
          obtain ⟨pa, ha, rfl⟩ := Option.map_eq_some_iff.mp h2
          exact s_biL cr_sortedI (g.gl hg) (g.free _ (by decide)) (by decide +kernel) d3 d1 (a_cons (H ha) a_nil (star_cons hs _ _)) (by rw [List.all_cons, hs]; rfl) (by rw [g.K]; exact bl_sorted)
        · cases h2
    · obtain ⟨pc, hc, h2⟩ := Option.bind_eq_some_iff.mp h
      obtain ⟨pa, ha, h3⟩ := Option.bind_eq_some_iff.mp h2
      obtain ⟨pb, hb, rfl⟩ := Option.map_eq_some_iff.mp h3
      exact s_ifeL (cT_ok g n hc) (ih ha) (ih hb)
    · exact cComp_ok g n h
    · cases h
end
end DL
/-! DLf: statements: from the program's own to ours. -/
namespace DL
open PySem PySem.Spec PyProof.Rows L2
/-- values whose stores are never swapped for a comprehension's sake -/
def noLc : Expr → Bool
  | .Name .. => true
  | .Call .. => true
  | .Constant .. => true
  | .Tuple .. => true
  | .List .. => true
  | .BinOp .. => true
  | .UnaryOp .. => true
  | .BoolOp .. => true
  | .Compare .. => true
  | .Subscript .. => true
  | .IfExp .. => true
  | _ => false
def noTup : Expr → Bool
  | .Name .. => true
  | .Call .. => true
  | .Constant .. => true
  | .BinOp .. => true
  | .Subscript .. => true
  | .IfExp .. => true
  | .List .. => true
  | _ => false
/-- a name takes a comprehension: is it stored at once -/
def lcB (Γ : Sc) (scope : Scope) (t : Str) (p vp : Pos) : Bool :=
  (Γ.sc.names.lookup t == some .local && p.line == vp.line) && !(scope.names.any fun (n, k) => n == t && (k == .local || k == .cell))
/-- which names are stored from the right, if any -/
def parB (Γ : Sc) (ts vs : List Expr) : Option (Option (List Str)) :=
  if !(ts.length == 2 || ts.length == 3) || vs.length != ts.length then some none
  else if vs.any fun | .Starred .. => true | _ => false then some none
  else
    let line := (ts.head?.map (·.pos.line)).getD 0
    let names := ts.filterMap fun
      | .Name id pos => if Γ.sc.names.lookup id == some .local && pos.line == line then some id else none
      | _ => none
    if names.length != ts.length || names.eraseDups.length != names.length then some none
    else if vs.all (foldedForSure 8) then some none
    else if vs.all (constantsAlone 8) then none
    else some (some names)
def excOf (x : Str) (l : List Str) : Option Nat := ixOf x l
/-- a value for a name: a new list where the name's list is changed -/
def cV (nm : Nm) (n : Nat) (Γ : Sc) (b : Bool) (e : Expr) : Option PX := match b, cL nm n Γ e with
  | true, some p => some (.new p)
  | _, _ => cE nm n Γ e
def muB (Γ : Sc) (x : Str) : Bool := decide (x ∈ Γ.mu)
mutual
def cS (nm : Nm) : Nat → Sc → Stmt → Option SX
  | 0, _, _ => none
  | n + 1, Γ, s => match s with
    | .Pass _ => some .skip
    | .Break _ => some .brk
    | .Continue _ => some .cnt
    | .Return none _ => some .retN
    | .Return (some e) _ => (cV nm n { Γ with fzz := Γ.fz } Γ.own e).map .ret
    | .If c a b _ => (cT nm n Γ c).bind fun p => (cSs nm n Γ a).bind fun q => (cSs nm n Γ b).map fun r => .ife p q r
    | .While c a [] _ => (cT nm n Γ c).bind fun p => (cSs nm n Γ a).map fun q => .whl p q
    | .For tg it a [] _ => guardO (noSet it) ((cI nm n Γ tg it).bind fun p => (cG Γ n tg).bind fun g => (cSs nm n Γ a).map fun q => .loop g p q)
    | .Raise (some (.Call (.Name x _) [.Constant (.str _) _ _] [] _)) none _ => guardO (nmOk x && glB Γ.sc x) ((excOf x nm.excs).map .rse)
    | .Expr (.Call (.Attribute (.Name x _) m apos) [e] [] cpos) _ => guardO (nmOk x && visB Γ.sc x && noStar e && (apos.endLine == cpos.line)) (if m = ("append" : Str) then (ixOf x Γ.N).bind fun i => (cE nm n Γ e).map fun p => .app i p
        else if m = ("extend" : Str) then (ixOf x Γ.N).bind fun i => (cE nm n Γ e).map fun p => .ext i p else none)
    | .Expr e _ => guardO (noLc e) ((cE nm n Γ e).map .exp)
    | .Assign [.Name x tp] e p => guardO (locB Γ x) ((ixOf x Γ.N).bind fun i => match e with
        | .ListComp elt [⟨tg, iter, ifs, k⟩] scope vp =>
          guardO (Γ.sc.kind == .function) (if lcB Γ scope x tp vp then (cComp nm n Γ elt tg iter ifs k scope).map fun q => if muB Γ x then .set (.var i) (.new q) else .set (.var i) q
            else (cV nm n Γ (muB Γ x) e).map fun q => .set (.var i) q)
        | e => guardO (noLc e) ((cV nm n Γ (muB Γ x) e).map fun q => .set (.var i) q))
    | .Assign [.Tuple ts k tp] e p => guardO (Γ.sc.kind == .function) (match e with
        | .Tuple vs k2 p2 => match parB Γ ts vs with
          | none => none
          | some none => (cE nm n Γ e).bind fun q => (cG Γ n (.Tuple ts k tp)).map fun g => .set g q
          | some (some _) => match ts, vs with
            | [.Name x _, .Name y _], [a, b] => (ixOf x Γ.N).bind fun i => (ixOf y Γ.N).bind fun j => guardO (decide (i ≠ j) && noStar a && noStar b) ((cV nm n Γ (muB Γ x) a).bind fun p => (cV nm n Γ (muB Γ y) b).map fun q => .par [i, j] (.cs p (.cs q .nl)))
            | [.Name x _, .Name y _, .Name z _], [a, b, c] => (ixOf x Γ.N).bind fun i => (ixOf y Γ.N).bind fun j => (ixOf z Γ.N).bind fun l => guardO (decide (i ≠ j) && decide (i ≠ l) && decide (j ≠ l) && noStar a && noStar b && noStar c)
                ((cV nm n Γ (muB Γ x) a).bind fun p => (cV nm n Γ (muB Γ y) b).bind fun q => (cV nm n Γ (muB Γ z) c).map fun r => .par [i, j, l] (.cs p (.cs q (.cs r .nl))))
            | _, _ => none
        | e => guardO (noTup e) ((cE nm n Γ e).bind fun q => (cG Γ n (.Tuple ts k tp)).map fun g => .set g q))
    | .Assign [.Subscript o i _] e _ => guardO (noLc e && noSlice i) ((cE nm n Γ e).bind fun p => (cE nm n Γ o).bind fun q => (cE nm n Γ i).map fun r => .sub q r p)
    | _ => none
def cSs (nm : Nm) : Nat → Sc → List Stmt → Option SX
  | 0, _, _ => none
  | n + 1, Γ, ss => match ss with
    | [] => some .skip
    | [s] => cS nm n Γ s
    | s :: rest => (cS nm n Γ s).bind fun p => (cSs nm n Γ rest).map fun q => .seq p q
end
end DL
set_option maxHeartbeats 4000000
/-! DLg: statements: what is compiled is sound. -/
namespace DL
open PySem PySem.Spec PyProof.Rows L2
section
variable {G : Gr} {nm : Nm} {cl : Calls} {m : Nat} {E : XK} {Γ : Sc} {X : Cx}
theorem lc_none {e : Expr} (h : noLc e = true) (t : Option Expr) (l : Nat) (env : PySem.Env) : swapsWith e t l env = pure false := by
  cases e <;> first | (cases h; done) | rfl
theorem lc_tup {e : Expr} {ts : List Expr} {k : Nat} {p : Pos} (t : Expr) (ht : t = .Tuple ts k p) (l : Nat) (env : PySem.Env) : swapsWithSole [t] e l env = pure false := by
  subst ht
  show swapsWith e (some (.Tuple ts k p)) l env = pure false
  unfold swapsWith
  cases e <;> rfl
theorem tup_none {e : Expr} (h : noTup e = true) (ts : List Expr) (env : PySem.Env) : swappedStores ts e env = pure none := by
  unfold swappedStores
  split
  · rename_i e2
    split at e2 <;> first | (cases h; done) | (cases e2; done)
  · rfl
theorem fun_block (env : PySem.Env) (h : env.scope.kind = .function) : (env.blockKind != .function) = false := by
  unfold Env.blockKind
  rw [h]
  rfl
theorem par_ok {ts vs : List Expr} {k k2 : Nat} {p p2 : Pos} {o : Option (List Str)} (hk : X.env.scope = Γ.sc) (hf : Γ.sc.kind = .function) (h : parB Γ ts vs = some o) : swappedStores [.Tuple ts k p] (.Tuple vs k2 p2) X.env = pure o := by
  have hb := fun_block X.env (by rw [hk]; exact hf)
  have hko : ∀ x, X.env.kindOf x = Γ.sc.names.lookup x := fun x => by
    show X.env.scope.names.lookup x = _
    rw [hk]
  unfold parB at h
  unfold swappedStores
  simp only [hb, hko, Bool.or_false]
  split at h
  · rename_i c
    cases h
    exact if_pos c
  · rename_i c
    refine (if_neg c).trans ?_
    dsimp only at h ⊢
    split at h
    · rename_i c2
      cases h
      exact if_pos c2
    · rename_i c2
      refine (if_neg c2).trans ?_
      split at h
      · rename_i c3
        cases h
        exact if_pos c3
      · rename_i c3
        refine (if_neg c3).trans ?_
        split at h
        · rename_i c4
          cases h
          exact if_pos c4
        · rename_i c4
          refine (if_neg c4).trans ?_
          split at h
          · cases h
          · rename_i c5
            cases h
            exact if_neg c5
theorem cV_ok (g : Gd G nm cl m E Γ X) (n : Nat) {b : Bool} {e : Expr} {p : PX} (h : cV nm n Γ b e = some p) : PE X e (tD G cl E p) := by
  unfold cV at h
  split at h
  · rename_i q hq
    cases h
    exact s_new (cL_ok g n hq)
  · exact cE_ok g n h
end
end DL
/-! DLh: statements: what is compiled is sound. -/
namespace DL
open PySem PySem.Spec PyProof.Rows L2
section
variable {G : Gr} {nm : Nm} {cl : Calls} {m : Nat} {E : XK} {Γ : Sc} {X : Cx}
theorem sw_lc {elt : Expr} {gs : List Comprehension} {scope : Scope} {vp tp : Pos} {x : Str} {l : Nat} (hk : X.env.scope = Γ.sc) (hf : Γ.sc.kind = .function) : swapsWith (.ListComp elt gs scope vp) (some (.Name x tp)) l X.env = pure (lcB Γ scope x tp vp) := by
  have hb : X.env.blockKind = .function := by
    unfold Env.blockKind
    rw [hk, hf]
    rfl
  have hko : ∀ x, X.env.kindOf x = Γ.sc.names.lookup x := fun x => by
    show X.env.scope.names.lookup x = _
    rw [hk]
  unfold swapsWith lcB
  simp only [hb, hko]
  rfl
theorem comp_parts (g : Gd G nm cl m E Γ X) {n : Nat} {elt tg iter : Expr} {ifs : List Expr} {k : Int} {scope : Scope} {p : PX} (h : cComp nm n Γ elt tg iter ifs k scope = some p) :
    ∃ (own : List (Str × Nat)) (pe ptg pit pc : PX), p = .comp (own.map (·.2)) pe ptg pit pc ∧ k = 0 ∧ PI X tg iter (tDI G cl E pit) ∧ BlkOk X.N X.env.scope scope own ∧
      (∀ (s : Shared) (H : Hp) (C : Addr) (cs : List (Str × Addr)) (fp : List Addr), PG (X.blk s H scope (compEnvC scope cs C X.env) fp) tg (tG G ptg)) ∧
      (∀ (s : Shared) (H : Hp) (C : Addr) (cs : List (Str × Addr)) (fp : List Addr), PTs (X.blk s H scope (compEnvC scope cs C X.env) fp) ifs (tDC G cl pc)) ∧
      (∀ (s : Shared) (H : Hp) (C : Addr) (cs : List (Str × Addr)) (fp : List Addr), PE (X.blk s H scope (compEnvC scope cs C X.env) fp) elt (tD G cl E0 pe)) ∧
      (∀ x, foldedSetIterable iter X.env x = pure x) ∧ ∀ i ∈ namesT ptg, i ∈ own.map (·.2) := by
  cases n with
  | zero => cases h
  | succ n =>
    unfold cComp at h
    obtain ⟨h1, h2⟩ := guardO_some h
    simp only [Bool.and_eq_true, decide_eq_true_eq] at h1
    obtain ⟨⟨hk, hns⟩, hb⟩ := h1
    obtain ⟨pit, hit, h3⟩ := Option.bind_eq_some_iff.mp h2
    obtain ⟨ptg, htg, h4⟩ := Option.bind_eq_some_iff.mp h3
    obtain ⟨pc, hc, h5⟩ := Option.bind_eq_some_iff.mp h4
    obtain ⟨pe, he, h6⟩ := Option.bind_eq_some_iff.mp h5
    obtain ⟨hown, h7⟩ := guardO_some h6
    cases h7
    have G2 := g.blk scope
    refine ⟨ownOf Γ.N scope.names, pe, ptg, pit, pc, rfl, hk, cI_ok g n hit, ?_, fun s H C cs fp => tg_of (G2 s H C cs fp) n htg, fun s H C cs fp => ?_, fun s H C cs fp => cE_ok (G2 s H C cs fp) n he, fold_set hns X.env, fun i hi => ?_⟩
    · rw [g.N, g.sc]
      exact blkOk_by hb
    · split at hc
      · cases hc; exact c_nil
      · obtain ⟨pt, ht, rfl⟩ := Option.map_eq_some_iff.mp hc
        exact c_one (cT_ok (G2 s H C cs fp) n ht)
      · cases hc
    · have := List.all_eq_true.mp hown i hi
      exact of_decide_eq_true this
theorem lcB_loc {scope : Scope} {t : Str} {p vp : Pos} (h : lcB Γ scope t p vp = true) : Γ.sc.names.lookup t = some .local := by
  unfold lcB at h
  rw [Bool.and_eq_true, Bool.and_eq_true] at h
  simpa using h.1.1
theorem setName (g : Gd G nm cl m E Γ X) {x : Str} {i : Nat} {tp pos : Pos} {e : Expr} {q : PX} (hl : locB Γ x = true) (hi : ixOf x Γ.N = some i) (he : PE X e (tD G cl E q)) (hs : swapsWith e (some (.Name x tp)) pos.line X.env = pure false) : PS X (.Assign [.Name x tp] e pos) (tS G cl E (.set (.var i) q)) :=
  st_set he (g_name g.nd (g.ix hi) (g.loc hl).1 (g.loc hl).2) rfl hs rfl
theorem parName {x : Str} {Γ : Sc} {ts vs : List Expr} {names : List Str} (h : parB Γ ts vs = some (some names)) : ∃ line, names.length = ts.length ∧ names = ts.filterMap fun
      | .Name id pos => if Γ.sc.names.lookup id == some .local && pos.line == line then some id else none
      | _ => none := by
  unfold parB at h
  split at h
  · cases h
  split at h
  · cases h
  dsimp only at h
  split at h
  · cases h
  rename_i c
  split at h
  · cases h
  split at h
  · cases h
  cases h
  refine ⟨_, ?_, rfl⟩
  rw [Bool.or_eq_true, not_or] at c
  exact Decidable.byContradiction fun hne => c.1 (bne_iff_ne.mpr hne)
theorem fm_all {α β : Type} {f : α → Option β} : ∀ {l : List α}, (l.filterMap f).length = l.length → ∀ a ∈ l, ∃ b, f a = some b
  | [], _, a, h => by cases h
  | x :: l, e, a, h => by
    have le := List.length_filterMap_le f l
    rw [List.filterMap_cons] at e
    cases q : f x with
    | none =>
      rw [q] at e
      have e : (l.filterMap f).length = l.length + 1 := e
      omega
    | some b =>
      rw [q] at e
      have e : (l.filterMap f).length + 1 = l.length + 1 := e
      cases h with
      | head => exact ⟨b, q⟩
      | tail _ h => exact fm_all (by omega) a h
theorem parN1 {Γ : Sc} {x : Str} {px : Pos} {line : Nat} {b : Str} (h : (if (Γ.sc.names.lookup x == some .local && px.line == line) = true then some x else none) = some b) : (Γ.sc.names.lookup x == some .local && px.line == line) = true ∧ Γ.sc.names.lookup x = some .local := by
  split at h
  · rename_i c
    have c2 := c
    rw [Bool.and_eq_true] at c2
    exact ⟨c, by simpa using c2.1⟩
  · cases h
theorem par2N {x y : Str} {px py : Pos} {a b : Expr} {names : List Str} (h : parB Γ [.Name x px, .Name y py] [a, b] = some (some names)) : names = [x, y] ∧ Γ.sc.names.lookup x = some .local ∧ Γ.sc.names.lookup y = some .local := by
  obtain ⟨line, hl, e⟩ := parName (x := x) h
  rw [e] at hl
  obtain ⟨b1, h1⟩ := fm_all hl (.Name x px) (by simp)
  obtain ⟨b2, h2⟩ := fm_all hl (.Name y py) (by simp)
  obtain ⟨c1, d1⟩ := parN1 h1
  obtain ⟨c2, d2⟩ := parN1 h2
  refine ⟨?_, d1, d2⟩
  rw [e, List.filterMap_cons, List.filterMap_cons, List.filterMap_nil]
  simp only [c1, c2, if_true]
theorem par3N {x y z : Str} {px py pz : Pos} {a b c : Expr} {names : List Str} (h : parB Γ [.Name x px, .Name y py, .Name z pz] [a, b, c] = some (some names)) : names = [x, y, z] ∧ Γ.sc.names.lookup x = some .local ∧ Γ.sc.names.lookup y = some .local ∧ Γ.sc.names.lookup z = some .local := by
  obtain ⟨line, hl, e⟩ := parName (x := x) h
  rw [e] at hl
  obtain ⟨b1, h1⟩ := fm_all hl (.Name x px) (by simp)
  obtain ⟨b2, h2⟩ := fm_all hl (.Name y py) (by simp)
  obtain ⟨b3, h3⟩ := fm_all hl (.Name z pz) (by simp)
  obtain ⟨c1, d1⟩ := parN1 h1
  obtain ⟨c2, d2⟩ := parN1 h2
  obtain ⟨c3, d3⟩ := parN1 h3
  refine ⟨?_, d1, d2, d3⟩
  rw [e, List.filterMap_cons, List.filterMap_cons, List.filterMap_cons, List.filterMap_nil]
  simp only [c1, c2, c3, if_true]
theorem lc_sole {e : Expr} (h : noLc e = true) (t : Expr) (l : Nat) (env : PySem.Env) : swapsWithSole [t] e l env = pure false := lc_none h _ l env
theorem bm_few {e : Expr} {env : PySem.Env} {cpos : Pos} (h : noStar e = true) : ((backTo cpos (starEach [e] env)).all (fun x => !x.1) && (backToKw cpos (keywordEach [] env)).all (fun x => x.1.isSome)
      && decide ([e].length + ([] : List Keyword).length + (if ([] : List Keyword).isEmpty then 0 else 1) < 30)) = true := by
  rw [star_cons h]
  rfl
theorem st_app (g : Gd G nm cl m E Γ X) {x : Str} {i : Nat} {q apos cpos pos : Pos} {e : Expr} {p : PX} (hn : nmOk x = true) (hv : visB Γ.sc x = true) (hs : noStar e = true) (hl : (apos.endLine == cpos.line) = true) (hi : ixOf x Γ.N = some i) (he : PE X e (tD G cl E p)) :
    PS X (.Expr (.Call (.Attribute (.Name x q) "append" apos) [e] [] cpos) pos) (tS G cl E (.app i p)) := by
  obtain ⟨d1, d2, d3⟩ := nmOk_all hn
  exact (ps_expr (pe_bm PySem.F.plainAttrs_list PySem.F.slot_list_append PySem.F.type_list_append mt_append (pe_var (g.ix hi) (g.vis hv) d1 d2) (pa_cons he pa_nil (star_cons hs _ _)) rfl (bm_few hs) hl (star_cons hs _ _) rfl) (lc_none rfl _ _ _)).imp fun D σ H hq => app_imp g.K hq
theorem st_ext (g : Gd G nm cl m E Γ X) {x : Str} {i : Nat} {q apos cpos pos : Pos} {e : Expr} {p : PX} (hn : nmOk x = true) (hv : visB Γ.sc x = true) (hs : noStar e = true) (hl : (apos.endLine == cpos.line) = true) (hi : ixOf x Γ.N = some i) (he : PE X e (tD G cl E p)) :
    PS X (.Expr (.Call (.Attribute (.Name x q) "extend" apos) [e] [] cpos) pos) (tS G cl E (.ext i p)) := by
  obtain ⟨d1, d2, d3⟩ := nmOk_all hn
  exact (ps_expr (pe_bm PySem.F.plainAttrs_list PySem.F.slot_list_extend PySem.F.type_list_extend mt_extend (pe_var (g.ix hi) (g.vis hv) d1 d2) (pa_cons he pa_nil (star_cons hs _ _)) rfl (bm_few hs) hl (star_cons hs _ _) rfl) (lc_none rfl _ _ _)).imp fun D σ H hq => ext_imp g.K hq
theorem st_rse (g : Gd G nm cl m E Γ X) {x mm : Str} {c j : Nat} {q cpos rpos p2 : Pos} (hn : nmOk x = true) (hg : glB Γ.sc x = true) (hc : excOf x nm.excs = some c) :
    PS X (.Raise (some (.Call (.Name x q) [.Constant (.str mm) j p2] [] cpos)) none rpos) (tS G cl E (.rse c)) := by
  obtain ⟨d1, d2, d3⟩ := nmOk_all hn
  obtain ⟨e1, e2, e3, e4⟩ := g.exc c x (ixOf_get hc)
  refine (ps_raise g.calm g.tk (pmk_own PySem.F.excBase_ValueError e2 e1 e3 e4 (g.gl hg) d1)).imp fun D σ H hq => ?_
  obtain ⟨w, ρ, rfl, ok, sr, h⟩ := hq
  exact h w _ none rfl ok (Ev.refl G w) ⟨rfl, rfl⟩
theorem st_sub (g : Gd G nm cl m E Γ X) {o i e : Expr} {po pi pa : PX} {spos pos : Pos} (ho : PE X o (tD G cl E po)) (hi : PE X i (tD G cl E pi)) (he : PE X e (tD G cl E pa)) (hl : noLc e = true) (hs : noSlice i = true) :
    PS X (.Assign [.Subscript o i spos] e pos) (tS G cl E (.sub po pi pa)) :=
  (ps_asg he (pg_sub ho hi set_list (fun v => by cases i <;> first | (cases hs; done) | rfl)) (lc_sole hl _ _ _) rfl rfl).imp fun D σ H hq => sub_imp hq
end
end DL
/-! DLi: statements: the whole. -/
namespace DL
open PySem PySem.Spec PyProof.Rows L2
section
variable {G : Gr} {nm : Nm} {cl : Calls} {m : Nat} {E : XK} {Γ : Sc} {X : Cx}
theorem st_name (g : Gd G nm cl m E Γ X) (n : Nat) {x : Str} {tp p : Pos} {e : Expr} {i : Nat} {s : SX} (hl : locB Γ x = true) (hi : ixOf x Γ.N = some i) (h : (match e with
        | .ListComp elt [⟨tg, iter, ifs, k⟩] scope vp =>
          guardO (Γ.sc.kind == .function) (if lcB Γ scope x tp vp then (cComp nm n Γ elt tg iter ifs k scope).map fun q => if muB Γ x then SX.set (.var i) (.new q) else .set (.var i) q
            else (cV nm n Γ (muB Γ x) e).map fun q => .set (.var i) q)
        | e => guardO (noLc e) ((cV nm n Γ (muB Γ x) e).map fun q => SX.set (.var i) q)) = some s) : PS X (.Assign [.Name x tp] e p) (tS G cl E s) := by
  split at h
  · rename_i elt tg iter ifs k scope vp
    obtain ⟨h1, h2⟩ := guardO_some h
    have hf : Γ.sc.kind = .function := by
      cases q : Γ.sc.kind <;> rw [q] at h1 <;> first | rfl | (cases h1)
    split at h2
    · rename_i hb
      obtain ⟨q, hq, e⟩ := Option.map_eq_some_iff.mp h2
      obtain ⟨own, pe, ptg, pit, pc, rfl, rfl, a1, a2, a3, a4, a5, a6, a7⟩ := comp_parts g hq
      have hyl : X.env.scope.names.lookup x = some .local := by rw [g.sc]; exact lcB_loc hb
      have base := ps_setLc (spos := p) g.calm g.nd (g.ix hi) hyl ((sw_lc g.sc hf).trans (by rw [hb])) a1 a2 a3 a4 a5 a6
      subst e
      split
      · exact base.imp fun D σ H hq => setN_imp a7 hq
      · exact base.imp fun D σ H hq => setC_imp a7 hq
    · rename_i hb
      obtain ⟨q, hq, rfl⟩ := Option.map_eq_some_iff.mp h2
      exact setName g hl hi (cV_ok g n hq) ((sw_lc g.sc hf).trans (by rw [Bool.eq_false_iff.mpr hb]))
  · obtain ⟨h1, h2⟩ := guardO_some h
    obtain ⟨q, hq, rfl⟩ := Option.map_eq_some_iff.mp h2
    exact setName g hl hi (cV_ok g n hq) (lc_none h1 _ _ _)
theorem st_tup (g : Gd G nm cl m E Γ X) (n : Nat) {ts : List Expr} {k : Nat} {tp p : Pos} {e : Expr} {s : SX} (h : guardO (Γ.sc.kind == .function) (match e with
        | .Tuple vs k2 p2 => match parB Γ ts vs with
          | none => none
          | some none => (cE nm n Γ e).bind fun q => (cG Γ n (.Tuple ts k tp)).map fun g => SX.set g q
          | some (some _) => match ts, vs with
            | [.Name x _, .Name y _], [a, b] => (ixOf x Γ.N).bind fun i => (ixOf y Γ.N).bind fun j => guardO (decide (i ≠ j) && noStar a && noStar b) ((cV nm n Γ (muB Γ x) a).bind fun p => (cV nm n Γ (muB Γ y) b).map fun q => .par [i, j] (.cs p (.cs q .nl)))
            | [.Name x _, .Name y _, .Name z _], [a, b, c] => (ixOf x Γ.N).bind fun i => (ixOf y Γ.N).bind fun j => (ixOf z Γ.N).bind fun l => guardO (decide (i ≠ j) && decide (i ≠ l) && decide (j ≠ l) && noStar a && noStar b && noStar c)
                ((cV nm n Γ (muB Γ x) a).bind fun p => (cV nm n Γ (muB Γ y) b).bind fun q => (cV nm n Γ (muB Γ z) c).map fun r => .par [i, j, l] (.cs p (.cs q (.cs r .nl))))
            | _, _ => none
        | e => guardO (noTup e) ((cE nm n Γ e).bind fun q => (cG Γ n (.Tuple ts k tp)).map fun g => .set g q)) = some s) : PS X (.Assign [.Tuple ts k tp] e p) (tS G cl E s) := by
  obtain ⟨h1, h⟩ := guardO_some h
  have hf : Γ.sc.kind = .function := by
    cases q : Γ.sc.kind <;> rw [q] at h1 <;> first | rfl | (cases h1)
  split at h
  · rename_i vs k2 p2
    split at h
    · cases h
    · rename_i hp
      obtain ⟨q, hq, h⟩ := Option.bind_eq_some_iff.mp h
      obtain ⟨t, ht, rfl⟩ := Option.map_eq_some_iff.mp h
      exact st_set (cE_ok g n hq) (tg_of g n ht) rfl (lc_tup _ rfl _ _) (par_ok g.sc hf hp)
    · rename_i names hp
      split at h
      · rename_i x px y py a b
        obtain ⟨i, hi, h⟩ := Option.bind_eq_some_iff.mp h
        obtain ⟨j, hj, h⟩ := Option.bind_eq_some_iff.mp h
        obtain ⟨h2, h⟩ := guardO_some h
        simp only [Bool.and_eq_true, decide_eq_true_eq] at h2
        obtain ⟨⟨hij, ha⟩, hb⟩ := h2
        obtain ⟨q, hq, h⟩ := Option.bind_eq_some_iff.mp h
        obtain ⟨r, hr, rfl⟩ := Option.map_eq_some_iff.mp h
        obtain ⟨rfl, lx, ly⟩ := par2N hp
        exact (ps_par g.calm g.nd (g.ix hi) (g.ix hj) hij (by rw [g.sc]; exact lx) (by rw [g.sc]; exact ly) (a_cons (cV_ok g n hq) (a_cons (cV_ok g n hr) a_nil (star_cons hb _ _)) (star_cons ha _ _)) (par_ok g.sc hf hp) (lc_tup _ rfl _ _)).imp fun D σ H hq => par2_imp hq
      · rename_i x px y py z pz a b c
        obtain ⟨i, hi, h⟩ := Option.bind_eq_some_iff.mp h
        obtain ⟨j, hj, h⟩ := Option.bind_eq_some_iff.mp h
        obtain ⟨l, hl, h⟩ := Option.bind_eq_some_iff.mp h
        obtain ⟨h2, h⟩ := guardO_some h
        simp only [Bool.and_eq_true, decide_eq_true_eq] at h2
        obtain ⟨⟨⟨⟨⟨hij, hil⟩, hjl⟩, ha⟩, hb⟩, hc⟩ := h2
        obtain ⟨q, hq, h⟩ := Option.bind_eq_some_iff.mp h
        obtain ⟨r, hr, h⟩ := Option.bind_eq_some_iff.mp h
        obtain ⟨t, ht, rfl⟩ := Option.map_eq_some_iff.mp h
        obtain ⟨rfl, lx, ly, lz⟩ := par3N hp
        exact (ps_par3 g.calm g.nd (g.ix hi) (g.ix hj) (g.ix hl) hij hil hjl (by rw [g.sc]; exact lx) (by rw [g.sc]; exact ly) (by rw [g.sc]; exact lz)
          (a_cons (cV_ok g n hq) (a_cons (cV_ok g n hr) (a_cons (cV_ok g n ht) a_nil (star_cons hc _ _)) (star_cons hb _ _)) (star_cons ha _ _)) (par_ok g.sc hf hp) (lc_tup _ rfl _ _)).imp fun D σ H hq => par3_imp hq
      · cases h
  · obtain ⟨h2, h⟩ := guardO_some h
    obtain ⟨q, hq, h⟩ := Option.bind_eq_some_iff.mp h
    obtain ⟨t, ht, rfl⟩ := Option.map_eq_some_iff.mp h
    exact st_set (cE_ok g n hq) (tg_of g n ht) rfl (lc_tup _ rfl _ _) (tup_none h2 _ _)
theorem cS_ok (g : Gd G nm cl m E Γ X) (hp : PassesOwn (model X.prog X.w) X.A X.env X.xe) : ∀ n, (∀ s p, cS nm n Γ s = some p → PS X s (tS G cl E p)) ∧ (∀ ss p, cSs nm n Γ ss = some p → PSs X ss (tS G cl E p)) := by
  intro n
  induction n with
  | zero => exact ⟨fun _ _ h => (by cases h), fun _ _ h => (by cases h)⟩
  | succ n ih =>
    obtain ⟨ih1, ih2⟩ := ih
    refine ⟨fun s p h => ?_, fun ss p h => ?_⟩
    · unfold cS at h
      split at h
      · cases h; exact st_pass
      · cases h; exact st_brk
      · cases h; exact st_cnt
      · cases h; exact st_retN
      · obtain ⟨q, hq, rfl⟩ := Option.map_eq_some_iff.mp h
        exact st_ret (cV_ok g.fzz n hq)
      · obtain ⟨pc, hc, h⟩ := Option.bind_eq_some_iff.mp h
        obtain ⟨pa, ha, h⟩ := Option.bind_eq_some_iff.mp h
        obtain ⟨pb, hb, rfl⟩ := Option.map_eq_some_iff.mp h
        exact st_if (cT_ok g n hc) (ih2 _ _ ha) (ih2 _ _ hb)
      · obtain ⟨pc, hc, h⟩ := Option.bind_eq_some_iff.mp h
        obtain ⟨pa, ha, rfl⟩ := Option.map_eq_some_iff.mp h
        exact (ps_while hp (cT_ok g n hc) (ih2 _ _ ha)).imp fun D σ H hq => whl_imp hq
      · obtain ⟨h1, h⟩ := guardO_some h
        obtain ⟨pi, hi, h⟩ := Option.bind_eq_some_iff.mp h
        obtain ⟨pg, hg, h⟩ := Option.bind_eq_some_iff.mp h
        obtain ⟨pa, ha, rfl⟩ := Option.map_eq_some_iff.mp h
        exact (ps_for hp g.calm (cI_ok g n hi) (tg_of g n hg) (ih2 _ _ ha) (fold_set h1 X.env)).imp fun D σ H hq => for_imp hq
      · obtain ⟨h1, h⟩ := guardO_some h
        rw [Bool.and_eq_true] at h1
        obtain ⟨c, hc, rfl⟩ := Option.map_eq_some_iff.mp h
        exact st_rse g h1.1 h1.2 hc
      · obtain ⟨h1, hh⟩ := guardO_some h
        clear h
        simp only [Bool.and_eq_true] at h1
        obtain ⟨⟨⟨hn, hv⟩, hs⟩, hl⟩ := h1
        split at hh
        · rename_i e
          subst e
          obtain ⟨i, hi, hh⟩ := Option.bind_eq_some_iff.mp hh
          obtain ⟨pe, he, rfl⟩ := Option.map_eq_some_iff.mp hh
          exact st_app g hn hv hs hl hi (cE_ok g n he)
        · split at hh
          · rename_i e
            subst e
            obtain ⟨i, hi, hh⟩ := Option.bind_eq_some_iff.mp hh
            obtain ⟨pe, he, rfl⟩ := Option.map_eq_some_iff.mp hh
            exact st_ext g hn hv hs hl hi (cE_ok g n he)
          · cases hh
      · obtain ⟨h1, h⟩ := guardO_some h
        obtain ⟨pe, he, rfl⟩ := Option.map_eq_some_iff.mp h
        exact st_exp (cE_ok g n he) (lc_none h1 _ _ _)
      · obtain ⟨h1, h⟩ := guardO_some h
        obtain ⟨i, hi, h⟩ := Option.bind_eq_some_iff.mp h
        exact st_name g n h1 hi h
      · exact st_tup g n h
      · obtain ⟨h1, h⟩ := guardO_some h
        rw [Bool.and_eq_true] at h1
        obtain ⟨pe, he, h⟩ := Option.bind_eq_some_iff.mp h
        obtain ⟨po, ho, h⟩ := Option.bind_eq_some_iff.mp h
        obtain ⟨pi, hi, rfl⟩ := Option.map_eq_some_iff.mp h
        exact st_sub g (cE_ok g n ho) (cE_ok g n hi) (cE_ok g n he) h1.1 h1.2
      · cases h
    · unfold cSs at h
      split at h
      · cases h; exact ss_nil
      · exact ss_one (ih1 _ _ h)
      · obtain ⟨pa, ha, h⟩ := Option.bind_eq_some_iff.mp h
        obtain ⟨pb, hb, rfl⟩ := Option.map_eq_some_iff.mp h
        exact ss_cons (ih1 _ _ ha) (ih2 _ _ hb)
end
end DL
/-! DLj: a def's end. -/
namespace DL
open PySem PySem.Spec PyProof.Rows L2
section
variable {G : Gr} {w w' : Wd} {E : XK}
/-- what a call leaves of the state: the lists that stood ahead of it -/
def Wd.cut (w' : Wd) (n : Nat) : Wd := { w' with cs := w'.cs.take n, μ := w'.μ.take n }
theorem cutw_ok (ok' : w'.Ok G) (n : Nat) : (w'.cut n).Ok G where
  len := by
    show (w'.cs.take n).length = (w'.μ.take n).length
    rw [List.length_take, List.length_take, ok'.len]
  nd := List.Sublist.nodup (List.take_sublist n w'.cs) ok'.nd
  cell := fun k c h => by
    have h : (w'.μ.take n)[k]? = some c := h
    rw [List.getElem?_take] at h
    split at h
    · rename_i hk
      obtain ⟨a, vs, h1, h2, h3, h4⟩ := ok'.cell k c h
      exact ⟨a, vs, by show (w'.cs.take n)[k]? = _; rw [List.getElem?_take, if_pos hk]; exact h1, h2, h3, h4⟩
    · cases h
  fdom := ok'.fdom
  jj := ok'.jj
theorem cutw_ev (ok : w.Ok G) (ok' : w'.Ok G) (e : Ev G w w') : Ev G w (w'.cut w.μ.length) where
  sub := e.sub
  old := e.old
  pre := by
    obtain ⟨ns, q, h⟩ := e.pre
    refine ⟨[], ?_, fun a z => nomatch z⟩
    show w'.cs.take w.μ.length = w.cs ++ []
    rw [q, ← ok.len, List.take_left, List.append_nil]
  keep := e.keep
  tb := e.tb
  lock := fun k c h z => by
    obtain ⟨c', h1, h2⟩ := e.lock k c h z
    refine ⟨c', ?_, h2⟩
    show (w'.μ.take w.μ.length)[k]? = _
    rw [List.getElem?_take, if_pos (List.getElem?_eq_some_iff.mp h).1]
    exact h1
theorem cut_rp {n : Nat} {d : D} {v : V} (h : Rp G w'.F w'.H d v) : Rp G (w'.cut n).F (w'.cut n).H d v := h
/-- the store's list goes to the caller as it is -/
theorem give_ok (ok' : w'.Ok G) {n k : Nat} {a : Addr} {c : Cell} (hn : n ≤ k) (hk : w'.cs[k]? = some a) (hc : w'.μ[k]? = some c) : Wd.Ok G { w'.cut n with F := fun b => w'.F b ∨ b = a } := by
  obtain ⟨a2, vs, h1, h2, h3, h4⟩ := ok'.cell k c hc
  rw [hk] at h1
  cases h1
  refine ⟨(cutw_ok ok' n).len, (cutw_ok ok' n).nd, fun j c1 h => ?_, fun b hb => ?_, ok'.jj⟩
  · obtain ⟨b, us, q1, q2, q3, q4⟩ := (cutw_ok ok' n).cell j c1 h
    have q1' : (w'.cs.take n)[j]? = some b := q1
    rw [List.getElem?_take] at q1'
    split at q1'
    · rename_i hj
      have ne : b ≠ a := fun z => by
        subst z
        have l1 := (List.getElem?_eq_some_iff.mp q1').1
        have := (List.getElem_inj (h₀ := l1) (h₁ := (List.getElem?_eq_some_iff.mp hk).1) ok'.nd).mp (by rw [(List.getElem?_eq_some_iff.mp q1').2, (List.getElem?_eq_some_iff.mp hk).2])
        omega
      exact ⟨b, us, q1, q2, q3.mono (fun _ _ z => z) (fun _ _ z => ⟨.inl z.1, z.2⟩) fun _ _ _ z => z, q4.trans ⟨.inl, fun z => z.resolve_right ne⟩⟩
    · cases q1'
  · rcases hb with hb | rfl
    · exact ok'.fdom b hb
    · exact ⟨_, h2⟩
theorem give_ev (ok : w.Ok G) (ok' : w'.Ok G) (e : Ev G w w') {k : Nat} {a : Addr} (hn : w.μ.length ≤ k) (hk : w'.cs[k]? = some a) : Ev G w { w'.cut w.μ.length with F := fun b => w'.F b ∨ b = a } := by
  have e0 := cutw_ev ok ok' e
  have ha : w.H a = none := by
    obtain ⟨ns, q, h⟩ := e.pre
    rw [q, List.getElem?_append_right (by rw [ok.len]; exact hn)] at hk
    exact h a (List.mem_of_getElem? hk)
  exact ⟨fun b h => .inl (e.sub b h), fun b h => h.elim (e.old b) fun z => by rw [z]; exact .inr (.inr ha), e0.pre, e0.keep, e0.tb, e0.lock⟩
/-- the caller may change it -/
theorem own_ok2 (ok' : w'.Ok G) {n k : Nat} {a : Addr} {xs : List D} (hn : n ≤ k) (hk : w'.cs[k]? = some a) (hc : w'.μ[k]? = some ⟨0, xs⟩) : Wd.Ok G { w' with cs := w'.cs.take n ++ [a], μ := w'.μ.take n ++ [⟨0, xs⟩] } := by
  have e0 := cutw_ok ok' n
  have nle : (w'.cs.take n).length = (w'.μ.take n).length := e0.len
  have ina : a ∉ w'.cs.take n := fun z => by
    obtain ⟨j, hj, e⟩ := List.getElem_of_mem z
    rw [List.getElem_take] at e
    have hj' : j < n := by
      rw [List.length_take] at hj
      omega
    have := (List.getElem_inj (h₁ := (List.getElem?_eq_some_iff.mp hk).1) ok'.nd).mp (by rw [e, (List.getElem?_eq_some_iff.mp hk).2])
    omega
  refine ⟨?_, ?_, fun j c h => ?_, ok'.fdom, ok'.jj⟩
  · show (w'.cs.take n ++ [a]).length = (w'.μ.take n ++ [_]).length
    rw [List.length_append, List.length_append, nle]
    rfl
  · show (w'.cs.take n ++ [a]).Nodup
    rw [List.nodup_append]
    exact ⟨e0.nd, by simp, fun x hx y hy => by
      have : y = a := by simpa using hy
      subst this
      exact fun z => ina (z ▸ hx)⟩
  · have h : (w'.μ.take n ++ ([⟨0, xs⟩] : List Cell))[j]? = some c := h
    by_cases hj : j < (w'.μ.take n).length
    · rw [List.getElem?_append_left hj] at h
      obtain ⟨b, us, q1, q2⟩ := e0.cell j c h
      exact ⟨b, us, by show (w'.cs.take n ++ [a])[j]? = _; rw [List.getElem?_append_left (by rw [nle]; exact hj)]; exact q1, q2⟩
    · have hj2 : j = (w'.μ.take n).length := by
        have := (List.getElem?_eq_some_iff.mp h).1
        rw [List.length_append] at this
        simp only [List.length_cons, List.length_nil] at this
        omega
      rw [hj2, List.getElem?_append_right (Nat.le_refl _), Nat.sub_self] at h
      cases h
      obtain ⟨b, us, q1, q2, q3, q4⟩ := ok'.cell k _ hc
      rw [hk] at q1
      cases q1
      exact ⟨a, us, by show (w'.cs.take n ++ [a])[j]? = _; rw [hj2, ← nle, List.getElem?_append_right (Nat.le_refl _), Nat.sub_self]; rfl, q2, q3, q4⟩
theorem own_ev2 (ok : w.Ok G) (ok' : w'.Ok G) (e : Ev G w w') {k : Nat} {a : Addr} {xs : List D} (hn : w.μ.length ≤ k) (hk : w'.cs[k]? = some a) : Ev G w { w' with cs := w'.cs.take w.μ.length ++ [a], μ := w'.μ.take w.μ.length ++ [⟨0, xs⟩] } := by
  have e0 := cutw_ev ok ok' e
  have ha : w.H a = none := by
    obtain ⟨ns, q, h⟩ := e.pre
    rw [q, List.getElem?_append_right (by rw [ok.len]; exact hn)] at hk
    exact h a (List.mem_of_getElem? hk)
  refine ⟨e.sub, e.old, ?_, e.keep, e.tb, fun k c h z => ?_⟩
  · obtain ⟨ns, q, h⟩ := e.pre
    refine ⟨[a], ?_, fun b hb => ?_⟩
    · show w'.cs.take w.μ.length ++ [a] = w.cs ++ [a]
      rw [q, ← ok.len, List.take_left]
    · have : b = a := by simpa using hb
      rw [this]
      exact ha
  · obtain ⟨c', h1, h2⟩ := e0.lock k c h z
    refine ⟨c', ?_, h2⟩
    have h1 : (w'.μ.take w.μ.length)[k]? = some c' := h1
    show (w'.μ.take w.μ.length ++ [_])[k]? = _
    rw [List.getElem?_append_left (List.getElem?_eq_some_iff.mp h1).1]
    exact h1
/-- a def's body is run, its end is looked at -/
theorem leave_imp {own : Bool} {r : Rs Flow} {Q : VK} {D : Ends} (ok : w.Ok G) (hnx : ∀ σ H, Q .non H → D.nx σ H) (hrt : ∀ v H, Q v H → D.rt v H) (h : Got G w E (leave own w.μ.length r) (RV G) Q) : GotS G w E D r := by
  cases r with
  | no => exact h
  | ex x μ => exact fun w' cls dx m ok' e' hr => h (w'.cut w.μ.length) cls dx (by subst m; rfl) (cutw_ok ok' _) (cutw_ev ok ok' e') hr
  | ok f μ =>
    cases f with
    | brk ρ => exact h.elim
    | cnt ρ => exact h.elim
    | nx ρ => exact fun w' σ' m ok' e' _ => hnx _ _ (h (w'.cut w.μ.length) .non (by subst m; rfl) (cutw_ok ok' _) (cutw_ev ok ok' e') Rp.non)
    | ret d =>
      intro w' v m ok' e' rv
      subst m
      have gen : ∀ {d : DL.D}, Got G w E (.ok d (w'.μ.take w.μ.length)) (RV G) Q → RV G (w'.cut w.μ.length) d v → D.rt v w'.H := fun h rv => hrt _ _ (h (w'.cut w.μ.length) v rfl (cutw_ok ok' _) (cutw_ev ok ok' e') rv)
      cases d with
      | cell k =>
        obtain ⟨a, ha, rfl⟩ := rv
        have h : Got G w E (if k < w.μ.length then .ok (.cell k) (w'.μ.take w.μ.length) else match w'.μ[k]? with
          | some c => if own = true then (if c.st = 0 then .ok (.cell w.μ.length) (w'.μ.take w.μ.length ++ ([⟨0, c.xs⟩] : List Cell)) else .no) else .ok (.lst c.xs) (w'.μ.take w.μ.length)
          | none => .no) (RV G) Q := h
        split at h
        · rename_i hk
          exact gen h ⟨a, by show (w'.cs.take w.μ.length)[k]? = _; rw [List.getElem?_take, if_pos hk]; exact ha, rfl⟩
        · rename_i hk
          split at h
          · rename_i c hc
            split at h
            · split at h
              · rename_i st0
                have hc0 : w'.μ[k]? = some ⟨0, c.xs⟩ := by
                  rw [hc]
                  obtain ⟨st, xs⟩ := c
                  cases st0
                  rfl
                refine hrt _ _ (h { w' with cs := w'.cs.take w.μ.length ++ [a], μ := w'.μ.take w.μ.length ++ [⟨0, c.xs⟩] } (.ref a) rfl (own_ok2 ok' (by omega) ha hc0) (own_ev2 ok ok' e' (by omega) ha) ⟨a, ?_, rfl⟩)
                show (w'.cs.take w.μ.length ++ [a])[w.μ.length]? = some a
                have hl : (w'.cs.take w.μ.length).length = w.μ.length := by
                  have := (List.getElem?_eq_some_iff.mp ha).1
                  rw [List.length_take]
                  omega
                rw [List.getElem?_append_right (by omega), hl, Nat.sub_self]
                rfl
              · exact h.elim
            · obtain ⟨a2, vs, h1, h2, h3, h4⟩ := ok'.cell k c hc
              rw [ha] at h1
              cases h1
              refine hrt _ _ (h { w'.cut w.μ.length with F := fun b => w'.F b ∨ b = a } (.ref a) rfl (give_ok ok' (by omega) ha hc) (give_ev ok ok' e' (by omega) ha) ?_)
              exact Rp.lst ⟨.inr rfl, h2⟩ (h3.mono (fun _ _ z => z) (fun _ _ z => ⟨.inl z.1, z.2⟩) fun _ _ _ z => z)
          · exact h.elim
      | _ => exact gen h rv
end
end DL
/-! DLk: the table of defs. -/
namespace DL
open PySem PySem.Spec PyProof.Rows L2
/-- a def of the text, and how it is read: its names (parameters first), the parameters, the names whose lists are changed, whether its list is the caller's own -/
structure TD where
  d : He.DefD
  N : List Str
  ps : List Str
  mu : List Str := []
  own : Bool := false
  fz : List Str := []
def fsB (N ps : List Str) (sc : Scope) : Bool :=
  decide (sc.kind = .function) && (!sc.isCoroutine && (!sc.isGenerator && (decide N.Nodup && (decide (N.take ps.length = ps) && (ps.all (fun x => decide (sc.names.lookup x = some .local ∨ sc.names.lookup x = some .cell)) && sc.names.all fun y => decide (y.2 ≠ .free))))))
theorem fsB_ok {N ps : List Str} {sc : Scope} (h : fsB N ps sc = true) : FnScope N ps sc := by
  unfold fsB at h
  simp only [Bool.and_eq_true, decide_eq_true_eq, Bool.not_eq_true', List.all_eq_true] at h
  obtain ⟨h1, h2, h3, h4, h5, h6, h7⟩ := h
  exact ⟨h1, h2, h3, h4, h5, h6, h7⟩
def argB (a : Arguments) (ps : List Str) : Bool :=
  (match a.posonlyargs, a.vararg, a.kwonlyargs, a.kwarg with
    | [], none, [], none => true
    | _, _, _, _ => false) && decide (a.args.map (·.arg) = ps)
def cF (nm : Nm) (t : TD) : Option Fn := guardO (fsB t.N t.ps t.d.scope && argB t.d.params t.ps && t.d.dfl.isEmpty && t.d.kwd.isEmpty)
  ((cSs nm 1000 ⟨t.N, t.d.scope, fun _ => true, t.mu, t.own, t.fz, []⟩ t.d.body).map fun s => ⟨t.ps.length, t.N.length, t.own, s⟩)
def cFs (nm : Nm) : List TD → Option (List Fn)
  | [] => some []
  | t :: ts => (cF nm t).bind fun f => (cFs nm ts).map fun fs => f :: fs
theorem cFs_get {nm : Nm} : ∀ {ts : List TD} {fs : List Fn}, cFs nm ts = some fs → ∀ (i : Nat) (t : TD), ts[i]? = some t → ∃ f, fs[i]? = some f ∧ cF nm t = some f
  | [], _, _, i, t, e => by simp at e
  | t0 :: ts, fs, h, i, t, e => by
    obtain ⟨f, h1, h⟩ := Option.bind_eq_some_iff.mp (show (cF nm t0).bind _ = some fs from h)
    obtain ⟨fs2, h2, rfl⟩ := Option.map_eq_some_iff.mp h
    cases i with
    | zero => exact ⟨f, rfl, by cases e; exact h1⟩
    | succ i => exact cFs_get h2 i t (by simpa using e)
/-! ### arguments -/
theorem lookup_zip {β : Type} : ∀ {ps : List Str} {us : List β} (x : Str), us.length = ps.length → x ∈ ps → ∃ u, (ps.zip us).lookup x = some u
  | p :: ps, [], x, h, _ => by cases h
  | p :: ps, u :: us, x, h, hx => by
    rw [List.zip_cons_cons, List.lookup_cons]
    split
    · exact ⟨u, rfl⟩
    · rename_i ne
      cases hx with
      | head => simp at ne
      | tail _ hx => exact lookup_zip x (by simpa using h) hx
theorem fm_congr {α β : Type} {f g : α → Option β} : ∀ {l : List α}, (∀ a ∈ l, f a = g a) → l.filterMap f = l.filterMap g
  | [], _ => rfl
  | x :: l, h => by
    rw [List.filterMap_cons, List.filterMap_cons, h x (List.mem_cons_self ..), fm_congr fun a ha => h a (List.mem_cons_of_mem _ ha)]
theorem fm_zip {β : Type} : ∀ {ps : List Str} {us : List β}, ps.Nodup → us.length = ps.length → (ps.filterMap fun n => ((ps.zip us).lookup n).map (n, ·)) = ps.zip us
  | [], _, _, _ => rfl
  | p :: ps, [], _, h => by cases h
  | p :: ps, u :: us, nd, h => by
    rw [List.nodup_cons] at nd
    rw [List.zip_cons_cons, List.filterMap_cons]
    have e : List.lookup p ((p, u) :: ps.zip us) = some u := by rw [List.lookup_cons]; simp
    rw [e]
    show (p, u) :: _ = _
    congr 1
    rw [← fm_zip (ps := ps) (us := us) nd.2 (by simpa using h)]
    refine fm_congr fun n hn => ?_
    rw [fm_zip (ps := ps) (us := us) nd.2 (by simpa using h), List.lookup_cons]
    split
    · rename_i e
      have : n = p := by simpa using e
      exact absurd (this ▸ hn) nd.1
    · rfl
theorem bind_plain {x qual : Str} {a : Arguments} {ps : List Str} {body : List Stmt} {scope : Scope} {kV doc pm : Value} {an : Option Addr} {cdv ct : Value} {us : List Value} (h : argB a ps = true) (nd : ps.Nodup) (hl : us.length = ps.length) :
    bindArgs (PySem.W.fnOf x qual a body scope .none kV doc pm an cdv ct) ⟨us, []⟩ = pure (ps.zip us) := by
  unfold argB at h
  rw [Bool.and_eq_true, decide_eq_true_eq] at h
  obtain ⟨h1, h2⟩ := h
  obtain ⟨po, ar, va, ko, kd, kw, df⟩ := a
  dsimp only at h1 h2
  split at h1
  · have hm : (List.filter (fun n => (List.lookup n (ps.zip us)).isNone) ps) = [] := by
      rw [List.filter_eq_nil_iff]
      intro n hn
      obtain ⟨u, e⟩ := lookup_zip n hl hn
      rw [e]
      simp
    unfold bindArgs
    simp [PySem.W.fnOf, h2, seqItems?, notAStandIn, hl, hm, fm_zip nd hl]
  · cases h1
end DL
/-! DLl: the defs keep their promises. -/
namespace DL
open PySem PySem.Spec PyProof.Rows L2
theorem RVL.getE {G : Gr} {w : Wd} : ∀ {ds : List D} {vs : List V} (i : Nat) {d : D}, RVL G w ds vs → ds[i]? = some d → ∃ v, vs[i]? = some v ∧ RV G w d v
  | _, _, _, _, .nil, e => by simp at e
  | _, _, 0, d, .cons h _, e => by simp at e; subst e; exact ⟨_, rfl, h⟩
  | _, _, i + 1, d, .cons _ r, e => by
    obtain ⟨v, h1, h2⟩ := RVL.getE i (d := d) r (by simpa using e)
    exact ⟨v, by simpa using h1, h2⟩
theorem srel_start {G : Gr} {w : Wd} {ds : List D} {vs : List V} {N : List Str} {n : Nat} (r : RVL G w ds vs) (hn : n = N.length - vs.length) : SRel G w (ds.map some ++ List.replicate n none) (L2.start N vs) := by
  have hl := r.length
  subst hn
  refine ⟨?_, fun i d e => ?_⟩
  · unfold L2.start
    rw [List.length_append, List.length_append, List.length_map, List.length_map, hl, List.length_replicate, List.length_replicate]
  · unfold L2.start
    by_cases hi : i < ds.length
    · rw [List.getElem?_append_left (by rw [List.length_map]; exact hi), List.getElem?_map] at e
      obtain ⟨d', h1, h2⟩ := Option.map_eq_some_iff.mp e
      cases h2
      obtain ⟨v, h3, h4⟩ := r.getE i h1
      exact ⟨v, by rw [List.getElem?_append_left (by rw [List.length_map, ← hl]; exact hi), List.getElem?_map, h3]; rfl, h4⟩
    · rw [List.getElem?_append_right (by rw [List.length_map]; omega), List.getElem?_replicate] at e
      split at e <;> cases e
/-- what is known of the heap behind the top -/
structure Txt (nm : Nm) (ts : List TD) (fs : List Fn) (G : Gr) (mg : Str → Option Value) : Prop where
  cmp : cFs nm ts = some fs
  fns : ∀ i x np, nm.fns[i]? = some (x, np) → ∃ t, ts[i]? = some t ∧ t.ps.length = np ∧ mg x = some (.ref (G.fa i))
  fun_ : ∀ i t, ts[i]? = some t → ∃ fd, FunD G.K t.d.name t.d.qual t.d.params t.d.body t.d.scope [] [] (G.fa i) fd
  free : ∀ x ∈ bltNames, mg x = none
  nums : ∀ x i, intAt x nm.nums = some i → ∃ t, mg x = some (.int i t)
  exc : ∀ c x, nm.excs[c]? = some x → mg x = some (.ref (G.ea c)) ∧ PySem.W.excIn G.K (G.ea c) He.veBase "ValueError.__new__" = true ∧ PySem.W.keepIn G.K (.ref (G.ea c)) = true ∧
    PySem.W.subIn G.K (.ref (G.ea c)) (.type "BaseException") = some true ∧ PySem.W.typeIn G.K (.ref (G.ea c)) = some (.type "type")
section
variable {nm : Nm} {ts : List TD} {fs : List Fn} {G : Gr} {mg : Str → Option Value} {P : Program} {w : World} {base : Heap}
theorem Txt.args (T : Txt nm ts fs G mg) {i : Nat} {t : TD} (h : ts[i]? = some t) : fsB t.N t.ps t.d.scope = true ∧ argB t.d.params t.ps = true := by
  obtain ⟨f, h1, h2⟩ := cFs_get T.cmp i t h
  obtain ⟨h3, _⟩ := guardO_some h2
  simp only [Bool.and_eq_true] at h3
  exact ⟨h3.1.1.1, h3.1.1.2⟩
theorem Txt.nd (T : Txt nm ts fs G mg) {i : Nat} {t : TD} (h : ts[i]? = some t) : t.ps.Nodup := by
  have S := fsB_ok (T.args h).1
  rw [← S.pre]
  exact List.Sublist.nodup (List.take_sublist _ _) S.nd
theorem Txt.binds (T : Txt nm ts fs G mg) {i : Nat} {t : TD} (h : ts[i]? = some t) {f : Addr} {fd : FuncData} (F : FunD G.K t.d.name t.d.qual t.d.params t.d.body t.d.scope [] [] f fd) : Binds G.K fd t.ps [] :=
  F.bindsN fun _ _ _ _ _ _ us hl => bind_plain (T.args h).2 (T.nd h) hl
theorem Txt.ok (T : Txt nm ts fs G mg) : ∀ (n i : Nat) (t : TD) (fd : FuncData), ts[i]? = some t → FunD G.K t.d.name t.d.qual t.d.params t.d.body t.d.scope [] [] (G.fa i) fd →
    FnOk P w G.K mg base (L2.CX P w) n (G.fa i) fd t.ps (spF G (run fs n) i t.ps.length) := by
  intro n
  induction n with
  | zero => exact fun i t fd _ _ => ⟨fun vs H Q E h => h.1, fun A outer s H args us vs Q E _ _ _ _ h => by
      obtain ⟨_, w', ds, _, _, _, z⟩ := h
      exact z.elim⟩
  | succ n ih =>
    intro i t fd ht F
    have S := fsB_ok (T.args ht).1
    obtain ⟨f, hf, hcf⟩ := cFs_get T.cmp i t ht
    obtain ⟨_, hcf⟩ := guardO_some hcf
    obtain ⟨body, hb, rfl⟩ := Option.map_eq_some_iff.mp hcf
    refine F.ok S (fun vs H Q E h => h.1) fun cdv A outer s H vs Q E hr h => ?_
    have gd : Gd G nm (run fs n) n E ⟨t.N, t.d.scope, fun _ => true, t.mu, t.own, t.fz, []⟩ (cxOf (L2.CX P w) P w G.K mg base t.N t.d.qual t.d.scope (G.fa i) cdv A outer s H E) :=
      { K := rfl, calm := rfl, nd := S.nd, N := rfl, sc := rfl, fb := fun _ _ => rfl, room := hr, tk := takes_of rfl rfl rfl rfl, free := T.free, nums := T.nums
        fns := fun j x np hj => by
          obtain ⟨u, hu, hl, hm⟩ := T.fns j x np hj
          obtain ⟨fd2, F2⟩ := T.fun_ j u hu
          subst hl
          exact ⟨⟨fd2, u.ps, rfl, ih j u fd2 hu F2, T.binds hu F2⟩, F2.kp, hm⟩
        exc := fun c x hx => by
          obtain ⟨h1, h2, h3, h4, h5⟩ := T.exc c x hx
          exact ⟨h1, h2, h3, raises_own h4 h5⟩ }
    refine ⟨tS G (run fs n) E body, (cS_ok gd (passes_of rfl) 1000).2 _ _ hb, ?_⟩
    obtain ⟨hl, w', ds, rfl, ok, rvl, got⟩ := h
    have hlen : ds.length = t.ps.length := rvl.length.trans hl
    have got : Got G w' E (match fs[i]? with
      | none => .no
      | some F => if ds.length = F.np then leave F.own w'.μ.length (exs (run fs n) F.body (ds.map some ++ List.replicate (F.ns - F.np) none) w'.μ) else .no) (RV G) Q := got
    rw [hf] at got
    have got : Got G w' E (if ds.length = t.ps.length then leave t.own w'.μ.length (exs (run fs n) body (ds.map some ++ List.replicate (t.N.length - t.ps.length) none) w'.μ) else .no) (RV G) Q := got
    rw [if_pos hlen] at got
    exact ⟨w', _, rfl, ok, srel_start rvl (by rw [hl]), leave_imp ok (fun _ _ z => z) (fun _ _ z => z) got⟩
end
end DL
/-! DLm: the law's promise. -/
namespace DL
open PySem PySem.Spec PyProof.Rows L2
def nmOf (ts : List TD) (nums : List (Str × Int)) (excs : List Str) : Nm := ⟨ts.map fun t => (t.d.name, t.ps.length), nums, excs⟩
def faOf (ts : List TD) (nums : List (Str × Int)) (excs : List Str) : List He.Fa :=
  ts.map (fun t => .glo t.d.name) ++ (bltNames.map .free ++ (nums.map (fun q => .int q.1 q.2) ++ (excs.map .exc ++ excs.map .glo)))
def grOf (K : PySem.W.Frag) (ts : List TD) (excs : List Str) : Gr where
  K := K
  fa := fun i => match ts[i]? with
    | some t => He.fAd K t.d.at_
    | none => 0
  ea := fun c => match excs[c]? with
    | some x => He.ga K x
    | none => 0
  J := fun _ => True
  jj := fun _ _ _ _ => trivial
def plainTs (ts : List TD) : Bool := ts.all fun t => decide (t.d.at_ = (t.d.name, none)) && t.d.dfl.isEmpty && t.d.kwd.isEmpty
theorem intAt_mem {x : Str} : ∀ {l : List (Str × Int)} {i : Int}, intAt x l = some i → (x, i) ∈ l
  | [], _, h => by cases h
  | (y, j) :: r, i, h => by
    unfold intAt at h
    split at h
    · rename_i e
      cases h
      have e : x = y := e
      rw [e]
      exact List.mem_cons_self ..
    · exact List.mem_cons_of_mem _ (intAt_mem (l := r) h)
theorem txt_of {ts : List TD} {fs : List Fn} {nums : List (Str × Int)} {excs : List Str} {K : PySem.W.Frag} {h : Heap} {mg : Str → Option Value} (X : K.In h) (N : h.Ns mainGlobals mg) (c : He.SaysD (faOf ts nums excs) (ts.map (·.d)) K) (hp : plainTs ts = true) (hc : cFs (nmOf ts nums excs) ts = some fs) :
    Txt (nmOf ts nums excs) ts fs (grOf K ts excs) mg := by
  have hp : ∀ t ∈ ts, t.d.at_ = (t.d.name, none) ∧ t.d.dfl = [] ∧ t.d.kwd = [] := fun t ht => by
    have := List.all_eq_true.mp hp t ht
    simp only [Bool.and_eq_true, decide_eq_true_eq, List.isEmpty_iff] at this
    exact ⟨this.1.1, this.1.2, this.2⟩
  refine ⟨hc, fun i x np hi => ?_, fun i t ht => ?_, fun x hx => ?_, fun x i hi => ?_, fun e x hx => ?_⟩
  · have hi : (ts.map fun t => (t.d.name, t.ps.length))[i]? = some (x, np) := hi
    rw [List.getElem?_map] at hi
    obtain ⟨t, ht, e⟩ := Option.map_eq_some_iff.mp hi
    cases e
    have hm := List.mem_of_getElem? ht
    refine ⟨t, ht, rfl, ?_⟩
    have q := He.glo_ok X N (c.facts (f := .glo t.d.name) (List.mem_append_left _ (List.mem_map.mpr ⟨t, hm, rfl⟩)))
    rw [q]
    show some (Value.ref _) = some (Value.ref (match ts[i]? with
      | some t => He.fAd K t.d.at_
      | none => 0))
    rw [ht]
    show some (Value.ref _) = some (Value.ref (He.fAd K t.d.at_))
    rw [(hp t hm).1]
    rfl
  · have hm := List.mem_of_getElem? ht
    obtain ⟨fd, F⟩ := c.def_ i (d := t.d) (by rw [List.getElem?_map, ht]; rfl)
    have e1 : t.d.dvs K = [] := by unfold He.DefD.dvs; rw [(hp t hm).2.1]; rfl
    have e2 : t.d.kws K = [] := by unfold He.DefD.kws; rw [(hp t hm).2.2]; rfl
    rw [e1, e2] at F
    refine ⟨fd, ?_⟩
    show FunD K _ _ _ _ _ _ _ (match ts[i]? with
      | some t => He.fAd K t.d.at_
      | none => 0) fd
    rw [ht]
    exact F
  · exact He.free_ok X N (c.facts (f := .free x) (List.mem_append_right _ (List.mem_append_left _ (List.mem_map.mpr ⟨x, hx, rfl⟩))))
  · exact He.int_ok X N (c.facts (f := .int x i) (List.mem_append_right _ (List.mem_append_right _ (List.mem_append_left _ (List.mem_map.mpr ⟨(x, i), intAt_mem hi, rfl⟩)))))
  · have hm := List.mem_of_getElem? hx
    have q := He.glo_ok X N (c.facts (f := .glo x) (List.mem_append_right _ (List.mem_append_right _ (List.mem_append_right _ (List.mem_append_right _ (List.mem_map.mpr ⟨x, hm, rfl⟩))))))
    obtain ⟨h1, h2, h3, h4⟩ := He.exc_ok (c.facts (f := .exc x) (List.mem_append_right _ (List.mem_append_right _ (List.mem_append_right _ (List.mem_append_left _ (List.mem_map.mpr ⟨x, hm, rfl⟩))))))
    have e : (grOf K ts excs).ea e = He.ga K x := by
      show (match excs[e]? with
        | some x => He.ga K x
        | none => 0) = _
      have hx : excs[e]? = some x := hx
      rw [hx]
    rw [e]
    exact ⟨q, h1, h2, h3, h4⟩
/-- the law's own def -/
theorem law_sp {ts : List TD} {fs : List Fn} {excs : List Str} {K : PySem.W.Frag} {k i : Nat} {H : Hp} {a : Addr} {ns : List Int} (hO : Only H) (hS : SqL K H a (ns.map V.int)) (ht : isTrueR (run fs k i [.scr ns] []) = true) :
    spF (grOf K ts excs) (run fs k) i 1 [.ref a] H (fun v _ => v = .bl true) fun _ _ _ => False := by
  refine ⟨rfl, ⟨fun _ => False, [], [], H⟩, [.scr ns], rfl, ⟨rfl, List.nodup_nil, fun k c h => by simp at h, fun a z => z.elim, trivial⟩, .cons (Rp.scr ?_) .nil, ?_⟩
  · rcases hS with hS | hS
    · rcases hS with hS | hS
      · rcases hO a with z | ⟨o, xs, z⟩
        · rw [z] at hS; cases hS
        · rw [z] at hS; cases hS
      · exact .inl hS
    · exact .inr hS
  · show Got (grOf K ts excs) _ _ (run fs k i [.scr ns] []) _ _
    cases q : run fs k i [.scr ns] [] with
    | no => rw [q] at ht; cases ht
    | ex e μ => rw [q] at ht; cases ht
    | ok d μ =>
      rw [q] at ht
      cases d with
      | bl b =>
        cases b with
        | true => exact fun w' b m ok' e' rv => by cases rv; rfl
        | false => cases ht
      | _ => cases ht
theorem walk_dl {l : PySem.W.OpenLaw} {n k li : Nat} {q : Program} {loose : List Str} {XP : (Str → Option Value) → Heap → Prop} {d : DefRec} {x : Str} {ts : List TD} {fs : List Fn} {nums : List (Str × Int)} {excs : List Str} {t : TD}
    (hn : l.most = some n) (hn2 : n ≤ sizeLine) (hdf : d.params.defaults = []) (hr : Room k callerA) (hp : plainTs ts = true) (hc : cFs (nmOf ts nums excs) ts = some fs) (hl : ts[li]? = some t) (hx : t.ps = [x]) (hnm : t.d.name = d.name)
    (plain : ∀ ns : List Int, ns.length ≤ n → (∀ k ∈ ns, Builtin.Int.intBits k ≤ 1048576) → isTrueR (run fs k li [.scr ns] []) = true) :
    PySem.W.WalkO q loose XP (fun _ h => ∃ K : PySem.W.Frag, K.In h ∧ He.SaysD (faOf ts nums excs) (ts.map (·.d)) K) l.row.toRowW d [] (fun f vs => PySem.call f vs) := by
  refine Att.attach_callB hn hdf fun w s₀ s₁ mg mb fa o pm cd doc a vs ns G Y ho hd hcd hmg hobj hints hlen hbits hg => ?_
  obtain ⟨K, KX, c⟩ := Y
  have T := txt_of KX G.T.g c hp hc
  obtain ⟨fd, F⟩ := T.fun_ li t hl
  have e : mg d.name = some (.ref ((grOf K ts excs).fa li)) := by
    obtain ⟨t2, h2, _, h3⟩ := T.fns li t.d.name t.ps.length (by show (ts.map fun t => (t.d.name, t.ps.length))[li]? = _; rw [List.getElem?_map, hl]; rfl)
    rw [← hnm]
    exact h3
  rw [e] at hmg
  cases hmg
  have hb : ∀ (s : Shared) (u : Value), BindsTo s fd ⟨[u], []⟩ [(x, u)] := fun s u => by
    have := FunD.bindsA F (ps := t.ps) (fun _ _ _ _ _ _ us hl2 => bind_plain (T.args hl).2 (T.nd hl) hl2) s [u] (by rw [hx]; rfl)
    rw [hx] at this
    exact this
  have hF : ∀ base : Heap, K.In base → base.Ns mainGlobals mg → FnOk l.prog w K mg base (L2.CX l.prog w) k ((grOf K ts excs).fa li) fd [x] (spF (grOf K ts excs) (run fs k) li 1) := fun base _ _ => by
    have z := T.ok (P := l.prog) (w := w) (base := base) k li t fd hl F
    rw [hx] at z
    exact z
  exact law_call KX G.T.g G.T.b G.T.builtins G.T.nolimit hg hobj hints (Nat.le_trans hlen hn2) hr hF hb (fun H hO hS => law_sp hO hS (plain ns hlen hbits)) fun H e s' ⟨_, _, _, _, _, _, _, _, _, _, _, _, z⟩ => z.elim
end DL
set_option maxHeartbeats 0
namespace Tab
open PySem PySem.Spec PyProof.Rows L2 DL
def top (i : Nat) : Stmt := PySem.Challenge.pw_walkstrides_k80_whole_growing_walks.main.body.getD i (.Pass ⟨0, 0, 0, 0⟩)
def dd (x : Str) (i : Nat) : He.DefD := ⟨(x, none), x, x, defArgs (top i), defBody (top i), defScope (top i), [], []⟩
def t_0 : TD := ⟨dd "is_integer" 5, ["value"], ["value"], [], false, []⟩
def t_1 : TD := ⟨dd "is_number" 6, ["value", "low", "high"], ["value", "low", "high"], [], false, []⟩
def t_2 : TD := ⟨dd "need_number" 7, ["value", "low", "high"], ["value", "low", "high"], [], false, []⟩
def t_3 : TD := ⟨dd "is_tuple_of" 8, ["value", "low", "high"], ["value", "low", "high"], [], false, []⟩
def t_4 : TD := ⟨dd "number_in" 12, ["sizes", "found", "size"], ["sizes"], [], false, []⟩
def t_5 : TD := ⟨dd "fits_form" 16, ["value", "own"], ["value"], [], false, []⟩
def t_6 : TD := ⟨dd "fits_size" 17, ["value"], ["value"], [], false, []⟩
def t_7 : TD := ⟨dd "fits_growing_shape" 18, ["value", "own", "size"], ["value"], [], false, []⟩
def t_8 : TD := ⟨dd "fits_growing" 19, ["value", "pair", "size", "step"], ["value"], [], false, []⟩
def t_9 : TD := ⟨dd "lean" 20, ["row", "most"], ["row"], [], false, []⟩
def t_10 : TD := ⟨dd "added" 21, ["one", "other", "most", "first", "second", "own", "far"], ["one", "other"], [], false, []⟩
def t_11 : TD := ⟨dd "scaled" 22, ["form", "number", "own"], ["form", "number"], [], false, []⟩
def t_12 : TD := ⟨dd "value_of" 23, ["form", "m", "found", "own"], ["form", "m"], [], false, []⟩
def t_13 : TD := ⟨dd "size_at" 24, ["size", "m"], ["size", "m"], [], false, []⟩
def t_14 : TD := ⟨dd "product_of" 25, ["sizes", "size"], ["sizes"], [], false, []⟩
def t_15 : TD := ⟨dd "walk_in" 26, ["growing", "m", "begin", "pairs", "size", "step"], ["growing", "m"], [], false, []⟩
def t_16 : TD := ⟨dd "sign_at" 27, ["form", "m", "found"], ["form", "m"], [], false, []⟩
def t_17 : TD := ⟨dd "gaps_of" 28, ["form", "own", "found", "line"], ["form"], [], false, []⟩
def t_18 : TD := ⟨dd "changes_in" 29, ["form", "low", "high", "found", "here", "same", "other", "middle"], ["form", "low", "high"], ["found"], false, ["found"]⟩
def t_19 : TD := ⟨dd "turns_in" 30, ["form", "high", "begins", "found", "low", "far", "own"], ["form", "high"], ["found"], false, ["found"]⟩
def t_20 : TD := ⟨dd "roots_in" 31, ["form", "high", "found", "low", "here", "own"], ["form"], ["found"], false, ["found"]⟩
def t_21 : TD := ⟨dd "need_growing" 32, ["value"], ["value"], [], false, []⟩
def t_22 : TD := ⟨dd "need_value" 33, ["value"], ["value"], [], false, []⟩
def t_23 : TD := ⟨dd "is_form" 34, ["value"], ["value"], [], false, []⟩
def t_24 : TD := ⟨dd "is_growing_shape" 35, ["value"], ["value"], [], false, []⟩
def t_25 : TD := ⟨dd "is_growing" 36, ["value"], ["value"], [], false, []⟩
def t_26 : TD := ⟨dd "growing_number" 37, ["growing", "size", "step"], ["growing"], [], false, []⟩
def t_27 : TD := ⟨dd "growing_at" 38, ["growing", "m"], ["growing", "m"], [], false, []⟩
def t_28 : TD := ⟨dd "form_at" 39, ["form", "m"], ["form", "m"], [], false, []⟩
def t_29 : TD := ⟨dd "roots_of" 40, ["form"], ["form"], [], false, []⟩
def t_30 : TD := ⟨dd "_law_cup" 42, ["script", "cell"], ["script"], [], true, []⟩
def t_31 : TD := ⟨dd "_law_roll" 43, ["cup", "many", "deep", "found"], ["cup", "many"], ["cup"], false, []⟩
def t_32 : TD := ⟨dd "_law_some" 44, ["cup", "things"], ["cup", "things"], ["cup"], false, []⟩
def t_33 : TD := ⟨dd "_law_sort" 45, ["value"], ["value"], [], false, []⟩
def t_34 : TD := ⟨dd "_law_like" 46, ["one", "other", "sort", "first", "second"], ["one", "other"], [], false, []⟩
def t_35 : TD := ⟨dd "_law_number" 47, ["sizes", "found", "size"], ["sizes"], [], false, []⟩
def t_36 : TD := ⟨dd "_law_sizes" 48, ["cup", "most", "found", "turn", "size"], ["cup", "most"], ["cup", "found"], false, ["found"]⟩
def t_37 : TD := ⟨dd "_law_value" 49, ["form", "m", "at", "own"], ["form", "m"], [], false, []⟩
def t_38 : TD := ⟨dd "_law_power" 50, ["number", "times", "found", "turn"], ["number", "times"], [], false, []⟩
def t_39 : TD := ⟨dd "_law_lean" 51, ["row", "most", "at", "own"], ["row"], [], false, []⟩
def t_40 : TD := ⟨dd "_law_form" 52, ["cup", "most", "at"], ["cup", "most"], ["cup"], false, []⟩
def t_41 : TD := ⟨dd "_law_times" 53, ["form", "size", "own"], ["form", "size"], [], false, []⟩
def t_42 : TD := ⟨dd "_law_growing" 54, ["cup", "most", "sizes", "pairs", "size", "at", "step", "further"], ["cup", "most"], ["cup", "pairs", "sizes"], false, ["pairs", "sizes"]⟩
def t_43 : TD := ⟨dd "_law_at" 55, ["growing", "m", "pairs", "size", "step"], ["growing", "m"], [], false, []⟩
def t_44 : TD := ⟨dd "_law_product" 56, ["roots", "factor", "found", "root", "line", "low", "own", "far"], ["roots", "factor"], [], false, []⟩
def t_45 : TD := ⟨dd "_law_roots_right" 57, ["cup", "roots", "form", "bent", "drawn", "found", "turn", "m", "own"], ["cup"], ["cup"], false, []⟩
def t_46 : TD := ⟨dd "_law_walk_right" 58, ["cup", "growing", "m", "number", "shape", "grows", "odd", "form", "begin", "pairs", "own", "size", "step"], ["cup"], ["cup"], false, []⟩
def t_47 : TD := ⟨dd "_law_written_right" 59, ["a", "told", "due"], [], ["told"], false, ["told"]⟩
def t_48 : TD := ⟨dd "law" 60, ["script", "cup", "turn"], ["script"], ["cup"], false, []⟩
def ts_0 : List TD := [t_0, t_1, t_2, t_3, t_4, t_5, t_6, t_7, t_8, t_9, t_10, t_11, t_12, t_13, t_14, t_15, t_16, t_17, t_18, t_19, t_20, t_21, t_22, t_23]
def ts_1 : List TD := [t_24, t_25, t_26, t_27, t_28, t_29, t_30, t_31, t_32, t_33, t_34, t_35, t_36, t_37, t_38, t_39, t_40, t_41, t_42, t_43, t_44, t_45, t_46, t_47]
def ts_2 : List TD := [t_48]
def ts : List TD := ts_0 ++ ts_1 ++ ts_2
def nums_0 : List (Str × Int) := [(("MOST_PAIRS" : Str), (16)), (("MOST_PLACES" : Str), (5000)), (("MOST_FORM" : Str), (4)), (("MOST_VALUE" : Str), (1000000000))]
def nums : List (Str × Int) := nums_0
def excs_0 : List Str := [("StrideError" : Str), ("InvalidNumber" : Str), ("InvalidWalk" : Str)]
def excs : List Str := excs_0
def loose_0 : List PySem.Str := [("is_integer" : PySem.Str), ("is_number" : PySem.Str), ("need_number" : PySem.Str), ("is_tuple_of" : PySem.Str), ("number_in" : PySem.Str), ("fits_form" : PySem.Str), ("fits_size" : PySem.Str), ("fits_growing_shape" : PySem.Str), ("fits_growing" : PySem.Str), ("lean" : PySem.Str), ("added" : PySem.Str), ("scaled" : PySem.Str), ("value_of" : PySem.Str), ("size_at" : PySem.Str), ("product_of" : PySem.Str), ("walk_in" : PySem.Str), ("sign_at" : PySem.Str), ("gaps_of" : PySem.Str), ("changes_in" : PySem.Str), ("turns_in" : PySem.Str), ("roots_in" : PySem.Str), ("need_growing" : PySem.Str), ("need_value" : PySem.Str), ("is_form" : PySem.Str)]
def loose_1 : List PySem.Str := [("is_growing_shape" : PySem.Str), ("is_growing" : PySem.Str), ("growing_number" : PySem.Str), ("growing_at" : PySem.Str), ("form_at" : PySem.Str), ("roots_of" : PySem.Str), ("_law_cup" : PySem.Str), ("_law_roll" : PySem.Str), ("_law_some" : PySem.Str), ("_law_sort" : PySem.Str), ("_law_like" : PySem.Str), ("_law_number" : PySem.Str), ("_law_sizes" : PySem.Str), ("_law_value" : PySem.Str), ("_law_power" : PySem.Str), ("_law_lean" : PySem.Str), ("_law_form" : PySem.Str), ("_law_times" : PySem.Str), ("_law_growing" : PySem.Str), ("_law_at" : PySem.Str), ("_law_product" : PySem.Str), ("_law_roots_right" : PySem.Str), ("_law_walk_right" : PySem.Str), ("_law_written_right" : PySem.Str)]
def loose_2 : List PySem.Str := [("MOST_PAIRS" : PySem.Str), ("MOST_PLACES" : PySem.Str), ("MOST_FORM" : PySem.Str), ("MOST_VALUE" : PySem.Str), ("StrideError" : PySem.Str), ("InvalidNumber" : PySem.Str), ("InvalidWalk" : PySem.Str)]
def loose : List PySem.Str := loose_0 ++ loose_1 ++ loose_2
def nm : Nm := nmOf ts nums excs
def fa : List He.Fa := faOf ts nums excs
def fn : List He.DefD := ts.map (·.d)
abbrev R : PySem.W.OpenRow := PySem.W.OpenLaw.row PySem.Challenge.rw_walkstrides_k80_whole_growing_walks
abbrev hk : PySem.W.Hook := He.hookD 4 fa fn
def ob (s : PySem.W.SharedT) : He.AlD := He.obsDG 4 fa fn (HandSHeadRun.getT s)
theorem ob_eq (s : PySem.W.SharedT) : ob s = hk.obs s.abs := He.obsDG_eq (HandSHeadRun.getT_eq s)
/-! ROWS -/
end Tab
namespace Tab
open PySem DL
def f_0 : Fn := ⟨1, 1, false, (.ret (.and (.isi (.var 0) "int") (.not (.isi (.var 0) "bool"))))⟩
def f_1 : Fn := ⟨3, 3, false, (.ret (.and (.call 0 (.cs (.var 0) .nl)) (.chn .LtE .LtE (.var 1) (.var 0) (.var 2))))⟩
def f_2 : Fn := ⟨3, 3, false, (.ife (.not (.call 1 (.cs (.var 0) (.cs (.var 1) (.cs (.var 2) .nl))))) (.rse 1) .skip)⟩
def f_3 : Fn := ⟨3, 3, false, (.ret (.and (.isi (.var 0) "tuple") (.chn .LtE .LtE (.var 1) (.bi .len (.cs (.var 0) .nl)) (.var 2))))⟩
def f_4 : Fn := ⟨1, 3, false, (.seq (.set (.var 1) (.int (1))) (.seq (.loop (.var 2) (.one (.var 0)) (.set (.var 1) (.bin .Mult (.var 1) (.var 2)))) (.ret (.var 1))))⟩
def f_5 : Fn := ⟨1, 2, false, (.seq (.ife (.or (.not (.call 3 (.cs (.var 0) (.cs (.int (0)) (.cs (.int (4)) .nl))))) (.not (.bi .all (.cs (.comp [1] (.call 0 (.cs (.var 1) .nl)) (.var 1) (.one (.var 0)) .nl) .nl)))) (.ret (.bl false)) .skip) (.ret (.or (.cmp .Eq (.var 0) (.tup .nl)) (.cmp .NotEq (.idx (.var 0) (.neg (.int (1)))) (.int (0))))))⟩
def f_6 : Fn := ⟨1, 1, false, (.ret (.and (.call 3 (.cs (.var 0) (.cs (.int (2)) (.cs (.int (2)) .nl)))) (.and (.call 1 (.cs (.idx (.var 0) (.int (0))) (.cs (.int (1)) (.cs (.int (5000)) .nl)))) (.call 1 (.cs (.idx (.var 0) (.int (1))) (.cs (.int (0)) (.cs (.int (1)) .nl)))))))⟩
def f_7 : Fn := ⟨1, 3, false, (.seq (.ife (.or (.not (.call 3 (.cs (.var 0) (.cs (.int (0)) (.cs (.int (16)) .nl))))) (.not (.bi .all (.cs (.comp [1] (.call 6 (.cs (.var 1) .nl)) (.var 1) (.one (.var 0)) .nl) .nl)))) (.ret (.bl false)) .skip) (.ret (.and (.cmp .LtE (.bi .sum (.cs (.comp [2] (.idx (.var 2) (.int (1))) (.var 2) (.one (.var 0)) .nl) .nl)) (.int (1))) (.cmp .LtE (.call 4 (.cs (.comp [2] (.idx (.var 2) (.int (0))) (.var 2) (.one (.var 0)) .nl) .nl)) (.int (5000))))))⟩
def f_8 : Fn := ⟨1, 4, false, (.seq (.ife (.or (.not (.call 3 (.cs (.var 0) (.cs (.int (2)) (.cs (.int (2)) .nl))))) (.or (.not (.call 5 (.cs (.idx (.var 0) (.int (0))) .nl))) (.not (.call 3 (.cs (.idx (.var 0) (.int (1))) (.cs (.int (0)) (.cs (.int (16)) .nl))))))) (.ret (.bl false)) .skip) (.seq (.ife (.not (.bi .all (.cs (.comp [1] (.and (.call 3 (.cs (.var 1) (.cs (.int (2)) (.cs (.int (2)) .nl)))) (.call 5 (.cs (.idx (.var 1) (.int (1))) .nl))) (.var 1) (.one (.idx (.var 0) (.int (1)))) .nl) .nl))) (.ret (.bl false)) .skip) (.ret (.call 7 (.cs (.bi .tuple (.cs (.comp [2, 3] (.var 2) (.tup (.cs (.var 2) (.cs (.var 3) .nl))) (.one (.idx (.var 0) (.int (1)))) .nl) .nl)) .nl)))))⟩
def f_9 : Fn := ⟨1, 2, false, (.seq (.set (.var 1) (.bi .len (.cs (.var 0) .nl))) (.seq (.whl (.and (.cmp .Gt (.var 1) (.int (0))) (.cmp .Eq (.idx (.var 0) (.bin .Sub (.var 1) (.int (1)))) (.int (0)))) (.set (.var 1) (.bin .Sub (.var 1) (.int (1))))) (.ret (.bi .tuple (.cs (.slc (.var 0) .nl (.one (.var 1))) .nl)))))⟩
def f_10 : Fn := ⟨2, 7, false, (.seq (.set (.var 2) (.bi .max2 (.cs (.bi .len (.cs (.var 0) .nl)) (.cs (.bi .len (.cs (.var 1) .nl)) .nl)))) (.seq (.par [3, 4] (.cs (.bin .Add (.var 0) (.bin .Mult (.tup (.cs (.int (0)) .nl)) (.bin .Sub (.var 2) (.bi .len (.cs (.var 0) .nl))))) (.cs (.bin .Add (.var 1) (.bin .Mult (.tup (.cs (.int (0)) .nl)) (.bin .Sub (.var 2) (.bi .len (.cs (.var 1) .nl))))) .nl))) (.ret (.call 9 (.cs (.comp [5, 6] (.bin .Add (.var 5) (.var 6)) (.tup (.cs (.var 5) (.cs (.var 6) .nl))) (.zp (.var 3) (.var 4)) .nl) .nl)))))⟩
def f_11 : Fn := ⟨2, 3, false, (.ret (.call 9 (.cs (.comp [2] (.bin .Mult (.var 2) (.var 1)) (.var 2) (.one (.var 0)) .nl) .nl)))⟩
def f_12 : Fn := ⟨2, 4, false, (.seq (.set (.var 2) (.int (0))) (.seq (.loop (.var 3) (.one (.sls (.var 0) (.int (-1)))) (.set (.var 2) (.bin .Add (.bin .Mult (.var 2) (.var 1)) (.var 3)))) (.ret (.var 2))))⟩
def f_13 : Fn := ⟨2, 2, false, (.ret (.ife (.cmp .Eq (.idx (.var 0) (.int (1))) (.int (1))) (.bin .Mult (.idx (.var 0) (.int (0))) (.var 1)) (.idx (.var 0) (.int (0)))))⟩
def f_14 : Fn := ⟨1, 2, false, (.ret (.tup (.cs (.call 4 (.cs (.comp [1] (.idx (.var 1) (.int (0))) (.var 1) (.one (.var 0)) .nl) .nl)) (.cs (.bi .sum (.cs (.comp [1] (.idx (.var 1) (.int (1))) (.var 1) (.one (.var 0)) .nl) .nl)) .nl))))⟩
def f_15 : Fn := ⟨2, 6, false, (.seq (.set (.tup (.cs (.var 2) (.cs (.var 3) .nl))) (.var 0)) (.ret (.tup (.cs (.call 12 (.cs (.var 2) (.cs (.var 1) .nl))) (.cs (.bi .tuple (.cs (.comp [4, 5] (.tup (.cs (.call 13 (.cs (.var 4) (.cs (.var 1) .nl))) (.cs (.call 12 (.cs (.var 5) (.cs (.var 1) .nl))) .nl))) (.tup (.cs (.var 4) (.cs (.var 5) .nl))) (.one (.var 3)) .nl) .nl)) .nl)))))⟩
def f_16 : Fn := ⟨2, 3, false, (.seq (.set (.var 2) (.call 12 (.cs (.var 0) (.cs (.var 1) .nl)))) (.ret (.ife (.cmp .Lt (.var 2) (.int (0))) (.neg (.int (1))) (.ife (.cmp .Gt (.var 2) (.int (0))) (.int (1)) (.int (0))))))⟩
def f_17 : Fn := ⟨1, 4, false, (.seq (.set (.tup (.cs (.var 2) (.cs (.var 3) .nl))) (.tup (.cs (.tup .nl) (.cs (.tup (.cs (.int (1)) .nl)) .nl)))) (.seq (.loop (.var 1) (.one (.var 0)) (.seq (.set (.var 2) (.call 10 (.cs (.var 2) (.cs (.call 11 (.cs (.var 3) (.cs (.var 1) .nl))) .nl)))) (.set (.var 3) (.call 10 (.cs (.var 3) (.cs (.bin .Add (.tup (.cs (.int (0)) .nl)) (.var 3)) .nl)))))) (.ret (.call 10 (.cs (.var 2) (.cs (.call 11 (.cs (.var 0) (.cs (.neg (.int (1))) .nl))) .nl))))))⟩
def f_18 : Fn := ⟨3, 8, false, (.seq (.par [3, 4] (.cs (.new (.lst .nl)) (.cs (.var 1) .nl))) (.seq (.whl (.cmp .NotEq (.call 16 (.cs (.var 0) (.cs (.var 4) .nl))) (.call 16 (.cs (.var 0) (.cs (.var 2) .nl)))) (.seq (.par [5, 6] (.cs (.var 4) (.cs (.var 2) .nl))) (.seq (.whl (.cmp .Gt (.bin .Sub (.var 6) (.var 5)) (.int (1))) (.seq (.set (.var 7) (.bin .FloorDiv (.bin .Add (.var 5) (.var 6)) (.int (2)))) (.set (.tup (.cs (.var 5) (.cs (.var 6) .nl))) (.ife (.cmp .Eq (.call 16 (.cs (.var 0) (.cs (.var 7) .nl))) (.call 16 (.cs (.var 0) (.cs (.var 4) .nl)))) (.tup (.cs (.var 7) (.cs (.var 6) .nl))) (.tup (.cs (.var 5) (.cs (.var 7) .nl))))))) (.seq (.app 3 (.var 5)) (.set (.var 4) (.var 6)))))) (.ret (.frz (.var 3)))))⟩
def f_19 : Fn := ⟨2, 7, false, (.seq (.ife (.cmp .Lt (.bi .len (.cs (.var 0) .nl)) (.int (2))) (.ret (.lst .nl)) .skip) (.seq (.set (.var 2) (.bin .Add (.lst (.cs (.int (1)) .nl)) (.comp [6] (.bin .Add (.var 6) (.int (1))) (.var 6) (.one (.call 19 (.cs (.call 17 (.cs (.var 0) .nl)) (.cs (.var 1) .nl)))) .nl))) (.seq (.set (.var 3) (.new (.lst .nl))) (.seq (.loop (.tup (.cs (.var 4) (.cs (.var 5) .nl))) (.zp (.var 2) (.bin .Add (.slc (.var 2) (.one (.int (1))) .nl) (.lst (.cs (.var 1) .nl)))) (.ext 3 (.call 18 (.cs (.var 0) (.cs (.var 4) (.cs (.var 5) .nl)))))) (.ret (.frz (.var 3)))))))⟩
def f_20 : Fn := ⟨1, 6, false, (.seq (.set (.var 1) (.bin .Add (.int (3)) (.bi .max1 (.cs (.comp [5] (.bi .abs (.cs (.var 5) .nl)) (.var 5) (.one (.var 0)) .nl) .nl)))) (.seq (.set (.var 2) (.new (.lst .nl))) (.seq (.loop (.var 3) (.one (.bin .Add (.lst (.cs (.int (0)) .nl)) (.call 19 (.cs (.var 0) (.cs (.var 1) .nl))))) (.seq (.set (.var 4) (.bin .Add (.var 3) (.int (1)))) (.whl (.cmp .Eq (.call 12 (.cs (.var 0) (.cs (.var 4) .nl))) (.int (0))) (.seq (.app 2 (.var 4)) (.set (.var 4) (.bin .Add (.var 4) (.int (1)))))))) (.ret (.bi .tuple (.cs (.frz (.var 2)) .nl))))))⟩
def f_21 : Fn := ⟨1, 1, false, (.ife (.not (.call 8 (.cs (.var 0) .nl))) (.rse 2) .skip)⟩
def f_22 : Fn := ⟨1, 1, false, (.exp (.call 2 (.cs (.var 0) (.cs (.int (1)) (.cs (.int (1000000000)) .nl)))))⟩
def f_23 : Fn := ⟨1, 1, false, (.ret (.call 5 (.cs (.var 0) .nl)))⟩
def f_24 : Fn := ⟨1, 1, false, (.ret (.call 7 (.cs (.var 0) .nl)))⟩
def f_25 : Fn := ⟨1, 1, false, (.ret (.call 8 (.cs (.var 0) .nl)))⟩
def f_26 : Fn := ⟨1, 3, false, (.seq (.exp (.call 21 (.cs (.var 0) .nl))) (.ret (.call 14 (.cs (.comp [1, 2] (.var 1) (.tup (.cs (.var 1) (.cs (.var 2) .nl))) (.one (.idx (.var 0) (.int (1)))) .nl) .nl))))⟩
def f_27 : Fn := ⟨2, 2, false, (.seq (.exp (.call 21 (.cs (.var 0) .nl))) (.seq (.exp (.call 22 (.cs (.var 1) .nl))) (.ret (.call 15 (.cs (.var 0) (.cs (.var 1) .nl))))))⟩
def f_28 : Fn := ⟨2, 2, false, (.seq (.ife (.not (.call 5 (.cs (.var 0) .nl))) (.rse 1) .skip) (.seq (.exp (.call 22 (.cs (.var 1) .nl))) (.ret (.call 12 (.cs (.var 0) (.cs (.var 1) .nl))))))⟩
def f_29 : Fn := ⟨1, 1, false, (.seq (.ife (.or (.not (.call 5 (.cs (.var 0) .nl))) (.cmp .Eq (.var 0) (.tup .nl))) (.rse 1) .skip) (.ret (.call 20 (.cs (.var 0) .nl))))⟩
def f_30 : Fn := ⟨1, 2, true, (.seq (.set (.var 1) (.bi .abs (.cs (.idx (.bin .Add (.bi .list (.cs (.var 0) .nl)) (.lst (.cs (.int (0)) .nl))) (.int (0))) .nl))) (.ret (.new (.lst (.cs (.ife (.cmp .GtE (.var 1) (.bin .Pow (.int (10)) (.int (18)))) (.bin .FloorDiv (.var 1) (.int (83))) (.int (0))) (.cs (.bin .Add (.bin .Mod (.bi .int (.cs (.bin .Add (.bin .Mult (.var 1) (.int (311))) (.int (11667))) .nl)) (.int (2077503221))) (.int (181))) .nl))))))⟩
def f_31 : Fn := ⟨2, 4, false, (.seq (.ife (.cmp .Gt (.idx (.var 0) (.int (0))) (.int (0))) (.seq (.set (.var 3) (.bin .Mod (.bi .int (.cs (.idx (.var 0) (.int (0))) .nl)) (.var 1))) (.seq (.sub (.var 0) (.int (0)) (.bin .FloorDiv (.idx (.var 0) (.int (0))) (.var 1))) (.ret (.var 3)))) .skip) (.seq (.sub (.var 0) (.int (1)) (.bin .Mod (.bi .int (.cs (.bin .Add (.bin .Mult (.idx (.var 0) (.int (1))) (.int (30983))) (.int (8039))) .nl)) (.int (2147483549)))) (.seq (.set (.var 2) (.bin .Mod (.bi .int (.cs (.bin .Mult (.idx (.var 0) (.int (1))) (.bin .Add (.idx (.var 0) (.int (1))) (.int (241)))) .nl)) (.int (2147483563)))) (.ret (.bin .Mod (.bi .int (.cs (.bin .FloorDiv (.var 2) (.int (839))) .nl)) (.var 1))))))⟩
def f_32 : Fn := ⟨2, 2, false, (.ret (.idx (.var 1) (.call 31 (.cs (.var 0) (.cs (.bi .len (.cs (.var 1) .nl)) .nl)))))⟩
def f_33 : Fn := ⟨1, 1, false, (.seq (.ife (.or (.cmp .Is (.var 0) .non) (.isi (.var 0) "bool")) (.ret (.ife (.cmp .Is (.var 0) .non) (.int (0)) (.int (1)))) .skip) (.seq (.ife (.or (.isi (.var 0) "int") (.isi (.var 0) "str")) (.ret (.ife (.isi (.var 0) "int") (.int (2)) (.int (3)))) .skip) (.ret (.ife (.isi (.var 0) "tuple") (.int (4)) (.ife (.isi (.var 0) "list") (.int (5)) (.int (6)))))))⟩
def f_34 : Fn := ⟨2, 5, false, (.seq (.set (.var 2) (.call 33 (.cs (.var 1) .nl))) (.seq (.ife (.or (.cmp .NotEq (.call 33 (.cs (.var 0) .nl)) (.var 2)) (.cmp .Eq (.var 2) (.int (6)))) (.ret (.bl false)) .skip) (.seq (.ife (.cmp .In (.var 2) (.tup (.cs (.int (4)) (.cs (.int (5)) .nl)))) (.ret (.and (.cmp .Eq (.bi .len (.cs (.var 0) .nl)) (.bi .len (.cs (.var 1) .nl))) (.cmp .Eq (.comp [3, 4] (.int (1)) (.tup (.cs (.var 3) (.cs (.var 4) .nl))) (.zp (.var 0) (.var 1)) (.one (.not (.call 34 (.cs (.var 3) (.cs (.var 4) .nl)))))) (.lst .nl)))) .skip) (.ret (.cmp .Eq (.var 0) (.var 1))))))⟩
def f_35 : Fn := ⟨1, 3, false, (.seq (.set (.var 1) (.int (1))) (.seq (.loop (.var 2) (.one (.var 0)) (.set (.var 1) (.bin .Mult (.var 1) (.var 2)))) (.ret (.var 1))))⟩
def f_36 : Fn := ⟨2, 5, false, (.seq (.set (.var 2) (.new (.lst .nl))) (.seq (.loop (.var 3) (.rng1 (.call 32 (.cs (.var 0) (.cs (.lst (.cs (.int (0)) (.cs (.int (1)) (.cs (.int (2)) (.cs (.int (2)) (.cs (.int (3)) (.cs (.int (3)) (.cs (.int (4)) (.cs (.int (5)) .nl))))))))) .nl)))) (.seq (.set (.var 4) (.call 32 (.cs (.var 0) (.cs (.lst (.cs (.int (1)) (.cs (.int (2)) (.cs (.int (2)) (.cs (.int (2)) (.cs (.int (3)) (.cs (.int (3)) (.cs (.int (4)) (.cs (.int (5)) (.cs (.int (6)) .nl)))))))))) .nl)))) (.ife (.cmp .LtE (.bin .Mult (.call 35 (.cs (.var 2) .nl)) (.var 4)) (.var 1)) (.app 2 (.var 4)) .skip))) (.ret (.bi .tuple (.cs (.frz (.var 2)) .nl)))))⟩
def f_37 : Fn := ⟨2, 4, false, (.ret (.bi .sum (.cs (.comp [2, 3] (.bin .Mult (.var 3) (.call 38 (.cs (.var 1) (.cs (.var 2) .nl)))) (.tup (.cs (.var 2) (.cs (.var 3) .nl))) (.enm (.var 0)) .nl) .nl)))⟩
def f_38 : Fn := ⟨2, 4, false, (.seq (.set (.var 2) (.int (1))) (.seq (.loop (.var 3) (.rng1 (.var 1)) (.set (.var 2) (.bin .Mult (.var 2) (.var 0)))) (.ret (.var 2))))⟩
def f_39 : Fn := ⟨1, 4, false, (.seq (.set (.var 1) (.bi .len (.cs (.comp [2] (.int (1)) (.var 2) (.rng1 (.bi .len (.cs (.var 0) .nl))) (.one (.cmp .NotEq (.comp [3] (.var 3) (.var 3) (.one (.slc (.var 0) (.one (.var 2)) .nl)) (.one (.cmp .NotEq (.var 3) (.int (0))))) (.lst .nl)))) .nl))) (.ret (.bi .tuple (.cs (.slc (.var 0) .nl (.one (.var 1))) .nl))))⟩
def f_40 : Fn := ⟨2, 3, false, (.ret (.call 39 (.cs (.comp [2] (.call 32 (.cs (.var 0) (.cs (.lst (.cs (.int (0)) (.cs (.int (1)) (.cs (.int (1)) (.cs (.neg (.int (1))) (.cs (.int (2)) (.cs (.int (3)) (.cs (.neg (.int (2))) (.cs (.int (4)) (.cs (.int (6)) (.cs (.int (12)) (.cs (.neg (.int (5))) .nl)))))))))))) .nl))) (.var 2) (.rng1 (.call 31 (.cs (.var 0) (.cs (.bin .Add (.var 1) (.int (1))) .nl)))) .nl) .nl)))⟩
def f_41 : Fn := ⟨2, 3, false, (.ret (.bi .tuple (.cs (.comp [2] (.bin .Mult (.var 2) (.idx (.var 1) (.int (0)))) (.var 2) (.one (.ife (.and (.cmp .Eq (.idx (.var 1) (.int (1))) (.int (1))) (.cmp .NotEq (.var 0) (.tup .nl))) (.bin .Add (.tup (.cs (.int (0)) .nl)) (.var 0)) (.var 0))) .nl) .nl)))⟩
def f_42 : Fn := ⟨2, 8, false, (.seq (.set (.var 2) (.new (.comp [4] (.tup (.cs (.var 4) (.cs (.int (0)) .nl))) (.var 4) (.one (.call 36 (.cs (.var 0) (.cs (.var 1) .nl)))) .nl))) (.seq (.ife (.and (.cmp .NotEq (.var 2) (.lst .nl)) (.cmp .Gt (.call 31 (.cs (.var 0) (.cs (.int (5)) .nl))) (.int (0)))) (.seq (.set (.var 5) (.call 31 (.cs (.var 0) (.cs (.bi .len (.cs (.var 2) .nl)) .nl)))) (.sub (.var 2) (.var 5) (.tup (.cs (.idx (.idx (.var 2) (.var 5)) (.int (0))) (.cs (.int (1)) .nl))))) .skip) (.seq (.set (.var 3) (.new (.lst .nl))) (.seq (.loop (.var 4) (.one (.var 2)) (.seq (.set (.var 6) (.call 40 (.cs (.var 0) (.cs (.int (2)) .nl)))) (.seq (.ife (.and (.cmp .NotEq (.var 3) (.lst .nl)) (.cmp .Eq (.call 31 (.cs (.var 0) (.cs (.int (2)) .nl))) (.int (0)))) (.seq (.set (.var 7) (.call 41 (.cs (.idx (.idx (.var 3) (.neg (.int (1)))) (.int (1))) (.cs (.idx (.idx (.var 3) (.neg (.int (1)))) (.int (0))) .nl)))) (.set (.var 6) (.ife (.cmp .Lt (.bi .len (.cs (.var 7) .nl)) (.int (4))) (.var 7) (.var 6)))) .skip) (.app 3 (.tup (.cs (.var 4) (.cs (.var 6) .nl))))))) (.ret (.tup (.cs (.call 40 (.cs (.var 0) (.cs (.int (2)) .nl))) (.cs (.bi .tuple (.cs (.frz (.var 3)) .nl)) .nl))))))))⟩
def f_43 : Fn := ⟨2, 5, false, (.seq (.set (.var 2) (.comp [3, 4] (.tup (.cs (.ife (.cmp .Eq (.idx (.var 3) (.int (1))) (.int (1))) (.bin .Mult (.idx (.var 3) (.int (0))) (.var 1)) (.idx (.var 3) (.int (0)))) (.cs (.call 37 (.cs (.var 4) (.cs (.var 1) .nl))) .nl))) (.tup (.cs (.var 3) (.cs (.var 4) .nl))) (.one (.idx (.var 0) (.int (1)))) .nl)) (.ret (.tup (.cs (.call 37 (.cs (.idx (.var 0) (.int (0))) (.cs (.var 1) .nl))) (.cs (.bi .tuple (.cs (.var 2) .nl)) .nl)))))⟩
def f_44 : Fn := ⟨2, 8, false, (.seq (.set (.var 2) (.tup (.cs (.var 1) .nl))) (.seq (.loop (.var 3) (.one (.var 0)) (.seq (.par [4, 5] (.cs (.bin .Add (.tup (.cs (.int (0)) .nl)) (.var 2)) (.cs (.bin .Add (.bi .tuple (.cs (.comp [6] (.bin .Mult (.var 6) (.neg (.var 3))) (.var 6) (.one (.var 2)) .nl) .nl)) (.tup (.cs (.int (0)) .nl))) .nl))) (.set (.var 2) (.bi .tuple (.cs (.comp [6, 7] (.bin .Add (.var 6) (.var 7)) (.tup (.cs (.var 6) (.cs (.var 7) .nl))) (.zp (.var 4) (.var 5)) .nl) .nl))))) (.ret (.var 2))))⟩
def f_45 : Fn := ⟨1, 9, false, (.seq (.set (.var 1) (.comp [6] (.call 32 (.cs (.var 0) (.cs (.lst (.cs (.int (1)) (.cs (.int (2)) (.cs (.int (3)) (.cs (.int (7)) (.cs (.int (0)) (.cs (.neg (.int (1))) (.cs (.neg (.int (4))) (.cs (.bin .Add (.call 31 (.cs (.var 0) (.cs (.int (1000)) .nl))) (.int (1))) (.cs (.bin .LShift (.int (1)) (.call 31 (.cs (.var 0) (.cs (.int (30)) .nl)))) .nl)))))))))) .nl))) (.var 6) (.rng1 (.call 31 (.cs (.var 0) (.cs (.int (4)) .nl)))) .nl)) (.seq (.set (.var 2) (.call 44 (.cs (.var 1) (.cs (.call 32 (.cs (.var 0) (.cs (.lst (.cs (.int (1)) (.cs (.neg (.int (1))) (.cs (.int (3)) (.cs (.int (12)) .nl))))) .nl))) .nl)))) (.seq (.ife (.not (.call 34 (.cs (.call 29 (.cs (.var 2) .nl)) (.cs (.bi .tuple (.cs (.bi .sortedset (.cs (.comp [8] (.var 8) (.var 8) (.one (.var 1)) (.one (.cmp .Gt (.var 8) (.int (0))))) .nl)) .nl)) .nl)))) (.ret (.bl false)) .skip) (.seq (.set (.var 3) (.call 39 (.cs (.bin .Add (.lst (.cs (.bin .Add (.idx (.var 2) (.int (0))) (.int (1))) .nl)) (.bi .list (.cs (.slc (.var 2) (.one (.int (1))) .nl) .nl))) .nl))) (.seq (.ife (.cmp .NotEq (.var 3) (.tup .nl)) (.seq (.set (.var 5) (.call 29 (.cs (.var 3) .nl))) (.seq (.ife (.or (.cmp .NotEq (.call 33 (.cs (.var 5) .nl)) (.int (4))) (.or (.cmp .NotEq (.bi .list (.cs (.var 5) .nl)) (.bi .sortedset (.cs (.var 5) .nl))) (.cmp .NotEq (.comp [8] (.var 8) (.var 8) (.one (.var 5)) (.one (.or (.cmp .Lt (.var 8) (.int (1))) (.cmp .NotEq (.call 37 (.cs (.var 3) (.cs (.var 8) .nl))) (.int (0)))))) (.lst .nl)))) (.ret (.bl false)) .skip) (.ife (.cmp .NotEq (.comp [7] (.var 7) (.var 7) (.rng2 (.int (1)) (.int (50))) (.one (.and (.cmp .Eq (.call 37 (.cs (.var 3) (.cs (.var 7) .nl))) (.int (0))) (.cmp .NotIn (.var 7) (.var 5))))) (.lst .nl)) (.ret (.bl false)) .skip))) .skip) (.seq (.set (.var 4) (.call 40 (.cs (.var 0) (.cs (.int (4)) .nl)))) (.seq (.ife (.cmp .Eq (.var 4) (.tup .nl)) (.ret (.bl true)) .skip) (.ret (.call 34 (.cs (.call 29 (.cs (.var 4) .nl)) (.cs (.bi .tuple (.cs (.comp [7] (.var 7) (.var 7) (.rng2 (.int (1)) (.int (40))) (.one (.cmp .Eq (.call 37 (.cs (.var 4) (.cs (.var 7) .nl))) (.int (0))))) .nl)) .nl)))))))))))⟩
def f_46 : Fn := ⟨1, 13, false, (.seq (.set (.var 1) (.call 42 (.cs (.var 0) (.cs (.int (60)) .nl)))) (.seq (.loop (.var 2) (.one (.tup (.cs (.int (1)) (.cs (.int (2)) (.cs (.bin .Add (.int (1)) (.call 31 (.cs (.var 0) (.cs (.int (50)) .nl)))) (.cs (.bin .Sub (.bin .Pow (.int (10)) (.int (9))) (.call 31 (.cs (.var 0) (.cs (.int (50)) .nl)))) .nl)))))) (.seq (.set (.var 7) (.call 40 (.cs (.var 0) (.cs (.int (4)) .nl)))) (.ife (.not (.call 34 (.cs (.lst (.cs (.call 27 (.cs (.var 1) (.cs (.var 2) .nl))) (.cs (.call 28 (.cs (.var 7) (.cs (.var 2) .nl))) .nl))) (.cs (.lst (.cs (.call 43 (.cs (.var 1) (.cs (.var 2) .nl))) (.cs (.call 37 (.cs (.var 7) (.cs (.var 2) .nl))) .nl))) .nl)))) (.ret (.bl false)) .skip))) (.seq (.set (.tup (.cs (.var 8) (.cs (.var 9) .nl))) (.var 1)) (.seq (.set (.var 3) (.tup (.cs (.call 35 (.cs (.comp [11, 12] (.idx (.var 11) (.int (0))) (.tup (.cs (.var 11) (.cs (.var 12) .nl))) (.one (.var 9)) .nl) .nl)) (.cs (.bi .sum (.cs (.comp [11, 12] (.idx (.var 11) (.int (1))) (.tup (.cs (.var 11) (.cs (.var 12) .nl))) (.one (.var 9)) .nl) .nl)) .nl)))) (.seq (.set (.var 4) (.bi .tuple (.cs (.comp [11, 12] (.var 11) (.tup (.cs (.var 11) (.cs (.var 12) .nl))) (.one (.var 9)) .nl) .nl))) (.seq (.ife (.not (.call 34 (.cs (.lst (.cs (.call 26 (.cs (.var 1) .nl)) (.cs (.call 25 (.cs (.var 1) .nl)) (.cs (.call 24 (.cs (.var 4) .nl)) .nl)))) (.cs (.lst (.cs (.var 3) (.cs (.bl true) (.cs (.bl true) .nl)))) .nl)))) (.ret (.bl false)) .skip) (.seq (.set (.var 5) (.bin .Add (.var 9) (.tup (.cs (.tup (.cs (.tup (.cs (.int (1)) (.cs (.int (1)) .nl))) (.cs (.tup (.cs (.int (1)) .nl)) .nl))) .nl)))) (.seq (.set (.var 6) (.lst (.cs (.tup (.cs (.var 8) (.cs (.bin .Add (.var 9) (.tup (.cs (.tup (.cs (.tup (.cs (.int (1)) (.cs (.int (1)) .nl))) (.cs (.tup .nl) .nl))) (.cs (.tup (.cs (.tup (.cs (.int (2)) (.cs (.int (1)) .nl))) (.cs (.tup .nl) .nl))) .nl)))) .nl))) (.cs (.tup (.cs (.var 8) (.cs (.bin .Add (.var 9) (.tup (.cs (.tup (.cs (.tup (.cs (.int (0)) (.cs (.int (0)) .nl))) (.cs (.tup .nl) .nl))) .nl))) .nl))) (.cs (.tup (.cs (.var 8) (.cs (.bin .Add (.var 9) (.tup (.cs (.tup (.cs (.tup (.cs (.int (5001)) (.cs (.int (0)) .nl))) (.cs (.tup .nl) .nl))) .nl))) .nl))) (.cs (.tup (.cs (.var 8) (.cs (.bin .Add (.var 9) (.tup (.cs (.tup (.cs (.tup (.cs (.int (2)) (.cs (.int (0)) .nl))) (.cs (.int (1)) .nl))) .nl))) .nl))) .nl)))))) (.seq (.set (.var 6) (.bin .Add (.var 6) (.lst (.cs (.tup (.cs (.int (0)) (.cs (.var 9) .nl))) (.cs (.tup (.cs (.var 8) (.cs (.bi .list (.cs (.var 9) .nl)) .nl))) (.cs (.lst (.cs (.var 8) (.cs (.var 9) .nl))) (.cs (.tup (.cs (.bin .Add (.var 8) (.tup (.cs (.int (0)) .nl))) (.cs (.var 9) .nl))) (.cs (.tup (.cs (.var 8) (.cs (.var 9) (.cs (.tup .nl) .nl)))) (.cs .non (.cs (.tup (.cs (.var 8) (.cs (.bin .Add (.var 9) (.tup (.cs (.tup (.cs (.tup (.cs (.int (2)) (.cs (.int (2)) .nl))) (.cs (.tup .nl) .nl))) .nl))) .nl))) .nl)))))))))) (.seq (.ife (.cmp .NotEq (.comp [10] (.var 10) (.var 10) (.one (.var 6)) (.one (.cmp .IsNot (.call 25 (.cs (.var 10) .nl)) (.bl false)))) (.lst .nl)) (.ret (.bl false)) .skip) (.ret (.call 34 (.cs (.call 25 (.cs (.tup (.cs (.var 8) (.cs (.var 5) .nl))) .nl)) (.cs (.cmp .Eq (.idx (.var 3) (.int (1))) (.int (0))) .nl))))))))))))))⟩
def f_47 : Fn := ⟨0, 3, false, (.seq (.set (.var 0) (.tup (.cs (.tup .nl) (.cs (.tup (.cs (.tup (.cs (.tup (.cs (.int (1)) (.cs (.int (1)) .nl))) (.cs (.tup (.cs (.int (1)) .nl)) .nl))) (.cs (.tup (.cs (.tup (.cs (.int (3)) (.cs (.int (0)) .nl))) (.cs (.tup (.cs (.int (0)) (.cs (.int (1)) .nl))) .nl))) .nl))) .nl)))) (.seq (.set (.var 1) (.new (.lst (.cs (.call 23 (.cs (.tup (.cs (.int (0)) (.cs (.int (1)) .nl))) .nl)) (.cs (.call 23 (.cs (.tup (.cs (.int (1)) (.cs (.int (0)) .nl))) .nl)) (.cs (.call 23 (.cs (.tup .nl) .nl)) (.cs (.call 23 (.cs (.tup (.cs (.int (1)) (.cs (.int (2)) (.cs (.int (3)) (.cs (.int (4)) (.cs (.int (5)) .nl)))))) .nl)) (.cs (.call 23 (.cs (.tup (.cs (.bl true) .nl)) .nl)) (.cs (.call 23 (.cs (.lst (.cs (.int (1)) .nl)) .nl)) (.cs (.call 25 (.cs (.var 0) .nl)) .nl)))))))))) (.seq (.set (.var 2) (.lst (.cs (.bl true) (.cs (.bl false) (.cs (.bl true) (.cs (.bl false) (.cs (.bl false) (.cs (.bl false) (.cs (.bl true) .nl))))))))) (.seq (.set (.var 1) (.new (.bin .Add (.var 1) (.lst (.cs (.call 25 (.cs (.tup (.cs (.tup .nl) (.cs (.tup (.cs (.tup (.cs (.tup (.cs (.int (1)) (.cs (.int (1)) .nl))) (.cs (.tup (.cs (.int (1)) .nl)) .nl))) (.cs (.tup (.cs (.tup (.cs (.int (2)) (.cs (.int (1)) .nl))) (.cs (.tup (.cs (.int (1)) .nl)) .nl))) .nl))) .nl))) .nl)) (.cs (.call 24 (.cs (.tup (.cs (.tup (.cs (.int (5000)) (.cs (.int (0)) .nl))) (.cs (.tup (.cs (.int (1)) (.cs (.int (1)) .nl))) .nl))) .nl)) (.cs (.call 24 (.cs (.tup (.cs (.tup (.cs (.int (100)) (.cs (.int (0)) .nl))) (.cs (.tup (.cs (.int (51)) (.cs (.int (1)) .nl))) .nl))) .nl)) .nl))))))) (.seq (.set (.var 2) (.bin .Add (.var 2) (.lst (.cs (.bl false) (.cs (.bl true) (.cs (.bl false) .nl)))))) (.seq (.set (.var 1) (.new (.bin .Add (.var 1) (.lst (.cs (.call 26 (.cs (.var 0) .nl)) (.cs (.call 26 (.cs (.tup (.cs (.tup .nl) (.cs (.tup .nl) .nl))) .nl)) (.cs (.call 27 (.cs (.var 0) (.cs (.int (5)) .nl))) (.cs (.call 27 (.cs (.var 0) (.cs (.bin .Pow (.int (10)) (.int (9))) .nl))) (.cs (.call 28 (.cs (.tup (.cs (.int (1)) (.cs (.neg (.int (2))) (.cs (.int (1)) .nl)))) (.cs (.int (7)) .nl))) (.cs (.call 28 (.cs (.tup .nl) (.cs (.int (3)) .nl))) .nl)))))))))) (.seq (.set (.var 2) (.bin .Add (.var 2) (.lst (.cs (.tup (.cs (.int (3)) (.cs (.int (1)) .nl))) (.cs (.tup (.cs (.int (1)) (.cs (.int (0)) .nl))) (.cs (.tup (.cs (.int (0)) (.cs (.tup (.cs (.tup (.cs (.int (5)) (.cs (.int (1)) .nl))) (.cs (.tup (.cs (.int (3)) (.cs (.int (5)) .nl))) .nl))) .nl))) (.cs (.tup (.cs (.int (0)) (.cs (.tup (.cs (.tup (.cs (.int (1000000000)) (.cs (.int (1)) .nl))) (.cs (.tup (.cs (.int (3)) (.cs (.int (1000000000)) .nl))) .nl))) .nl))) (.cs (.int (36)) (.cs (.int (0)) .nl))))))))) (.seq (.set (.var 1) (.new (.bin .Add (.var 1) (.lst (.cs (.call 29 (.cs (.tup (.cs (.int (6)) (.cs (.neg (.int (5))) (.cs (.int (1)) .nl)))) .nl)) (.cs (.call 29 (.cs (.tup (.cs (.int (0)) (.cs (.neg (.int (3))) (.cs (.int (1)) .nl)))) .nl)) (.cs (.call 29 (.cs (.tup (.cs (.int (1)) (.cs (.int (1)) .nl))) .nl)) (.cs (.cmp .Eq (.call 29 (.cs (.tup (.cs (.neg (.bin .Pow (.int (10)) (.int (29)))) (.cs (.int (1)) .nl))) .nl)) (.tup (.cs (.bin .Pow (.int (10)) (.int (29))) .nl))) (.cs (.call 29 (.cs (.tup (.cs (.neg (.int (6))) (.cs (.int (11)) (.cs (.neg (.int (6))) (.cs (.int (1)) .nl))))) .nl)) .nl))))))))) (.seq (.set (.var 2) (.bin .Add (.var 2) (.lst (.cs (.tup (.cs (.int (2)) (.cs (.int (3)) .nl))) (.cs (.tup (.cs (.int (3)) .nl)) (.cs (.tup .nl) (.cs (.bl true) (.cs (.tup (.cs (.int (1)) (.cs (.int (2)) (.cs (.int (3)) .nl)))) .nl)))))))) (.seq (.set (.var 1) (.new (.bin .Add (.var 1) (.lst (.cs (.call 29 (.cs (.tup (.cs (.int (4)) (.cs (.neg (.int (4))) (.cs (.int (1)) .nl)))) .nl)) (.cs (.call 29 (.cs (.tup (.cs (.int (2)) (.cs (.neg (.int (3))) (.cs (.int (1)) .nl)))) .nl)) (.cs (.call 29 (.cs (.tup (.cs (.neg (.int (3))) (.cs (.int (2)) .nl))) .nl)) (.cs (.call 29 (.cs (.tup (.cs (.int (6)) (.cs (.int (5)) (.cs (.int (1)) .nl)))) .nl)) (.cs (.call 29 (.cs (.tup (.cs (.int (0)) (.cs (.int (0)) (.cs (.int (0)) (.cs (.int (7)) .nl))))) .nl)) (.cs (.call 29 (.cs (.tup (.cs (.neg (.int (5))) .nl)) .nl)) .nl)))))))))) (.seq (.app 1 (.call 24 (.cs (.bin .Mult (.tup (.cs (.tup (.cs (.int (1)) (.cs (.int (0)) .nl))) .nl)) (.int (17))) .nl))) (.ret (.call 34 (.cs (.frz (.var 1)) (.cs (.bin .Add (.var 2) (.lst (.cs (.tup (.cs (.int (2)) .nl)) (.cs (.tup (.cs (.int (1)) (.cs (.int (2)) .nl))) (.cs (.tup .nl) (.cs (.tup .nl) (.cs (.tup .nl) (.cs (.tup .nl) (.cs (.bl false) .nl))))))))) .nl)))))))))))))))⟩
def f_48 : Fn := ⟨1, 3, false, (.seq (.set (.var 1) (.call 30 (.cs (.var 0) .nl))) (.seq (.ife (.not (.call 47 .nl)) (.ret (.bl false)) .skip) (.seq (.loop (.var 2) (.rng1 (.int (16))) (.ife (.or (.not (.call 45 (.cs (.var 1) .nl))) (.not (.call 46 (.cs (.var 1) .nl)))) (.ret (.bl false)) .skip)) (.ret (.bl true)))))⟩
def fs_0 : List Fn := [f_0, f_1, f_2, f_3, f_4, f_5, f_6, f_7, f_8, f_9, f_10, f_11, f_12, f_13, f_14, f_15, f_16, f_17, f_18, f_19, f_20, f_21, f_22, f_23]
def fs_1 : List Fn := [f_24, f_25, f_26, f_27, f_28, f_29, f_30, f_31, f_32, f_33, f_34, f_35, f_36, f_37, f_38, f_39, f_40, f_41, f_42, f_43, f_44, f_45, f_46, f_47]
def fs_2 : List Fn := [f_48]
def fs : List Fn := fs_0 ++ fs_1 ++ fs_2
end Tab
namespace Tab
open PySem PySem.Spec PyProof.Rows L2 DL
theorem cmp_ok : cFs nm ts = some fs := by kernel_rfl
theorem plain_ok : plainTs ts = true := by kernel_rfl
end Tab
namespace Tab
open PySem PySem.Spec PyProof.Rows L2 DL
theorem headRun (w : World) : HandSHeadRun.RunEq R (PySem.W.view R.prog [60]) hk ob 4060 loose w := by
  intro os
  kernel_rfl
end Tab
/-! PLa: running our own terms by hand: what each step gives. Plain Lean. -/
namespace DL
open PySem
section
variable (cl : Calls) (ρ : Env) (μ : Store)
@[simp] theorem ev_non : ev cl .non ρ μ = .ok .non μ := (rfl)
@[simp] theorem ev_bl (b : Bool) : ev cl (.bl b) ρ μ = .ok (.bl b) μ := (rfl)
@[simp] theorem ev_int (i : Int) : ev cl (.int i) ρ μ = .ok (.int i) μ := (rfl)
@[simp] theorem ev_str (x : Str) : ev cl (.str x) ρ μ = .ok (.str x) μ := (rfl)
@[simp] theorem ev_var (i : Nat) : ev cl (.var i) ρ μ = match ρ[i]? with
    | some (some d) => .ok d μ
    | _ => .no := (rfl)
@[simp] theorem ev_bin (op : Operator) (a b : PX) : ev cl (.bin op a b) ρ μ = (ev cl a ρ μ).bind fun x μ1 => (ev cl b ρ μ1).bind fun y μ2 => Rs.of (binD μ2 op x y) μ2 := (rfl)
@[simp] theorem ev_neg (a : PX) : ev cl (.neg a) ρ μ = (ev cl a ρ μ).bind fun x μ1 => match x with
    | .int i => .ok (.int (-i)) μ1
    | _ => .no := (rfl)
@[simp] theorem ev_not (a : PX) : ev cl (.not a) ρ μ = (ev cl a ρ μ).bind (onB fun b μ1 => .ok (.bl (!b)) μ1) := (rfl)
@[simp] theorem ev_and (a b : PX) : ev cl (.and a b) ρ μ = (ev cl a ρ μ).bind (onB fun c μ1 => if c = true then ev cl b ρ μ1 else .ok (.bl false) μ1) := (rfl)
@[simp] theorem ev_or (a b : PX) : ev cl (.or a b) ρ μ = (ev cl a ρ μ).bind (onB fun c μ1 => if c = true then .ok (.bl true) μ1 else ev cl b ρ μ1) := (rfl)
@[simp] theorem ev_cmp (op : CmpOp) (a b : PX) : ev cl (.cmp op a b) ρ μ = (ev cl a ρ μ).bind fun x μ1 => (ev cl b ρ μ1).bind fun y μ2 => Rs.of ((cmpD μ2 op x y).map .bl) μ2 := (rfl)
@[simp] theorem ev_chn (op op' : CmpOp) (a b c : PX) : ev cl (.chn op op' a b c) ρ μ = (ev cl a ρ μ).bind fun x μ1 => (ev cl b ρ μ1).bind fun y μ2 => (Rs.of (cmpD μ2 op x y) μ2).bind fun k μ3 =>
      if k = true then (ev cl c ρ μ3).bind fun z μ4 => Rs.of ((cmpD μ4 op' y z).map .bl) μ4 else .ok (.bl false) μ3 := (rfl)
@[simp] theorem ev_ife (c a b : PX) : ev cl (.ife c a b) ρ μ = (ev cl c ρ μ).bind (onB fun k μ1 => if k = true then ev cl a ρ μ1 else ev cl b ρ μ1) := (rfl)
@[simp] theorem ev_tup (es : PX) : ev cl (.tup es) ρ μ = (evs cl es ρ μ).bind fun ds μ1 => (frzs ds μ1).bind fun xs μ2 => Rs.of ((fitL xs).map .tup) μ2 := (rfl)
@[simp] theorem ev_lst (es : PX) : ev cl (.lst es) ρ μ = (mkL (evs cl es ρ μ)).bind fun xs μ1 => .ok (.lst xs) μ1 := (rfl)
@[simp] theorem ev_idx (a b : PX) : ev cl (.idx a b) ρ μ = (ev cl a ρ μ).bind fun x μ1 => (ev cl b ρ μ1).bind fun y μ2 => Rs.of (idxD μ2 x y) μ2 := (rfl)
@[simp] theorem ev_slc (a lo hi : PX) : ev cl (.slc a lo hi) ρ μ = (ev cl a ρ μ).bind fun x μ1 => (evO cl lo ρ μ1).bind fun l μ2 => (evO cl hi ρ μ2).bind fun h μ3 => Rs.of (slcD μ3 x l h) μ3 := (rfl)
@[simp] theorem ev_sls (a s : PX) : ev cl (.sls a s) ρ μ = (ev cl a ρ μ).bind fun x μ1 => (ev cl s ρ μ1).bind fun y μ2 => Rs.of (slsD μ2 x y) μ2 := (rfl)
@[simp] theorem ev_isi (a : PX) (T : String) : ev cl (.isi a T) ρ μ = (ev cl a ρ μ).bind fun x μ1 => Rs.of ((isiD x T).map .bl) μ1 := (rfl)
@[simp] theorem ev_call (f : Nat) (es : PX) : ev cl (.call f es) ρ μ = (evs cl es ρ μ).bind fun ds μ1 => cl f ds μ1 := (rfl)
@[simp] theorem ev_bi (b : BI) (es : PX) : ev cl (.bi b es) ρ μ = (evs cl es ρ μ).bind fun ds μ1 => Rs.of (biD μ1 b ds) μ1 := (rfl)
@[simp] theorem ev_new (e : PX) : ev cl (.new e) ρ μ = (evL cl e ρ μ).bind fun xs μ1 => .ok (.cell μ1.length) (μ1 ++ [⟨0, xs⟩]) := (rfl)
@[simp] theorem ev_frz (e : PX) : ev cl (.frz e) ρ μ = (ev cl e ρ μ).bind fun d μ1 => frz d μ1 := (rfl)
/-- one turn of a comprehension -/
def turn (cl : Calls) (own : List Nat) (elt tg cnd : PX) (ρ : Env) (x : D) (μ2 : Store) : Rs (Option D) := (Rs.of (asg tg x (wipe ρ own)) μ2).bind fun ρ1 μ3 => (evC cl cnd ρ1 μ3).bind fun c μ4 => if c = true then keepE (ev cl elt ρ1 μ4) else .ok none μ4
@[simp] theorem ev_comp (own : List Nat) (elt tg it cnd : PX) : ev cl (.comp own elt tg it cnd) ρ μ = (compR (evI cl it ρ μ) (turn cl own elt tg cnd ρ)).bind fun xs μ1 => .ok (.lst xs) μ1 := (rfl)
@[simp] theorem evs_nl : evs cl .nl ρ μ = .ok [] μ := (rfl)
@[simp] theorem evs_cs (e es : PX) : evs cl (.cs e es) ρ μ = (ev cl e ρ μ).bind fun d μ1 => (evs cl es ρ μ1).bind fun ds μ2 => .ok (d :: ds) μ2 := (rfl)
@[simp] theorem evO_nl : evO cl .nl ρ μ = .ok none μ := (rfl)
@[simp] theorem evO_one (e : PX) : evO cl (.one e) ρ μ = (ev cl e ρ μ).bind fun d μ1 => match d with
    | .int i => .ok (some i) μ1
    | _ => .no := (rfl)
@[simp] theorem evC_nl : evC cl .nl ρ μ = .ok true μ := (rfl)
@[simp] theorem evC_one (e : PX) : evC cl (.one e) ρ μ = (ev cl e ρ μ).bind asB := (rfl)
@[simp] theorem evL_lst (es : PX) : evL cl (.lst es) ρ μ = mkL (evs cl es ρ μ) := (rfl)
@[simp] theorem evL_bin (op : Operator) (a b : PX) : evL cl (.bin op a b) ρ μ = (ev cl a ρ μ).bind fun x μ1 => (ev cl b ρ μ1).bind fun y μ2 => Rs.of (binL μ2 op x y) μ2 := (rfl)
@[simp] theorem evL_slc (a lo hi : PX) : evL cl (.slc a lo hi) ρ μ = (ev cl a ρ μ).bind fun x μ1 => (evO cl lo ρ μ1).bind fun l μ2 => (evO cl hi ρ μ2).bind fun h μ3 => Rs.of (slcL μ3 x l h) μ3 := (rfl)
@[simp] theorem evL_bi (b : BI) (es : PX) : evL cl (.bi b es) ρ μ = (evs cl es ρ μ).bind fun ds μ1 => Rs.of (biL μ1 b ds) μ1 := (rfl)
@[simp] theorem evL_ife (c a b : PX) : evL cl (.ife c a b) ρ μ = (ev cl c ρ μ).bind (onB fun k μ1 => if k = true then evL cl a ρ μ1 else evL cl b ρ μ1) := (rfl)
@[simp] theorem evL_comp (own : List Nat) (elt tg it cnd : PX) : evL cl (.comp own elt tg it cnd) ρ μ = compR (evI cl it ρ μ) (turn cl own elt tg cnd ρ) := (rfl)
@[simp] theorem evI_rng1 (a : PX) : evI cl (.rng1 a) ρ μ = (ev cl a ρ μ).bind fun x μ1 => match x with
    | .int j => if rngOk 0 j then .ok (rngL 0 j, none) μ1 else .no
    | _ => .no := (rfl)
@[simp] theorem evI_rng2 (a b : PX) : evI cl (.rng2 a b) ρ μ = (ev cl a ρ μ).bind fun x μ1 => (ev cl b ρ μ1).bind fun y μ2 => match x, y with
    | .int i, .int j => if rngOk i j then .ok (rngL i j, none) μ2 else .no
    | _, _ => .no := (rfl)
@[simp] theorem evI_zp (a b : PX) : evI cl (.zp a b) ρ μ = (ev cl a ρ μ).bind fun x μ1 => (ev cl b ρ μ1).bind fun y μ2 => match x, y with
    | .tup xs, .tup ys => .ok (zipL xs ys, none) μ2
    | .lst xs, .lst ys => .ok (zipL xs ys, none) μ2
    | _, _ => .no := (rfl)
@[simp] theorem evI_enm (a : PX) : evI cl (.enm a) ρ μ = (ev cl a ρ μ).bind fun x μ1 => match x with
    | .lst xs => .ok (enmL 0 xs, none) μ1
    | .tup xs => .ok (enmL 0 xs, none) μ1
    | _ => .no := (rfl)
@[simp] theorem evI_one (e : PX) : evI cl (.one e) ρ μ = (ev cl e ρ μ).bind fun x μ1 => match seqOf μ1 x with
    | some xs => .ok (xs, lockOf μ1 x) μ1
    | none => .no := (rfl)
@[simp] theorem exs_skip : exs cl .skip ρ μ = .ok (.nx ρ) μ := (rfl)
@[simp] theorem exs_seq (a b : SX) : exs cl (.seq a b) ρ μ = (exs cl a ρ μ).bind fun fl μ1 => match fl with
    | .nx ρ1 => exs cl b ρ1 μ1
    | fl => .ok fl μ1 := (rfl)
@[simp] theorem exs_set (tg e : PX) : exs cl (.set tg e) ρ μ = (ev cl e ρ μ).bind fun d μ1 => (Rs.of (asg tg d ρ) μ1).bind fun ρ1 μ2 => .ok (.nx ρ1) μ2 := (rfl)
@[simp] theorem exs_par (vs : List Nat) (es : PX) : exs cl (.par vs es) ρ μ = (evs cl es ρ μ).bind fun ds μ1 => (Rs.of (pars vs ds ρ) μ1).bind fun ρ1 μ2 => .ok (.nx ρ1) μ2 := (rfl)
@[simp] theorem exs_sub (o i e : PX) : exs cl (.sub o i e) ρ μ = (ev cl e ρ μ).bind fun d μ1 => (frz d μ1).bind fun d' μ2 => (ev cl o ρ μ2).bind fun x μ3 => (ev cl i ρ μ3).bind fun y μ4 => match setD μ4 x y d' with
    | some μ5 => .ok (.nx ρ) μ5
    | none => .no := (rfl)
@[simp] theorem exs_app (i : Nat) (e : PX) : exs cl (.app i e) ρ μ = match ρ[i]? with
    | some (some (.cell k)) => (ev cl e ρ μ).bind fun d μ1 => (frz d μ1).bind fun d' μ2 => match mutOf μ2 k with
      | some xs => if xs.length < sizeLine then .ok (.nx ρ) (μ2.set k ⟨0, xs ++ [d']⟩) else .no
      | none => .no
    | _ => .no := (rfl)
@[simp] theorem exs_ext (i : Nat) (e : PX) : exs cl (.ext i e) ρ μ = match ρ[i]? with
    | some (some (.cell k)) => (ev cl e ρ μ).bind fun d μ1 => match d, mutOf μ1 k with
      | .lst ys, some xs => if xs.length + ys.length ≤ sizeLine then .ok (.nx ρ) (μ1.set k ⟨0, xs ++ ys⟩) else .no
      | _, _ => .no
    | _ => .no := (rfl)
@[simp] theorem exs_exp (e : PX) : exs cl (.exp e) ρ μ = (ev cl e ρ μ).bind fun _ μ1 => .ok (.nx ρ) μ1 := (rfl)
@[simp] theorem exs_ret (e : PX) : exs cl (.ret e) ρ μ = (ev cl e ρ μ).bind fun d μ1 => .ok (.ret d) μ1 := (rfl)
@[simp] theorem exs_retN : exs cl .retN ρ μ = .ok (.ret .non) μ := (rfl)
@[simp] theorem exs_ife (c : PX) (a b : SX) : exs cl (.ife c a b) ρ μ = (ev cl c ρ μ).bind (onB fun k μ1 => if k = true then exs cl a ρ μ1 else exs cl b ρ μ1) := (rfl)
/-- one turn of a for, a while's test, its body -/
def loopF (cl : Calls) (tg : PX) (body : SX) (x : D) (ρ1 : Env) (μ2 : Store) : Rs Flow := (Rs.of (asg tg x ρ1) μ2).bind fun ρ2 μ3 => exs cl body ρ2 μ3
def condF (cl : Calls) (c : PX) (ρ1 : Env) (μ1 : Store) : Rs Bool := (ev cl c ρ1 μ1).bind asB
def bodyF (cl : Calls) (body : SX) (ρ1 : Env) (μ1 : Store) : Rs Flow := exs cl body ρ1 μ1
@[simp] theorem exs_loop (tg it : PX) (body : SX) : exs cl (.loop tg it body) ρ μ = (evI cl it ρ μ).bind fun p μ1 => (loopL (loopF cl tg body) p.1 ρ (locked μ1 p.2)).un p.2 := (rfl)
@[simp] theorem exs_whl (c : PX) (body : SX) : exs cl (.whl c body) ρ μ = whileL (condF cl c) (bodyF cl body) turns ρ μ := (rfl)
@[simp] theorem exs_rse (c : Nat) : exs cl (.rse c) ρ μ = .ex ⟨c, none⟩ μ := (rfl)
end
/-! ### the rest of a step -/
@[simp] theorem asg_var (i : Nat) (d : D) (ρ : Env) : asg (.var i) d ρ = if i < ρ.length then some (ρ.set i (some d)) else none := (rfl)
@[simp] theorem asg_tup (es : PX) (xs : List D) (ρ : Env) : asg (.tup es) (.tup xs) ρ = asgs es xs ρ := (rfl)
@[simp] theorem asgs_nl (ρ : Env) : asgs .nl [] ρ = some ρ := (rfl)
@[simp] theorem asgs_cs (e es : PX) (d : D) (ds : List D) (ρ : Env) : asgs (.cs e es) (d :: ds) ρ = match asg e d ρ with
    | some ρ1 => asgs es ds ρ1
    | none => none := (rfl)
@[simp] theorem pars_nil (ρ : Env) : pars [] [] ρ = some ρ := (rfl)
@[simp] theorem pars_cons (i : Nat) (is : List Nat) (d : D) (ds : List D) (ρ : Env) : pars (i :: is) (d :: ds) ρ = if i < ρ.length then pars is ds (ρ.set i (some d)) else none := (rfl)
@[simp] theorem wipe_nil (ρ : Env) : wipe ρ [] = ρ := (rfl)
@[simp] theorem wipe_cons (ρ : Env) (v : Nat) (vs : List Nat) : wipe ρ (v :: vs) = (wipe ρ vs).set v none := (rfl)
@[simp] theorem frz_non (μ : Store) : frz .non μ = .ok .non μ := (rfl)
@[simp] theorem frz_bl (b : Bool) (μ : Store) : frz (.bl b) μ = .ok (.bl b) μ := (rfl)
@[simp] theorem frz_int (i : Int) (μ : Store) : frz (.int i) μ = .ok (.int i) μ := (rfl)
@[simp] theorem frz_str (x : Str) (μ : Store) : frz (.str x) μ = .ok (.str x) μ := (rfl)
@[simp] theorem frz_tup (xs : List D) (μ : Store) : frz (.tup xs) μ = .ok (.tup xs) μ := (rfl)
@[simp] theorem frz_lst (xs : List D) (μ : Store) : frz (.lst xs) μ = .ok (.lst xs) μ := (rfl)
@[simp] theorem frzs_nil (μ : Store) : frzs [] μ = .ok [] μ := (rfl)
@[simp] theorem frzs_cons (d : D) (r : List D) (μ : Store) : frzs (d :: r) μ = (frz d μ).bind fun d' μ1 => (frzs r μ1).bind fun r' μ2 => .ok (d' :: r') μ2 := (rfl)
@[simp] theorem mkL_ok (ds : List D) (μ : Store) : mkL (.ok ds μ) = (frzs ds μ).bind fun xs μ2 => Rs.of (fitL xs) μ2 := (rfl)
@[simp] theorem keepE_ok (d : D) (μ : Store) : keepE (.ok d μ) = (frz d μ).bind fun d' μ6 => .ok (some d') μ6 := (rfl)
@[simp] theorem un_none {α : Type} (r : Rs α) : r.un none = r := by cases r <;> rfl
@[simp] theorem locked_none (μ : Store) : locked μ none = μ := (rfl)
@[simp] theorem lockOf_tup (μ : Store) (xs : List D) : lockOf μ (.tup xs) = none := (rfl)
@[simp] theorem lockOf_lst (μ : Store) (xs : List D) : lockOf μ (.lst xs) = none := (rfl)
@[simp] theorem seqOf_tup (μ : Store) (xs : List D) : seqOf μ (.tup xs) = some xs := (rfl)
@[simp] theorem seqOf_lst (μ : Store) (xs : List D) : seqOf μ (.lst xs) = some xs := (rfl)
@[simp] theorem seqOf_cell (μ : Store) (k : Nat) : seqOf μ (.cell k) = (μ[k]?).map (·.xs) := (rfl)
@[simp] theorem listOf_lst (μ : Store) (xs : List D) : listOf μ (.lst xs) = some xs := (rfl)
@[simp] theorem listOf_cell (μ : Store) (k : Nat) : listOf μ (.cell k) = (μ[k]?).map (·.xs) := (rfl)
@[simp] theorem leave_nx (own : Bool) (n : Nat) (ρ : Env) (μ : Store) : leave own n (.ok (.nx ρ) μ) = .ok .non (μ.take n) := (rfl)
@[simp] theorem leave_non (own : Bool) (n : Nat) (μ : Store) : leave own n (.ok (.ret .non) μ) = .ok .non (μ.take n) := (rfl)
@[simp] theorem leave_bl (own : Bool) (n : Nat) (b : Bool) (μ : Store) : leave own n (.ok (.ret (.bl b)) μ) = .ok (.bl b) (μ.take n) := (rfl)
@[simp] theorem leave_int (own : Bool) (n : Nat) (i : Int) (μ : Store) : leave own n (.ok (.ret (.int i)) μ) = .ok (.int i) (μ.take n) := (rfl)
@[simp] theorem leave_str (own : Bool) (n : Nat) (x : Str) (μ : Store) : leave own n (.ok (.ret (.str x)) μ) = .ok (.str x) (μ.take n) := (rfl)
@[simp] theorem leave_tup (own : Bool) (n : Nat) (xs : List D) (μ : Store) : leave own n (.ok (.ret (.tup xs)) μ) = .ok (.tup xs) (μ.take n) := (rfl)
@[simp] theorem leave_lst (own : Bool) (n : Nat) (xs : List D) (μ : Store) : leave own n (.ok (.ret (.lst xs)) μ) = .ok (.lst xs) (μ.take n) := (rfl)
@[simp] theorem leave_ex (own : Bool) (n : Nat) (e : Exc) (μ : Store) : leave own n (.ex e μ) = .ex e (μ.take n) := (rfl)
/-! ### comprehensions, loops -/
theorem fit_of {xs : List D} (h : xs.length ≤ sizeLine) : fitL xs = some xs := if_pos h
theorem compL_ok {f : D → Store → Rs (Option D)} {μ : Store} {g : D → Option D} : ∀ {xs : List D}, (∀ x ∈ xs, f x μ = .ok (g x) μ) → compL f xs μ = .ok (xs.filterMap g) μ
  | [], _ => rfl
  | x :: xs, h => by
    rw [compL, h x (List.mem_cons_self ..), Rs.bind_ok, compL_ok fun y hy => h y (List.mem_cons_of_mem _ hy), Rs.bind_ok, List.filterMap_cons]
    cases g x <;> rfl
theorem compR_ok {f : D → Store → Rs (Option D)} {μ : Store} {g : D → Option D} {xs : List D} (h : ∀ x ∈ xs, f x μ = .ok (g x) μ) (hl : xs.length ≤ sizeLine) : compR (.ok (xs, none) μ) f = .ok (xs.filterMap g) μ := by
  unfold compR
  rw [Rs.bind_ok, locked_none, compL_ok h]
  show (fitR (Rs.calm (.ok (xs.filterMap g) μ))).un none = _
  rw [un_none]
  unfold fitR
  rw [Rs.calm_ok, Rs.bind_ok, if_pos (Nat.le_trans (List.length_filterMap_le _ _) hl)]
theorem compR_map {f : D → Store → Rs (Option D)} {μ : Store} {g : D → D} {xs : List D} (h : ∀ x ∈ xs, f x μ = .ok (some (g x)) μ) (hl : xs.length ≤ sizeLine) : compR (.ok (xs, none) μ) f = .ok (xs.map g) μ := by
  rw [compR_ok (g := fun x => some (g x)) h hl]
  congr 1
  exact (List.filterMap_eq_map (f := g) ▸ rfl)
/-- by what holds of what is still to come -/
theorem loop_inv {f : D → Env → Store → Rs Flow} (I : List D → Env → Store → Prop) : ∀ {xs : List D} {ρ : Env} {μ : Store}, I xs ρ μ → (∀ x r ρ μ, I (x :: r) ρ μ → ∃ ρ' μ', f x ρ μ = .ok (.nx ρ') μ' ∧ I r ρ' μ') → ∃ ρ' μ', loopL f xs ρ μ = .ok (.nx ρ') μ' ∧ I [] ρ' μ'
  | [], ρ, μ, h, _ => ⟨ρ, μ, rfl, h⟩
  | x :: xs, ρ, μ, h, st => by
    obtain ⟨ρ1, μ1, e, h1⟩ := st x xs ρ μ h
    obtain ⟨ρ2, μ2, e2, h2⟩ := loop_inv I h1 st
    exact ⟨ρ2, μ2, by rw [loopL, e, Rs.bind_ok]; exact e2, h2⟩
/-- k turns are left at most -/
theorem while_inv {c : Env → Store → Rs Bool} {f : Env → Store → Rs Flow} (I : Nat → Env → Store → Prop) (P : Env → Store → Prop)
    (st : ∀ k ρ μ, I k ρ μ → (∃ μ1, c ρ μ = .ok false μ1 ∧ P ρ μ1) ∨ ∃ μ1 ρ' μ' j, c ρ μ = .ok true μ1 ∧ f ρ μ1 = .ok (.nx ρ') μ' ∧ j < k ∧ I j ρ' μ') :
    ∀ (n k : Nat) {ρ : Env} {μ : Store}, k < n → I k ρ μ → ∃ ρ' μ', whileL c f n ρ μ = .ok (.nx ρ') μ' ∧ P ρ' μ'
  | 0, k, ρ, μ, h, _ => absurd h (Nat.not_lt_zero _)
  | n + 1, k, ρ, μ, h, hI => by
    rcases st k ρ μ hI with ⟨μ1, e, p⟩ | ⟨μ1, ρ', μ', j, e, e2, hj, h2⟩
    · exact ⟨ρ, μ1, by rw [whileL, e]; rfl, p⟩
    · obtain ⟨ρ2, μ2, e3, p⟩ := while_inv I P st n j (by omega) h2
      exact ⟨ρ2, μ2, by rw [whileL, e]; show ((f ρ μ1).bind _) = _; rw [e2]; exact e3, p⟩
end DL
/-! PE: kinds of data by Lean types: their forms as data, equality. No table of defs here. -/
namespace DL
open PySem
class En (α : Type) [DecidableEq α] where
  en : α → D
  dp : Nat
  data : ∀ a, dataD (en a) = true
  lay : ∀ a, PyData.canLay0 (toP (en a)) = true
  dep : ∀ a, PyData.depth (toP (en a)) ≤ dp
  eqv : ∀ a b, PyData.eqv (toP (en a)) (toP (en b)) = decide (a = b)
open En (en)
instance : En Int where
  en := .int
  dp := 0
  data _ := rfl
  lay _ := rfl
  dep _ := Nat.le_refl _
  eqv a b := by
    show PyData.eqv (.int a) (.int b) = _
    rw [PyData.eqv]
    rfl
instance : En Bool where
  en := .bl
  dp := 0
  data _ := rfl
  lay _ := rfl
  dep _ := Nat.le_refl _
  eqv a b := by
    show PyData.eqv (.bool a) (.bool b) = _
    rw [PyData.eqv]
    cases a <;> cases b <;> rfl
section
variable {α : Type} [DecidableEq α] [En α]
theorem en_dataL : ∀ xs : List α, dataL (xs.map en) = true
  | [] => rfl
  | x :: xs => by
    rw [List.map_cons, dataL, En.data, en_dataL xs]
    rfl
theorem en_layL : ∀ xs : List α, PyData.canLayAll0 (toPL (xs.map en)) = true
  | [] => rfl
  | x :: xs => by
    rw [List.map_cons, toPL, PyData.canLayAll0, En.lay, en_layL xs]
    rfl
theorem en_depL : ∀ xs : List α, PyData.depthAll (toPL (xs.map en)) ≤ En.dp α
  | [] => Nat.zero_le _
  | x :: xs => by
    rw [List.map_cons, toPL, PyData.depthAll]
    exact Nat.max_le.mpr ⟨En.dep x, en_depL xs⟩
theorem en_eqvL : ∀ xs ys : List α, PyData.eqvAll (toPL (xs.map en)) (toPL (ys.map en)) = decide (xs = ys)
  | [], [] => by rw [List.map_nil, toPL, PyData.eqvAll]; simp
  | [], y :: ys => by rw [List.map_nil, List.map_cons, toPL, toPL, PyData.eqvAll]; simp
  | x :: xs, [] => by rw [List.map_nil, List.map_cons, toPL, toPL, PyData.eqvAll]; simp
  | x :: xs, y :: ys => by
    rw [List.map_cons, List.map_cons, toPL, toPL, PyData.eqvAll, En.eqv, en_eqvL xs ys]
    by_cases h : x = y <;> by_cases h' : xs = ys <;> simp [h, h']
theorem en_inj {a b : α} (h : (en a : D) = en b) : a = b := by
  have e := En.eqv a b
  rw [h, En.eqv b b] at e
  simpa using e.symm
/-- a list as a tuple -/
structure Tu (α : Type) where
  xs : List α
  deriving DecidableEq
instance : En (Tu α) where
  en t := .tup (t.xs.map en)
  dp := En.dp α + 1
  data t := by rw [dataD]; exact en_dataL _
  lay t := by
    rw [toP, PyData.canLay0]
    exact en_layL _
  dep t := by
    rw [toP, PyData.depth]
    exact Nat.succ_le_succ (en_depL _)
  eqv a b := by
    rw [toP, toP, PyData.eqv, en_eqvL]
    cases a
    cases b
    simp
/-- a list as a list -/
structure Li (α : Type) where
  xs : List α
  deriving DecidableEq
instance : En (Li α) where
  en t := .lst (t.xs.map en)
  dp := En.dp α + 1
  data t := by rw [dataD]; exact en_dataL _
  lay t := by
    rw [toP, PyData.canLay0]
    exact en_layL _
  dep t := by
    rw [toP, PyData.depth]
    exact Nat.succ_le_succ (en_depL _)
  eqv a b := by
    rw [toP, toP, PyData.eqv, en_eqvL]
    cases a
    cases b
    simp
variable {β : Type} [DecidableEq β] [En β]
instance : En (α × β) where
  en t := .tup [en t.1, en t.2]
  dp := max (En.dp α) (En.dp β) + 1
  data t := by
    rw [dataD, dataL, dataL, dataL, En.data, En.data]
    rfl
  lay t := by
    rw [toP, PyData.canLay0, toPL, toPL, toPL, PyData.canLayAll0, PyData.canLayAll0, PyData.canLayAll0, En.lay, En.lay]
    rfl
  dep t := by
    rw [toP, PyData.depth, toPL, toPL, toPL, PyData.depthAll, PyData.depthAll, PyData.depthAll]
    have h1 := En.dep t.1
    have h2 := En.dep t.2
    omega
  eqv a b := by
    rw [toP, toP, PyData.eqv, toPL, toPL, toPL, toPL, toPL, PyData.eqvAll, PyData.eqvAll, En.eqv, En.eqv]
    obtain ⟨a1, a2⟩ := a
    obtain ⟨b1, b2⟩ := b
    rw [show toPL [] = [] from rfl, PyData.eqvAll]
    by_cases h : a1 = b1 <;> by_cases h' : a2 = b2 <;> simp [h, h']
theorem en_ok {a : α} (h : En.dp α ≤ 64) : okE (en a) = true := by
  unfold okE SeqAt.shaped
  rw [En.data, En.lay, decide_eq_true (Nat.le_trans (En.dep a) h)]
  rfl
theorem res_data {μ : Store} {d : D} (h : dataD d = true) : res μ d = some d := by
  cases d <;> first | rfl | (cases h)
theorem eq_en {μ : Store} (h : En.dp α ≤ 64) (a b : α) : cmpD μ .Eq (en a) (en b) = some (decide (a = b)) := by
  show eqD μ (en a) (en b) = _
  unfold eqD
  rw [res_data (En.data a), res_data (En.data b)]
  show (if (okE (en a) && okE (en b)) = true then some (PyData.eqv (toP (en a)) (toP (en b))) else none) = _
  rw [en_ok h, en_ok h, En.eqv]
  rfl
theorem ne_en {μ : Store} (h : En.dp α ≤ 64) (a b : α) : cmpD μ .NotEq (en a) (en b) = some (decide (a ≠ b)) := by
  show (cmpD μ .Eq (en a) (en b)).map (!·) = _
  rw [eq_en h]
  by_cases h : a = b <;> simp [h]
/-- a list that may change beside one written -/
theorem eq_cell {μ : Store} {k st : Nat} (h : En.dp α ≤ 63) (xs ys : List α) (hk : μ[k]? = some ⟨st, xs.map en⟩) : cmpD μ .Eq (.cell k) (.lst (ys.map en)) = some (decide (xs = ys)) := by
  have q := eq_en (μ := μ) (α := Li α) (Nat.succ_le_succ h) ⟨xs⟩ ⟨ys⟩
  have e : cmpD μ .Eq (.cell k) (.lst (ys.map en)) = cmpD μ .Eq (.lst (xs.map en)) (.lst (ys.map en)) := by
    show eqD μ (.cell k) (.lst (ys.map en)) = eqD μ (.lst (xs.map en)) (.lst (ys.map en))
    unfold eqD
    rw [show res μ (.cell k) = some (.lst (xs.map en)) from by show (μ[k]?).map (fun c => D.lst c.xs) = _; rw [hk]; rfl, res_data (d := .lst (xs.map en)) (En.data (⟨xs⟩ : Li α))]
  rw [e]
  refine q.trans ?_
  by_cases h : xs = ys <;> simp [h]
theorem ne_cell {μ : Store} {k st : Nat} (h : En.dp α ≤ 63) (xs ys : List α) (hk : μ[k]? = some ⟨st, xs.map en⟩) : cmpD μ .NotEq (.cell k) (.lst (ys.map en)) = some (decide (xs ≠ ys)) := by
  show (cmpD μ .Eq (.cell k) (.lst (ys.map en))).map (!·) = _
  rw [eq_cell h xs ys hk]
  by_cases h : xs = ys <;> simp [h]
end
end DL
namespace Tab
open PySem DL
theorem r_0 (n : Nat) (d0 : D) (μ : Store) : run fs (n + 1) 0 [d0] μ = leave false μ.length (exs (run fs n) f_0.body [some d0] μ) := rfl
theorem r_1 (n : Nat) (d0 d1 d2 : D) (μ : Store) : run fs (n + 1) 1 [d0, d1, d2] μ = leave false μ.length (exs (run fs n) f_1.body [some d0, some d1, some d2] μ) := rfl
theorem r_2 (n : Nat) (d0 d1 d2 : D) (μ : Store) : run fs (n + 1) 2 [d0, d1, d2] μ = leave false μ.length (exs (run fs n) f_2.body [some d0, some d1, some d2] μ) := rfl
theorem r_3 (n : Nat) (d0 d1 d2 : D) (μ : Store) : run fs (n + 1) 3 [d0, d1, d2] μ = leave false μ.length (exs (run fs n) f_3.body [some d0, some d1, some d2] μ) := rfl
theorem r_4 (n : Nat) (d0 : D) (μ : Store) : run fs (n + 1) 4 [d0] μ = leave false μ.length (exs (run fs n) f_4.body [some d0, none, none] μ) := rfl
theorem r_5 (n : Nat) (d0 : D) (μ : Store) : run fs (n + 1) 5 [d0] μ = leave false μ.length (exs (run fs n) f_5.body [some d0, none] μ) := rfl
theorem r_6 (n : Nat) (d0 : D) (μ : Store) : run fs (n + 1) 6 [d0] μ = leave false μ.length (exs (run fs n) f_6.body [some d0] μ) := rfl
theorem r_7 (n : Nat) (d0 : D) (μ : Store) : run fs (n + 1) 7 [d0] μ = leave false μ.length (exs (run fs n) f_7.body [some d0, none, none] μ) := rfl
theorem r_8 (n : Nat) (d0 : D) (μ : Store) : run fs (n + 1) 8 [d0] μ = leave false μ.length (exs (run fs n) f_8.body [some d0, none, none, none] μ) := rfl
theorem r_9 (n : Nat) (d0 : D) (μ : Store) : run fs (n + 1) 9 [d0] μ = leave false μ.length (exs (run fs n) f_9.body [some d0, none] μ) := rfl
theorem r_10 (n : Nat) (d0 d1 : D) (μ : Store) : run fs (n + 1) 10 [d0, d1] μ = leave false μ.length (exs (run fs n) f_10.body [some d0, some d1, none, none, none, none, none] μ) := rfl
theorem r_11 (n : Nat) (d0 d1 : D) (μ : Store) : run fs (n + 1) 11 [d0, d1] μ = leave false μ.length (exs (run fs n) f_11.body [some d0, some d1, none] μ) := rfl
theorem r_12 (n : Nat) (d0 d1 : D) (μ : Store) : run fs (n + 1) 12 [d0, d1] μ = leave false μ.length (exs (run fs n) f_12.body [some d0, some d1, none, none] μ) := rfl
theorem r_13 (n : Nat) (d0 d1 : D) (μ : Store) : run fs (n + 1) 13 [d0, d1] μ = leave false μ.length (exs (run fs n) f_13.body [some d0, some d1] μ) := rfl
theorem r_14 (n : Nat) (d0 : D) (μ : Store) : run fs (n + 1) 14 [d0] μ = leave false μ.length (exs (run fs n) f_14.body [some d0, none] μ) := rfl
theorem r_15 (n : Nat) (d0 d1 : D) (μ : Store) : run fs (n + 1) 15 [d0, d1] μ = leave false μ.length (exs (run fs n) f_15.body [some d0, some d1, none, none, none, none] μ) := rfl
theorem r_16 (n : Nat) (d0 d1 : D) (μ : Store) : run fs (n + 1) 16 [d0, d1] μ = leave false μ.length (exs (run fs n) f_16.body [some d0, some d1, none] μ) := rfl
theorem r_17 (n : Nat) (d0 : D) (μ : Store) : run fs (n + 1) 17 [d0] μ = leave false μ.length (exs (run fs n) f_17.body [some d0, none, none, none] μ) := rfl
theorem r_18 (n : Nat) (d0 d1 d2 : D) (μ : Store) : run fs (n + 1) 18 [d0, d1, d2] μ = leave false μ.length (exs (run fs n) f_18.body [some d0, some d1, some d2, none, none, none, none, none] μ) := rfl
theorem r_19 (n : Nat) (d0 d1 : D) (μ : Store) : run fs (n + 1) 19 [d0, d1] μ = leave false μ.length (exs (run fs n) f_19.body [some d0, some d1, none, none, none, none, none] μ) := rfl
theorem r_20 (n : Nat) (d0 : D) (μ : Store) : run fs (n + 1) 20 [d0] μ = leave false μ.length (exs (run fs n) f_20.body [some d0, none, none, none, none, none] μ) := rfl
theorem r_21 (n : Nat) (d0 : D) (μ : Store) : run fs (n + 1) 21 [d0] μ = leave false μ.length (exs (run fs n) f_21.body [some d0] μ) := rfl
theorem r_22 (n : Nat) (d0 : D) (μ : Store) : run fs (n + 1) 22 [d0] μ = leave false μ.length (exs (run fs n) f_22.body [some d0] μ) := rfl
theorem r_23 (n : Nat) (d0 : D) (μ : Store) : run fs (n + 1) 23 [d0] μ = leave false μ.length (exs (run fs n) f_23.body [some d0] μ) := rfl
theorem r_24 (n : Nat) (d0 : D) (μ : Store) : run fs (n + 1) 24 [d0] μ = leave false μ.length (exs (run fs n) f_24.body [some d0] μ) := rfl
theorem r_25 (n : Nat) (d0 : D) (μ : Store) : run fs (n + 1) 25 [d0] μ = leave false μ.length (exs (run fs n) f_25.body [some d0] μ) := rfl
theorem r_26 (n : Nat) (d0 : D) (μ : Store) : run fs (n + 1) 26 [d0] μ = leave false μ.length (exs (run fs n) f_26.body [some d0, none, none] μ) := rfl
theorem r_27 (n : Nat) (d0 d1 : D) (μ : Store) : run fs (n + 1) 27 [d0, d1] μ = leave false μ.length (exs (run fs n) f_27.body [some d0, some d1] μ) := rfl
theorem r_28 (n : Nat) (d0 d1 : D) (μ : Store) : run fs (n + 1) 28 [d0, d1] μ = leave false μ.length (exs (run fs n) f_28.body [some d0, some d1] μ) := rfl
theorem r_29 (n : Nat) (d0 : D) (μ : Store) : run fs (n + 1) 29 [d0] μ = leave false μ.length (exs (run fs n) f_29.body [some d0] μ) := rfl
theorem r_30 (n : Nat) (d0 : D) (μ : Store) : run fs (n + 1) 30 [d0] μ = leave true μ.length (exs (run fs n) f_30.body [some d0, none] μ) := rfl
theorem r_31 (n : Nat) (d0 d1 : D) (μ : Store) : run fs (n + 1) 31 [d0, d1] μ = leave false μ.length (exs (run fs n) f_31.body [some d0, some d1, none, none] μ) := rfl
theorem r_32 (n : Nat) (d0 d1 : D) (μ : Store) : run fs (n + 1) 32 [d0, d1] μ = leave false μ.length (exs (run fs n) f_32.body [some d0, some d1] μ) := rfl
theorem r_33 (n : Nat) (d0 : D) (μ : Store) : run fs (n + 1) 33 [d0] μ = leave false μ.length (exs (run fs n) f_33.body [some d0] μ) := rfl
theorem r_34 (n : Nat) (d0 d1 : D) (μ : Store) : run fs (n + 1) 34 [d0, d1] μ = leave false μ.length (exs (run fs n) f_34.body [some d0, some d1, none, none, none] μ) := rfl
theorem r_35 (n : Nat) (d0 : D) (μ : Store) : run fs (n + 1) 35 [d0] μ = leave false μ.length (exs (run fs n) f_35.body [some d0, none, none] μ) := rfl
theorem r_36 (n : Nat) (d0 d1 : D) (μ : Store) : run fs (n + 1) 36 [d0, d1] μ = leave false μ.length (exs (run fs n) f_36.body [some d0, some d1, none, none, none] μ) := rfl
theorem r_37 (n : Nat) (d0 d1 : D) (μ : Store) : run fs (n + 1) 37 [d0, d1] μ = leave false μ.length (exs (run fs n) f_37.body [some d0, some d1, none, none] μ) := rfl
theorem r_38 (n : Nat) (d0 d1 : D) (μ : Store) : run fs (n + 1) 38 [d0, d1] μ = leave false μ.length (exs (run fs n) f_38.body [some d0, some d1, none, none] μ) := rfl
theorem r_39 (n : Nat) (d0 : D) (μ : Store) : run fs (n + 1) 39 [d0] μ = leave false μ.length (exs (run fs n) f_39.body [some d0, none, none, none] μ) := rfl
theorem r_40 (n : Nat) (d0 d1 : D) (μ : Store) : run fs (n + 1) 40 [d0, d1] μ = leave false μ.length (exs (run fs n) f_40.body [some d0, some d1, none] μ) := rfl
theorem r_41 (n : Nat) (d0 d1 : D) (μ : Store) : run fs (n + 1) 41 [d0, d1] μ = leave false μ.length (exs (run fs n) f_41.body [some d0, some d1, none] μ) := rfl
theorem r_42 (n : Nat) (d0 d1 : D) (μ : Store) : run fs (n + 1) 42 [d0, d1] μ = leave false μ.length (exs (run fs n) f_42.body [some d0, some d1, none, none, none, none, none, none] μ) := rfl
theorem r_43 (n : Nat) (d0 d1 : D) (μ : Store) : run fs (n + 1) 43 [d0, d1] μ = leave false μ.length (exs (run fs n) f_43.body [some d0, some d1, none, none, none] μ) := rfl
theorem r_44 (n : Nat) (d0 d1 : D) (μ : Store) : run fs (n + 1) 44 [d0, d1] μ = leave false μ.length (exs (run fs n) f_44.body [some d0, some d1, none, none, none, none, none, none] μ) := rfl
theorem r_45 (n : Nat) (d0 : D) (μ : Store) : run fs (n + 1) 45 [d0] μ = leave false μ.length (exs (run fs n) f_45.body [some d0, none, none, none, none, none, none, none, none] μ) := rfl
theorem r_46 (n : Nat) (d0 : D) (μ : Store) : run fs (n + 1) 46 [d0] μ = leave false μ.length (exs (run fs n) f_46.body [some d0, none, none, none, none, none, none, none, none, none, none, none, none] μ) := rfl
theorem r_47 (n : Nat) (μ : Store) : run fs (n + 1) 47 [] μ = leave false μ.length (exs (run fs n) f_47.body [none, none, none] μ) := rfl
theorem r_48 (n : Nat) (d0 : D) (μ : Store) : run fs (n + 1) 48 [d0] μ = leave false μ.length (exs (run fs n) f_48.body [some d0, none, none] μ) := rfl
end Tab
set_option maxHeartbeats 1000000
namespace Tab
open PySem DL
/-! forms: lists of whole numbers -/
abbrev ti (l : List Int) : D := .tup (l.map .int)
/-- a form at m -/
def pv (l : List Int) (m : Int) : Int := l.foldr (fun o f => f * m + o) 0
@[simp] theorem pv_nil (m : Int) : pv [] m = 0 := rfl
@[simp] theorem pv_cons (o : Int) (l : List Int) (m : Int) : pv (o :: l) m = pv l m * m + o := rfl
theorem intB {n : Nat} {μ : Store} (i : Int) : run fs (n + 1) 0 [.int i] μ = .ok (.bl true) μ := by simp [r_0, f_0, isiD, tyD]
theorem s_number {n : Nat} {μ : Store} (i lo hi : Int) : run fs (n + 2) 1 [.int i, .int lo, .int hi] μ = .ok (.bl (decide (lo ≤ i ∧ i ≤ hi))) μ := by
  simp [r_1, f_1, intB, cmpD]
  by_cases h : lo ≤ i <;> simp [h]
theorem s_need {n : Nat} {μ : Store} (i lo hi : Int) (h : lo ≤ i ∧ i ≤ hi) : run fs (n + 3) 2 [.int i, .int lo, .int hi] μ = .ok .non μ := by
  simp [r_2, f_2, s_number, h]
theorem s_tupleOf {n : Nat} {μ : Store} (xs : List D) (lo hi : Int) : run fs (n + 1) 3 [.tup xs, .int lo, .int hi] μ = .ok (.bl (decide (lo ≤ xs.length ∧ (xs.length : Int) ≤ hi))) μ := by
  simp [r_3, f_3, isiD, tyD, biD, cmpD]
  by_cases h : lo ≤ xs.length <;> simp [h]
/-- a form at a value -/
theorem s_value {n : Nat} {μ : Store} (l : List Int) (m : Int) (h : ∀ s, s <:+ l → mulOk (pv s m) m = true) : run fs (n + 1) 12 [ti l, .int m] μ = .ok (.int (pv l m)) μ := by
  obtain ⟨ρ', μ', e, I⟩ := loop_inv (f := loopF (run fs n) (.var 3) (.set (.var 2) (.bin .Add (.bin .Mult (.var 2) (.var 1)) (.var 3))))
    (fun xs ρ μ' => μ' = μ ∧ ∃ (s t : List Int) (z : Option D), l.reverse = s ++ t ∧ xs = t.map D.int ∧ ρ = [some (ti l), some (.int m), some (.int (pv s.reverse m)), z])
    (xs := (l.map D.int).reverse) (ρ := [some (ti l), some (.int m), some (.int 0), none]) (μ := μ) ⟨rfl, [], l.reverse, none, rfl, by rw [List.map_reverse], rfl⟩
    (fun x r ρ μ' hI => by
      obtain ⟨rfl, s, t, z, e1, e2, rfl⟩ := hI
      cases t with
      | nil => cases e2
      | cons o t =>
        cases e2
        have hs : s.reverse <:+ l := by
          refine ⟨(o :: t).reverse, ?_⟩
          rw [← List.reverse_append, ← e1, List.reverse_reverse]
        refine ⟨_, _, ?_, rfl, s ++ [o], t, some (.int o), by rw [e1, List.append_assoc]; rfl, rfl, rfl⟩
        simp [loopF, binD, h _ hs])
  obtain ⟨rfl, s, t, z, e1, e2, rfl⟩ := I
  have ht : t = [] := by cases t with
    | nil => rfl
    | cons _ _ => cases e2
  subst ht
  rw [List.append_nil] at e1
  have hl : s.reverse = l := by rw [← e1, List.reverse_reverse]
  rw [hl] at e
  simp [r_12, f_12, slsD, slsX, e]
end Tab
namespace Tab
open PySem DL
theorem eq_int (μ : Store) (i j : Int) : cmpD μ .Eq (.int i) (.int j) = some (decide (i = j)) := by
  show (if okE (.int i) && okE (.int j) then some (PyData.eqv (toP (.int i)) (toP (.int j))) else none) = _
  have h1 : okE (D.int i) = true := by rfl
  have h2 : okE (D.int j) = true := by rfl
  rw [h1, h2]
  show some (PyData.eqv (.int i) (.int j)) = _
  rw [PyData.eqv]
  rfl
theorem ne_int (μ : Store) (i j : Int) : cmpD μ .NotEq (.int i) (.int j) = some (decide (i ≠ j)) := by
  show (cmpD μ .Eq (.int i) (.int j)).map (!·) = _
  rw [eq_int]
  simp
theorem idx_nat {μ : Store} {x : D} {xs : List D} {k : Nat} {d : D} (h : seqOf μ x = some xs) (hk : xs[k]? = some d) : idxD μ x (.int (k : Int)) = some d := by
  unfold idxD
  rw [h]
  exact L2.atI_nat hk
theorem cut_to {xs : List D} {k : Nat} (hk : k ≤ xs.length) : cutD xs none (some (k : Int)) = xs.take k := by
  unfold cutD
  rw [HT.sIx_nat, HT.sIx_none, Nat.min_eq_left hk]
  simp
theorem cut_from {xs : List D} {k : Nat} (hk : k ≤ xs.length) : cutD xs (some (k : Int)) none = xs.drop k := by
  unfold cutD
  rw [HT.sIx_nat, HT.sIx_none, Nat.min_eq_left hk]
  exact List.take_of_length_le (by simp)
/-! lean: no noughts at the end -/
def ln : List Int → List Int
  | [] => []
  | a :: l => match ln l with
    | [] => if a = 0 then [] else [a]
    | b :: r => a :: b :: r
theorem ln_cons {a : Int} {l : List Int} : ln (a :: l) = if ln l = [] then (if a = 0 then [] else [a]) else a :: ln l := by
  rw [ln]
  split
  · rename_i e
    rw [if_pos e]
  · rename_i b r e
    rw [if_neg (by rw [e]; simp), e]
theorem ln_len : ∀ l : List Int, (ln l).length ≤ l.length
  | [] => Nat.le_refl _
  | a :: l => by
    have := ln_len l
    rw [ln_cons]
    split
    · split <;> simp
    · simp; omega
theorem ln_pv : ∀ (l : List Int) (x : Int), pv (ln l) x = pv l x
  | [], _ => rfl
  | a :: l, x => by
    have := ln_pv l x
    rw [ln_cons]
    split
    · rename_i e
      rw [e] at this
      split
      · rename_i e0
        rw [pv_cons, ← this, e0]
        simp
      · rw [pv_cons, pv_cons, ← this]
    · rw [pv_cons, pv_cons, this]
theorem ln_take : ∀ l : List Int, ln l = l.take (ln l).length
  | [] => rfl
  | a :: l => by
    have := ln_take l
    rw [ln_cons]
    split
    · split <;> simp
    · rw [List.length_cons, List.take_succ_cons, ← this]
theorem ln_rest : ∀ (l : List Int) (i : Nat) (h : i < l.length), (ln l).length ≤ i → l[i] = 0
  | [], i, h, _ => by simp at h
  | a :: l, i, h, hi => by
    rw [ln_cons] at hi
    split at hi
    · rename_i e
      split at hi
      · cases i with
        | zero => simpa
        | succ i => exact ln_rest l i (by simpa using h) (by rw [e]; simp)
      · cases i with
        | zero => simp at hi
        | succ i => exact ln_rest l i (by simpa using h) (by rw [e]; simp)
    · cases i with
      | zero => simp at hi
      | succ i => exact ln_rest l i (by simpa using h) (by simpa using hi)
theorem ln_last : ∀ (l : List Int) (k : Nat) (h : k < l.length), (ln l).length = k + 1 → l[k] ≠ 0
  | [], k, h, _ => by simp at h
  | a :: l, k, h, e => by
    rw [ln_cons] at e
    split at e
    · rename_i e0
      split at e
      · simp at e
      · rename_i ne
        cases k with
        | zero => simpa
        | succ k => simp at e
    · rename_i ne
      cases k with
      | zero =>
        simp at e
        exact absurd e ne
      | succ k => exact ln_last l k (by simpa using h) (by simpa using e)
theorem ln_end (l : List Int) (h : ln l ≠ []) : (ln l).getLast h ≠ 0 := by
  have hp : 0 < (ln l).length := List.length_pos_iff.mpr h
  have hl := ln_len l
  have e := ln_last l ((ln l).length - 1) (by omega) (by omega)
  rw [List.getLast_eq_getElem]
  have := ln_take l
  intro z
  apply e
  have q : (ln l)[(ln l).length - 1]'(by omega) = l[(ln l).length - 1]'(by omega) := by
    have : ∀ (m : List Int) (hm : m = l.take (ln l).length) (i : Nat) (h1 : i < m.length) (h2 : i < l.length), m[i] = l[i] := by
      intro m hm i h1 h2
      subst hm
      rw [List.getElem_take]
    exact this _ (ln_take l) _ _ _
  rw [← q]
  exact z
theorem turns_big {k : Nat} (h : k ≤ 1000000) : k < turns := by
  have e : turns = 18446744073709551616 := rfl
  omega
theorem s_lean {n : Nat} {μ : Store} (l : List Int) (hl : l.length ≤ 1000) : run fs (n + 1) 9 [.lst (l.map .int)] μ = .ok (ti (ln l)) μ := by
  obtain ⟨ρ', μ', e, I⟩ := while_inv (c := condF (run fs n) (.and (.cmp .Gt (.var 1) (.int 0)) (.cmp .Eq (.idx (.var 0) (.bin .Sub (.var 1) (.int 1))) (.int 0)))) (f := bodyF (run fs n) (.set (.var 1) (.bin .Sub (.var 1) (.int 1))))
    (fun k ρ μ' => μ' = μ ∧ (ln l).length ≤ k ∧ k ≤ l.length ∧ ρ = [some (.lst (l.map .int)), some (.int (k : Nat))])
    (fun ρ μ' => μ' = μ ∧ ρ = [some (.lst (l.map .int)), some (.int ((ln l).length : Nat))])
    (fun k ρ μ' hI => by
      obtain ⟨rfl, h1, h2, rfl⟩ := hI
      cases k with
      | zero =>
        have e0 : (ln l).length = 0 := by omega
        refine .inl ⟨μ', ?_, rfl, by rw [e0]⟩
        simp [condF, cmpD]
      | succ k =>
        have hk : k < l.length := by omega
        have ei : idxD μ' (.lst (l.map .int)) (.int ((k : Nat) : Int)) = some (.int l[k]) := idx_nat rfl (by rw [List.getElem?_map, List.getElem?_eq_getElem hk]; rfl)
        have es : ((k + 1 : Nat) : Int) - 1 = (k : Nat) := by omega
        have ep : decide (0 < ((k + 1 : Nat) : Int)) = true := by simp
        have hc : condF (run fs n) (.and (.cmp .Gt (.var 1) (.int 0)) (.cmp .Eq (.idx (.var 0) (.bin .Sub (.var 1) (.int 1))) (.int 0))) [some (.lst (l.map .int)), some (.int ((k + 1 : Nat) : Int))] μ' = .ok (decide (l[k] = 0)) μ' := by
          have eg : cmpD μ' .Gt (.int ((k + 1 : Nat) : Int)) (.int 0) = some true := by show some (decide (0 < ((k + 1 : Nat) : Int))) = _; rw [ep]
          have eb : binD μ' .Sub (.int ((k + 1 : Nat) : Int)) (.int 1) = some (.int (k : Nat)) := by show some (D.int _) = _; rw [es]
          unfold condF
          simp only [ev_and, ev_cmp, ev_var, ev_int, ev_idx, ev_bin, List.getElem?_cons_zero, List.getElem?_cons_succ, Rs.bind_ok, eg, eb, ei, Option.map_some, Rs.of_some, onB_bl, if_true, eq_int, asB_bl]
        by_cases e0 : (ln l).length = k + 1
        · refine .inl ⟨_, ?_, rfl, by rw [e0]⟩
          rw [hc, decide_eq_false (ln_last l k hk e0)]
        · have hz : l[k] = 0 := ln_rest l k hk (by omega)
          exact .inr ⟨_, _, _, k, by rw [hc, decide_eq_true hz], by simp [bodyF, binD, es], by omega, rfl, by omega, by omega, rfl⟩)
    turns l.length (ρ := [some (.lst (l.map .int)), some (.int (l.length : Nat))]) (μ := μ) (turns_big (Nat.le_trans hl (by decide))) ⟨rfl, ln_len l, Nat.le_refl _, rfl⟩
  obtain ⟨rfl, rfl⟩ := I
  have ec : cutD (l.map D.int) none (some (((ln l).length : Nat) : Int)) = (ln l).map .int := by
    rw [cut_to (by rw [List.length_map]; exact ln_len l), ← List.map_take, ← ln_take l]
  simp [r_9, f_9, biD, e, slcD, ec]
end Tab
namespace Tab
open PySem DL
theorem line_big {k : Nat} (h : k ≤ 1000000) : k ≤ sizeLine := by
  have e : sizeLine = 16777216 := rfl
  omega
/-! coefficients -/
def cf (l : List Int) (i : Nat) : Int := l.getD i 0
@[simp] theorem cf_nil (i : Nat) : cf [] i = 0 := by simp [cf]
@[simp] theorem cf_zero (a : Int) (l : List Int) : cf (a :: l) 0 = a := rfl
@[simp] theorem cf_succ (a : Int) (l : List Int) (i : Nat) : cf (a :: l) (i + 1) = cf l i := rfl
theorem cf_ge {l : List Int} {i : Nat} (h : l.length ≤ i) : cf l i = 0 := by
  unfold cf
  rw [List.getD_eq_getElem?_getD, List.getElem?_eq_none h]
  rfl
theorem cf_lt {l : List Int} {i : Nat} (h : i < l.length) : cf l i = l[i] := by
  unfold cf
  rw [List.getD_eq_getElem?_getD, List.getElem?_eq_getElem h]
  rfl
theorem cf_ln : ∀ (l : List Int) (i : Nat), cf (ln l) i = cf l i
  | [], _ => rfl
  | a :: l, i => by
    have ih := cf_ln l
    rw [ln_cons]
    split
    · rename_i e
      rw [e] at ih
      split
      · rename_i e0
        cases i with
        | zero => simp [e0]
        | succ i => rw [cf_succ, ← ih i]; simp
      · cases i with
        | zero => rfl
        | succ i => rw [cf_succ, cf_succ, ih i]
    · cases i with
      | zero => rfl
      | succ i => rw [cf_succ, cf_succ, ih i]
theorem ln_len_le {l : List Int} {k : Nat} (h : ∀ i, k ≤ i → cf l i = 0) : (ln l).length ≤ k := by
  by_cases hk : (ln l).length ≤ k
  · exact hk
  · exfalso
    have hp : ln l ≠ [] := fun z => by rw [z] at hk; simp at hk
    have hl := ln_len l
    have e := ln_last l ((ln l).length - 1) (by omega) (by omega)
    apply e
    rw [← cf_lt (by omega)]
    exact h _ (by omega)
def addp : List Int → List Int → List Int
  | [], b => b
  | a :: l, [] => a :: l
  | a :: l, b :: m => (a + b) :: addp l m
theorem addp_nil (a : List Int) : addp a [] = a := by cases a <;> rfl
theorem addp_cf : ∀ (a b : List Int) (i : Nat), cf (addp a b) i = cf a i + cf b i
  | [], b, i => by simp [addp]
  | a :: l, [], i => by simp [addp]
  | a :: l, b :: m, i => by
    cases i with
    | zero => rfl
    | succ i => rw [addp, cf_succ, cf_succ, cf_succ, addp_cf l m i]
theorem addp_len : ∀ a b : List Int, (addp a b).length = max a.length b.length
  | [], b => by simp [addp]
  | a :: l, [] => by simp [addp]
  | a :: l, b :: m => by
    rw [addp, List.length_cons, addp_len l m, List.length_cons, List.length_cons]
    omega
theorem addp_pv : ∀ (a b : List Int) (x : Int), pv (addp a b) x = pv a x + pv b x
  | [], b, x => by simp [addp]
  | a :: l, [], x => by simp [addp]
  | a :: l, b :: m, x => by
    rw [addp, pv_cons, pv_cons, pv_cons, addp_pv l m x, Int.add_mul]
    omega
theorem pv_map (k : Int) : ∀ (l : List Int) (x : Int), pv (l.map (· * k)) x = pv l x * k
  | [], x => by simp
  | a :: l, x => by
    rw [List.map_cons, pv_cons, pv_cons, pv_map k l x, Int.add_mul, Int.mul_assoc, Int.mul_assoc, Int.mul_comm k x]
theorem cf_map (k : Int) : ∀ (l : List Int) (i : Nat), cf (l.map (· * k)) i = cf l i * k
  | [], i => by simp
  | a :: l, i => by
    cases i with
    | zero => rfl
    | succ i => rw [List.map_cons, cf_succ, cf_succ, cf_map k l i]
/-! scaled -/
theorem s_scaled {n : Nat} {μ : Store} (l : List Int) (k : Int) (hl : l.length ≤ 1000) (h : ∀ a ∈ l, mulOk a k = true) : run fs (n + 2) 11 [ti l, .int k] μ = .ok (ti (ln (l.map (· * k)))) μ := by
  have e : compR (.ok (l.map D.int, none) μ) (turn (run fs (n + 1)) [2] (.bin .Mult (.var 2) (.var 1)) (.var 2) .nl [some (ti l), some (.int k), none]) = .ok ((l.map D.int).map fun d => match d with
      | .int a => .int (a * k)
      | d => d) μ := by
    refine compR_map (fun x hx => ?_) (line_big (by rw [List.length_map]; omega))
    obtain ⟨a, ha, rfl⟩ := List.mem_map.mp hx
    simp [turn, binD, h a ha]
  rw [List.map_map] at e
  simp only [r_11, f_11]
  simp [e]
  have := s_lean (n := n) (μ := μ) (l.map (· * k)) (by rw [List.length_map]; exact hl)
  rw [List.map_map] at this
  have e2 : (List.map ((fun d => match d with
      | D.int a => .int (a * k)
      | d => d) ∘ D.int) l) = List.map (D.int ∘ fun x => x * k) l := rfl
  rw [e2, this]
  simp
/-! added -/
def pad (m : Nat) (a : List Int) : List Int := a ++ List.replicate (m - a.length) 0
theorem zip_rep (f : Int → Int → Int) : ∀ (b : List Int), List.zipWith f (List.replicate b.length 0) b = b.map (f 0)
  | [] => rfl
  | b :: m => by rw [List.length_cons, List.replicate_succ, List.zipWith_cons_cons, zip_rep f m, List.map_cons]
theorem zip_rep2 (f : Int → Int → Int) : ∀ (b : List Int), List.zipWith f b (List.replicate b.length 0) = b.map (f · 0)
  | [] => rfl
  | b :: m => by rw [List.length_cons, List.replicate_succ, List.zipWith_cons_cons, zip_rep2 f m, List.map_cons]
theorem zip_pad : ∀ a b : List Int, List.zipWith (· + ·) (pad (max a.length b.length) a) (pad (max a.length b.length) b) = addp a b
  | [], b => by
    have := zip_rep (· + ·) b
    simp only [pad, List.length_nil, Nat.zero_max, Nat.sub_zero, List.nil_append, Nat.sub_self, List.replicate_zero, List.append_nil, addp]
    rw [this]
    simp
  | a :: l, [] => by
    have := zip_rep2 (· + ·) (a :: l)
    simp only [pad, List.length_nil, Nat.max_zero, Nat.sub_zero, List.nil_append, Nat.sub_self, List.replicate_zero, List.append_nil, addp]
    rw [this]
    simp
  | a :: l, b :: m => by
    have ih := zip_pad l m
    have e : max (a :: l).length (b :: m).length = max l.length m.length + 1 := by
      rw [List.length_cons, List.length_cons]
      omega
    have e1 : max l.length m.length + 1 - (a :: l).length = max l.length m.length - l.length := by rw [List.length_cons]; omega
    have e2 : max l.length m.length + 1 - (b :: m).length = max l.length m.length - m.length := by rw [List.length_cons]; omega
    rw [e]
    unfold pad
    rw [e1, e2, List.cons_append, List.cons_append, List.zipWith_cons_cons, addp]
    exact congrArg _ ih
theorem zipL_map (a b : List Int) : zipL (a.map D.int) (b.map D.int) = List.zipWith (fun x y => D.tup [.int x, .int y]) a b := by
  induction a generalizing b with
  | nil => rfl
  | cons x a ih => cases b with
    | nil => rfl
    | cons y b => rw [List.map_cons, List.map_cons, zipL, ih, List.zipWith_cons_cons]
theorem rep_flat (k : Nat) : (List.replicate k [D.int 0]).flatten = (List.replicate k (0 : Int)).map D.int := by
  induction k with
  | zero => rfl
  | succ k ih => rw [List.replicate_succ, List.flatten_cons, ih, List.replicate_succ]; rfl
theorem rep_of {k : Int} (h1 : 0 ≤ k) (h2 : k ≤ 1000000) : repOk k = true := by
  have q1 : -(2 : Int) ^ 62 ≤ 0 := by decide +kernel
  have q2 : (1000000 : Int) < (2 : Int) ^ 24 := by decide +kernel
  unfold repOk
  rw [decide_eq_true (Int.le_trans q1 h1), decide_eq_true (Int.lt_of_le_of_lt h2 q2)]
  rfl
theorem mul_tup {μ : Store} {xs : List D} {k : Int} (h : repOk k = true) : binD μ .Mult (.tup xs) (.int k) = (fitL (repL k xs)).map .tup := by
  simp only [binD, h, if_true]
theorem pad_step {μ : Store} (m : Nat) (a : List Int) (ha : a.length ≤ m) (hm : m ≤ 1000) : (Rs.of (binD μ .Mult (.tup [.int 0]) (.int ((m : Int) - (a.length : Int)))) μ).bind (fun y μ2 => Rs.of (binD μ2 .Add (ti a) y) μ2) = .ok (ti (pad m a)) μ := by
  have e : ((m : Int) - (a.length : Int)) = ((m - a.length : Nat) : Int) := by omega
  have h1 : repOk ((m - a.length : Nat) : Int) = true := by
    exact rep_of (by omega) (by omega)
  rw [e]
  have h2 : binD μ .Mult (.tup [.int 0]) (.int ((m - a.length : Nat) : Int)) = some (.tup ((List.replicate (m - a.length) (0 : Int)).map D.int)) := by
    rw [mul_tup h1]
    unfold repL
    rw [Int.toNat_natCast, rep_flat, fit_of (line_big (by rw [List.length_map, List.length_replicate]; omega))]
    rfl
  rw [h2, Rs.of_some, Rs.bind_ok]
  show Rs.of ((fitL _).map D.tup) μ = _
  rw [← List.map_append, fit_of (line_big (by rw [List.length_map, List.length_append, List.length_replicate]; omega))]
  rfl
end Tab
namespace Tab
open PySem DL
theorem seq_run {cl : Calls} {a b : SX} {ρ ρ1 : DL.Env} {μ μ1 : Store} (h : exs cl a ρ μ = .ok (.nx ρ1) μ1) : exs cl (.seq a b) ρ μ = exs cl b ρ1 μ1 := by
  rw [exs_seq, h]
  rfl
theorem mem_zw {α β γ : Type} {f : α → β → γ} {x : γ} : ∀ {a : List α} {b : List β}, x ∈ List.zipWith f a b → ∃ u v, x = f u v
  | [], _, h => by simp at h
  | _ :: _, [], h => by simp at h
  | u :: a, v :: b, h => by
    rw [List.zipWith_cons_cons] at h
    rcases List.mem_cons.mp h with h | h
    · exact ⟨u, v, h⟩
    · exact mem_zw h
theorem len_tup {μ : Store} {xs : List D} : biD μ .len [.tup xs] = some (.int xs.length) := rfl
theorem len_lst {μ : Store} {xs : List D} : biD μ .len [.lst xs] = some (.int xs.length) := rfl
theorem s_added {n : Nat} {μ : Store} (a b : List Int) (ha : a.length ≤ 1000) (hb : b.length ≤ 1000) : run fs (n + 2) 10 [ti a, ti b] μ = .ok (ti (ln (addp a b))) μ := by
  have e1 : exs (run fs (n + 1)) (.set (.var 2) (.bi .max2 (.cs (.bi .len (.cs (.var 0) .nl)) (.cs (.bi .len (.cs (.var 1) .nl)) .nl)))) [some (ti a), some (ti b), none, none, none, none, none] μ
      = .ok (.nx [some (ti a), some (ti b), some (.int ((max a.length b.length : Nat) : Int)), none, none, none, none]) μ := by
    have em : (if (b.length : Int) > (a.length : Int) then (b.length : Int) else (a.length : Int)) = ((max a.length b.length : Nat) : Int) := by
      split <;> omega
    have e0 : biD μ .max2 [.int (a.length : Nat), .int (b.length : Nat)] = some (.int ((max a.length b.length : Nat) : Int)) := by
      show some (D.int (if (b.length : Int) > (a.length : Int) then (b.length : Int) else (a.length : Int))) = _
      rw [em]
    simp [len_tup, e0]
  have e2 : exs (run fs (n + 1)) (.par [3, 4] (.cs (.bin .Add (.var 0) (.bin .Mult (.tup (.cs (.int 0) .nl)) (.bin .Sub (.var 2) (.bi .len (.cs (.var 0) .nl))))) (.cs (.bin .Add (.var 1) (.bin .Mult (.tup (.cs (.int 0) .nl)) (.bin .Sub (.var 2) (.bi .len (.cs (.var 1) .nl))))) .nl))) [some (ti a), some (ti b), some (.int ((max a.length b.length : Nat) : Int)), none, none, none, none] μ
      = .ok (.nx [some (ti a), some (ti b), some (.int ((max a.length b.length : Nat) : Int)), some (ti (pad (max a.length b.length) a)), some (ti (pad (max a.length b.length) b)), none, none]) μ := by
    have p1 := pad_step (μ := μ) (max a.length b.length) a (Nat.le_max_left _ _) (by omega)
    have p2 := pad_step (μ := μ) (max a.length b.length) b (Nat.le_max_right _ _) (by omega)
    have gen : ∀ (c : List Int) (i : Nat), i < 2 → [some (ti a), some (ti b), some (D.int ((max a.length b.length : Nat) : Int)), none, none, none, none][i]? = some (some (ti c)) → (Rs.of (binD μ .Mult (.tup [.int 0]) (.int (((max a.length b.length : Nat) : Int) - (c.length : Int)))) μ).bind (fun y μ2 => Rs.of (binD μ2 .Add (ti c) y) μ2) = .ok (ti (pad (max a.length b.length) c)) μ →
        ev (run fs (n + 1)) (.bin .Add (.var i) (.bin .Mult (.tup (.cs (.int 0) .nl)) (.bin .Sub (.var 2) (.bi .len (.cs (.var i) .nl))))) [some (ti a), some (ti b), some (.int ((max a.length b.length : Nat) : Int)), none, none, none, none] μ = .ok (ti (pad (max a.length b.length) c)) μ := by
      intro c i hi hc p
      have hs : ∀ x y : Int, binD μ .Sub (.int x) (.int y) = some (.int (x - y)) := fun _ _ => rfl
      have hf : fitL [D.int 0] = some [D.int 0] := fit_of (by decide)
      simp only [ev_bin, ev_var, hc, Rs.bind_ok, ev_tup, evs_cs, evs_nl, ev_int, frzs_cons, frzs_nil, frz_int, hf, Option.map_some, Rs.of_some, List.getElem?_cons_succ, List.getElem?_cons_zero, ev_bi, len_tup, List.length_map, hs]
      exact p
    rw [exs_par, evs_cs, gen a 0 (by decide) rfl p1, Rs.bind_ok, evs_cs, gen b 1 (by decide) rfl p2]
    rfl
  have e3 : compR (.ok (zipL ((pad (max a.length b.length) a).map D.int) ((pad (max a.length b.length) b).map D.int), none) μ) (turn (run fs (n + 1)) [5, 6] (.bin .Add (.var 5) (.var 6)) (.tup (.cs (.var 5) (.cs (.var 6) .nl))) .nl [some (ti a), some (ti b), some (.int ((max a.length b.length : Nat) : Int)), some (ti (pad (max a.length b.length) a)), some (ti (pad (max a.length b.length) b)), none, none])
      = .ok ((addp a b).map D.int) μ := by
    rw [← zip_pad]
    have q := compR_map (μ := μ) (f := turn (run fs (n + 1)) [5, 6] (.bin .Add (.var 5) (.var 6)) (.tup (.cs (.var 5) (.cs (.var 6) .nl))) .nl [some (ti a), some (ti b), some (.int ((max a.length b.length : Nat) : Int)), some (ti (pad (max a.length b.length) a)), some (ti (pad (max a.length b.length) b)), none, none])
      (g := fun d => match d with
        | .tup [.int x, .int y] => .int (x + y)
        | d => d) (xs := zipL ((pad (max a.length b.length) a).map D.int) ((pad (max a.length b.length) b).map D.int)) (fun x hx => by
        rw [zipL_map] at hx
        obtain ⟨u, v, rfl⟩ := mem_zw hx
        simp [turn, binD]) (line_big (by
          rw [zipL_map, List.length_zipWith]
          unfold pad
          rw [List.length_append, List.length_replicate]
          omega))
    rw [q, zipL_map, List.map_zipWith, List.map_zipWith]
  have e4 := s_lean (n := n) (μ := μ) (addp a b) (by rw [addp_len]; omega)
  rw [r_10]
  show leave false μ.length (exs (run fs (n + 1)) (.seq _ (.seq _ (.ret _))) _ _) = _
  rw [seq_run e1, seq_run e2]
  simp [e3, e4]
end Tab
namespace Tab
open PySem DL
/-! gaps_of -/
def gst (s : List Int × List Int) (o : Int) : List Int × List Int := (ln (addp s.1 (ln (s.2.map (· * o)))), ln (addp s.2 (0 :: s.2)))
def gfold (l : List Int) : List Int × List Int := l.foldl gst ([], [1])
def gapsN (l : List Int) : List Int := ln (addp (gfold l).1 (ln (l.map (· * (-1)))))
theorem gfold_snoc (s : List Int) (o : Int) : gfold (s ++ [o]) = gst (gfold s) o := by
  unfold gfold
  rw [List.foldl_append]
  rfl
theorem snoc_ind {P : List Int → Prop} (h0 : P []) (hs : ∀ s o, P s → P (s ++ [o])) (l : List Int) : P l := by
  have : ∀ r : List Int, P r.reverse := fun r => by
    induction r with
    | nil => exact h0
    | cons a r ih => rw [List.reverse_cons]; exact hs _ _ ih
  have h := this l.reverse
  rwa [List.reverse_reverse] at h
theorem pv_snoc : ∀ (s : List Int) (o y : Int), pv (s ++ [o]) y = pv s y + o * y ^ s.length
  | [], o, y => by simp
  | a :: s, o, y => by
    rw [List.cons_append, pv_cons, pv_snoc s o y, pv_cons, List.length_cons, Int.pow_succ, Int.add_mul, Int.mul_assoc]
    omega
theorem gfold_cf (s : List Int) : (∀ i, s.length < i → cf (gfold s).2 i = 0) ∧ cf (gfold s).2 s.length = 1 ∧ (∀ i, s.length ≤ i → cf (gfold s).1 i = 0) := by
  induction s using snoc_ind with
  | h0 => exact ⟨fun i hi => cf_ge (by show (1 : Nat) ≤ i; exact hi), rfl, fun i _ => by show cf [] i = 0; simp⟩
  | hs s o ih =>
    obtain ⟨h1, h2, h3⟩ := ih
    rw [gfold_snoc, List.length_append]
    have hl : s.length + [o].length = s.length + 1 := rfl
    rw [hl]
    refine ⟨fun i hi => ?_, ?_, fun i hi => ?_⟩
    · show cf (ln (addp (gfold s).2 (0 :: (gfold s).2))) i = 0
      rw [cf_ln, addp_cf, h1 i (by omega)]
      cases i with
      | zero => omega
      | succ i => rw [cf_succ, h1 i (by omega)]; rfl
    · show cf (ln (addp (gfold s).2 (0 :: (gfold s).2))) (s.length + 1) = 1
      rw [cf_ln, addp_cf, h1 _ (by omega), cf_succ, h2]
      rfl
    · show cf (ln (addp (gfold s).1 (ln ((gfold s).2.map (· * o))))) i = 0
      rw [cf_ln, addp_cf, cf_ln, cf_map, h1 i (by omega), h3 i (by omega)]
      simp
theorem gfold_lead (s : List Int) (o : Int) : cf (gfold (s ++ [o])).1 s.length = o := by
  obtain ⟨h1, h2, h3⟩ := gfold_cf s
  rw [gfold_snoc]
  show cf (ln (addp (gfold s).1 (ln ((gfold s).2.map (· * o))))) s.length = o
  rw [cf_ln, addp_cf, cf_ln, cf_map, h2, h3 _ (Nat.le_refl _)]
  simp
theorem gfold_pv (x : Int) (s : List Int) : pv (gfold s).1 x = pv s (x + 1) ∧ pv (gfold s).2 x = (x + 1) ^ s.length := by
  induction s using snoc_ind with
  | h0 =>
    refine ⟨rfl, ?_⟩
    show pv [1] x = _
    simp
  | hs s o ih =>
    obtain ⟨h1, h2⟩ := ih
    rw [gfold_snoc, pv_snoc, List.length_append]
    have hl : s.length + [o].length = s.length + 1 := rfl
    rw [hl]
    constructor
    · show pv (ln (addp (gfold s).1 (ln ((gfold s).2.map (· * o))))) x = _
      rw [ln_pv, addp_pv, ln_pv, pv_map, h1, h2, Int.mul_comm o]
    · show pv (ln (addp (gfold s).2 (0 :: (gfold s).2))) x = _
      rw [ln_pv, addp_pv, pv_cons, h2, Int.pow_succ, Int.mul_add]
      omega
theorem gaps_pv (l : List Int) (x : Int) : pv (gapsN l) x = pv l (x + 1) - pv l x := by
  unfold gapsN
  rw [ln_pv, addp_pv, ln_pv, pv_map, (gfold_pv x l).1]
  omega
theorem gaps_len (l : List Int) : (gapsN l).length ≤ l.length - 1 := by
  refine ln_len_le fun i hi => ?_
  rw [addp_cf, cf_ln, cf_map]
  by_cases h : l.length ≤ i
  · rw [(gfold_cf l).2.2 i h, cf_ge h]
    rfl
  · have hi2 : i = l.length - 1 := by omega
    have hne : l ≠ [] := fun z => by rw [z] at h; simp at h
    have e : l = l.dropLast ++ [l.getLast hne] := (List.dropLast_concat_getLast hne).symm
    have hd : l.dropLast.length = i := by rw [List.length_dropLast, hi2]
    have q1 : cf (gfold l).1 i = l.getLast hne := by
      have := gfold_lead l.dropLast (l.getLast hne)
      rw [← e, hd] at this
      exact this
    have q2 : cf l i = l.getLast hne := by
      rw [cf_lt (by omega), List.getLast_eq_getElem]
      congr 1
    rw [q1, q2]
    omega
theorem cf_mem {l : List Int} {a : Int} (h : a ∈ l) : ∃ i, i < l.length ∧ cf l i = a := by
  obtain ⟨i, hi, e⟩ := List.getElem_of_mem h
  exact ⟨i, hi, by rw [cf_lt hi]; exact e⟩
/-- every coefficient is at most B -/
def Bd (B : Nat) (l : List Int) : Prop := ∀ i, (cf l i).natAbs ≤ B
theorem bd_of {B : Nat} {l : List Int} (h : ∀ a ∈ l, a.natAbs ≤ B) : Bd B l := fun i => by
  by_cases hi : i < l.length
  · rw [cf_lt hi]
    exact h _ (List.getElem_mem hi)
  · rw [cf_ge (by omega)]
    exact Nat.zero_le _
theorem Bd.mem {B : Nat} {l : List Int} (h : Bd B l) : ∀ a ∈ l, a.natAbs ≤ B := fun a ha => by
  obtain ⟨i, _, rfl⟩ := cf_mem ha
  exact h i
theorem gfold_line (s : List Int) : Bd (2 ^ s.length) (gfold s).2 := by
  induction s using snoc_ind with
  | h0 =>
    refine bd_of fun a ha => ?_
    have : a = 1 := by simpa [gfold] using ha
    rw [this]
    decide
  | hs s o ih =>
    intro i
    rw [gfold_snoc]
    show (cf (ln (addp (gfold s).2 (0 :: (gfold s).2))) i).natAbs ≤ _
    rw [cf_ln, addp_cf, List.length_append]
    show _ ≤ 2 ^ (s.length + 1)
    rw [Nat.pow_succ]
    have h1 := ih i
    cases i with
    | zero =>
      rw [cf_zero]
      omega
    | succ i =>
      have h2 := ih i
      rw [cf_succ]
      omega
theorem gfold_bd {B : Nat} (s : List Int) : Bd B s → Bd (B * 2 ^ s.length) (gfold s).1 := by
  induction s using snoc_ind with
  | h0 => exact fun _ i => by show (cf [] i).natAbs ≤ _; simp
  | hs s o ih =>
    intro hB i
    have hs : Bd B s := bd_of fun a ha => hB.mem a (List.mem_append_left _ ha)
    have ho : o.natAbs ≤ B := hB.mem o (by simp)
    have h1 := ih hs i
    have h2 := gfold_line s i
    rw [gfold_snoc]
    show (cf (ln (addp (gfold s).1 (ln ((gfold s).2.map (· * o))))) i).natAbs ≤ _
    rw [cf_ln, addp_cf, cf_ln, cf_map, List.length_append]
    show _ ≤ B * 2 ^ (s.length + 1)
    have h3 : (cf (gfold s).2 i * o).natAbs ≤ 2 ^ s.length * B := by
      rw [Int.natAbs_mul]
      exact Nat.mul_le_mul h2 ho
    rw [Nat.pow_succ, ← Nat.mul_assoc, Nat.mul_comm (B * 2 ^ s.length) 2, Nat.two_mul]
    have h4 : 2 ^ s.length * B = B * 2 ^ s.length := Nat.mul_comm _ _
    omega
theorem gaps_bd {B : Nat} {l : List Int} (h : Bd B l) (hl : l.length ≤ 5) : Bd (64 * B) (gapsN l) := fun i => by
  unfold gapsN
  rw [cf_ln, addp_cf, cf_ln, cf_map]
  have h1 := gfold_bd l h i
  have h2 := h i
  have h3 : 2 ^ l.length ≤ 32 := by
    have : 2 ^ l.length ≤ 2 ^ 5 := Nat.pow_le_pow_right (by decide) hl
    exact this
  have h4 : B * 2 ^ l.length ≤ B * 32 := Nat.mul_le_mul_left _ h3
  omega
theorem small_of {a : Int} {k : Nat} (h : a.natAbs ≤ 2 ^ k) (hk : k ≤ 63) : small a = true := by
  unfold small
  have : 2 ^ k ≤ 2 ^ 63 := Nat.pow_le_pow_right (by decide) hk
  have e : (2 : Nat) ^ 63 < 2 ^ 64 := by decide
  exact decide_eq_true (by omega)
theorem gfold_len (s : List Int) : (gfold s).1.length ≤ s.length ∧ (gfold s).2.length ≤ s.length + 1 := by
  induction s using snoc_ind with
  | h0 => exact ⟨Nat.le_refl _, Nat.le_refl _⟩
  | hs s o ih =>
    rw [gfold_snoc, List.length_append]
    obtain ⟨h1, h2, h3⟩ := gfold_cf s
    constructor
    · refine ln_len_le fun i hi => ?_
      have hi : s.length + 1 ≤ i := hi
      rw [addp_cf, cf_ln, cf_map, h1 i (by omega), h3 i (by omega)]
      simp
    · refine ln_len_le fun i hi => ?_
      have hi : s.length + 1 + 1 ≤ i := hi
      rw [addp_cf, h1 i (by omega)]
      cases i with
      | zero => omega
      | succ i => rw [cf_succ, h1 i (by omega)]; rfl
end Tab
namespace Tab
open PySem DL
theorem mul_small {a b : Int} (h : small a = true) : mulOk a b = true := by
  unfold mulOk
  rw [h]
  rfl
theorem mul_small2 {a b : Int} (h : small b = true) : mulOk a b = true := by
  unfold mulOk
  rw [h]
  simp
theorem cat_tup {μ : Store} {xs ys : List D} (h : xs.length + ys.length ≤ 1000000) : binD μ .Add (.tup xs) (.tup ys) = some (.tup (xs ++ ys)) := by
  show (fitL (xs ++ ys)).map D.tup = _
  rw [fit_of (line_big (by rw [List.length_append]; exact h))]
  rfl
theorem fit1 (x : D) : fitL [x] = some [x] := fit_of (line_big (by show 1 ≤ 1000000; decide))
theorem fit2 (x y : D) : fitL [x, y] = some [x, y] := fit_of (line_big (by show 2 ≤ 1000000; decide))
theorem fit0 : fitL [] = some [] := fit_of (line_big (by show 0 ≤ 1000000; decide))
theorem s_gaps {n : Nat} {μ : Store} (l : List Int) (hl : l.length ≤ 60) : run fs (n + 3) 17 [ti l] μ = .ok (ti (gapsN l)) μ := by
  obtain ⟨ρ', μ', e, I⟩ := loop_inv (f := loopF (run fs (n + 2)) (.var 1) (.seq (.set (.var 2) (.call 10 (.cs (.var 2) (.cs (.call 11 (.cs (.var 3) (.cs (.var 1) .nl))) .nl)))) (.set (.var 3) (.call 10 (.cs (.var 3) (.cs (.bin .Add (.tup (.cs (.int (0)) .nl)) (.var 3)) .nl))))))
    (fun xs ρ μ' => μ' = μ ∧ ∃ (s t : List Int) (z : Option D), l = s ++ t ∧ xs = t.map D.int ∧ ρ = [some (ti l), z, some (ti (gfold s).1), some (ti (gfold s).2)])
    (xs := l.map D.int) (ρ := [some (ti l), none, some (.tup []), some (.tup [.int 1])]) (μ := μ) ⟨rfl, [], l, none, rfl, rfl, rfl⟩
    (fun x r ρ μ' hI => by
      obtain ⟨rfl, s, t, z, e1, e2, rfl⟩ := hI
      cases t with
      | nil => cases e2
      | cons o t =>
        cases e2
        have hs : s.length + 1 ≤ 60 := by
          have : l.length = s.length + (t.length + 1) := by rw [e1, List.length_append, List.length_cons]
          omega
        obtain ⟨g1, g2⟩ := gfold_len s
        have q1 := s_scaled (n := n) (μ := μ') (gfold s).2 o (by omega) fun a ha => mul_small (small_of ((gfold_line s).mem a ha) (by omega))
        have q2 := s_added (n := n) (μ := μ') (gfold s).1 (ln ((gfold s).2.map (· * o))) (by omega) (by
          have := ln_len ((gfold s).2.map (· * o))
          rw [List.length_map] at this
          omega)
        have q3 := s_added (n := n) (μ := μ') (gfold s).2 (0 :: (gfold s).2) (by omega) (by rw [List.length_cons]; omega)
        have q4 : binD μ' .Add (.tup [.int 0]) (ti (gfold s).2) = some (ti (0 :: (gfold s).2)) := cat_tup (by simp; omega)
        refine ⟨[some (ti l), some (.int o), some (ti (gfold (s ++ [o])).1), some (ti (gfold (s ++ [o])).2)], μ', ?_, rfl, s ++ [o], t, some (.int o), by rw [e1, List.append_assoc]; rfl, rfl, rfl⟩
        rw [gfold_snoc]
        simp [loopF, q1, q2, fit1, q4, q3, gst])
  obtain ⟨rfl, s, t, z, e1, e2, rfl⟩ := I
  have ht : t = [] := by cases t with
    | nil => rfl
    | cons _ _ => cases e2
  subst ht
  rw [List.append_nil] at e1
  subst e1
  obtain ⟨g1, g2⟩ := gfold_len l
  have q1 := s_scaled (n := n) (μ := μ') l (-1) (by omega) fun a ha => mul_small2 (by decide)
  have q2 := s_added (n := n) (μ := μ') (gfold l).1 (ln (l.map (· * (-1)))) (by omega) (by
    have := ln_len (l.map (· * (-1)))
    rw [List.length_map] at this
    omega)
  simp [r_17, f_17, fit0, fit1, fit2, e, q1]
  simp at q2
  rw [q2]
  simp [gapsN]
/-! signs -/
def sg (x : Int) : Int := if x < 0 then -1 else if 0 < x then 1 else 0
theorem s_sign {n : Nat} {μ : Store} (l : List Int) (m : Int) (h : ∀ s, s <:+ l → mulOk (pv s m) m = true) : run fs (n + 2) 16 [ti l, .int m] μ = .ok (.int (sg (pv l m))) μ := by
  have q := s_value (n := n) (μ := μ) l m h
  simp [r_16, f_16, q, cmpD, sg]
  by_cases h1 : pv l m < 0 <;> by_cases h2 : 0 < pv l m <;> simp [h1, h2]
end Tab
namespace Tab
open PySem DL
/-! the list that stands last in the store -/
theorem mut_last {μ : Store} {xs : List D} : mutOf (μ ++ [⟨0, xs⟩]) μ.length = some xs := by
  rw [mutOf_some, List.getElem?_append_right (Nat.le_refl _), Nat.sub_self]
  rfl
theorem set_last {μ : Store} {c c' : Cell} : (μ ++ [c]).set μ.length c' = μ ++ [c'] := by
  rw [List.set_append_right _ _ (Nat.le_refl _), Nat.sub_self]
  rfl
theorem get_last {μ : Store} {c : Cell} : (μ ++ [c])[μ.length]? = some c := by
  rw [List.getElem?_append_right (Nat.le_refl _), Nat.sub_self]
  rfl
theorem frz_last {μ : Store} {c : Cell} : frz (.cell μ.length) (μ ++ [c]) = .ok (.lst c.xs) (μ ++ [⟨1, c.xs⟩]) := by
  show (match (μ ++ [c])[μ.length]? with
    | some c2 => Rs.ok (D.lst c2.xs) ((μ ++ [c]).set μ.length ⟨1, c2.xs⟩)
    | none => .no) = _
  rw [get_last]
  show Rs.ok _ ((μ ++ [c]).set μ.length _) = _
  rw [set_last]
theorem take_last {μ : Store} {c : Cell} : (μ ++ [c]).take μ.length = μ := List.take_left
/-! where signs change -/
def upto (low : Int) (k : Nat) : List Int := (List.range k).map fun i => low + (i : Nat)
def chL (p : Int → Int) (low : Int) (k : Nat) : List Int := (upto low k).filter fun t => decide (sg (p t) ≠ sg (p (t + 1)))
theorem upto_add (low : Int) (j k : Nat) : upto low (j + k) = upto low j ++ upto (low + (j : Nat)) k := by
  unfold upto
  rw [List.range_add, List.map_append, List.map_map]
  congr 1
  apply List.map_congr_left
  intro i _
  show low + ((j + i : Nat) : Int) = _
  omega
theorem chL_add (p : Int → Int) (low : Int) (j k : Nat) : chL p low (j + k) = chL p low j ++ chL p (low + (j : Nat)) k := by
  unfold chL
  rw [upto_add, List.filter_append]
theorem chL_one (p : Int → Int) (low : Int) (h : sg (p low) ≠ sg (p (low + 1))) : chL p low 1 = [low] := by
  have e : upto low 1 = [low] := by
    show [low + ((0 : Nat) : Int)] = _
    rw [show low + ((0 : Nat) : Int) = low by omega]
  unfold chL
  rw [e, List.filter_cons, if_pos (decide_eq_true h)]
  rfl
theorem chL_nil (p : Int → Int) (low : Int) (k : Nat) (h : ∀ i : Nat, i ≤ k → sg (p (low + (i : Nat))) = sg (p low)) : chL p low k = [] := by
  unfold chL
  rw [List.filter_eq_nil_iff]
  intro t ht
  obtain ⟨i, hi, rfl⟩ := List.mem_map.mp ht
  have hi := List.mem_range.mp hi
  have e : low + (i : Nat) + 1 = low + ((i + 1 : Nat) : Int) := by omega
  rw [e, h i (by omega), h (i + 1) (by omega)]
  simp
/-- one way all along -/
def Mono (p : Int → Int) (a b : Int) : Prop := (∀ x y, a ≤ x → x ≤ y → y ≤ b → p x ≤ p y) ∨ ∀ x y, a ≤ x → x ≤ y → y ≤ b → p y ≤ p x
theorem sg_mono {a b : Int} (h : a ≤ b) : sg a ≤ sg b := by
  unfold sg
  repeat' split
  all_goals omega
theorem sg_rng (a : Int) : -1 ≤ sg a ∧ sg a ≤ 1 := by
  unfold sg
  repeat' split
  all_goals omega
theorem Mono.sub {p : Int → Int} {a b c d : Int} (h : Mono p a b) (h1 : a ≤ c) (h2 : d ≤ b) : Mono p c d := by
  rcases h with h | h
  · exact .inl fun x y hx hy hd => h x y (by omega) hy (by omega)
  · exact .inr fun x y hx hy hd => h x y (by omega) hy (by omega)
theorem Mono.between {p : Int → Int} {a b x : Int} (h : Mono p a b) (e : sg (p a) = sg (p b)) (h1 : a ≤ x) (h2 : x ≤ b) : sg (p x) = sg (p a) := by
  rcases h with h | h
  · have q1 := sg_mono (h a x (by omega) h1 h2)
    have q2 := sg_mono (h x b h1 h2 (by omega))
    omega
  · have q1 := sg_mono (h a x (by omega) h1 h2)
    have q2 := sg_mono (h x b h1 h2 (by omega))
    omega
/-- how far the sign is from the last one -/
def far (p : Int → Int) (x b : Int) : Nat := (sg (p b) - sg (p x)).natAbs
theorem Mono.step {p : Int → Int} {a b x : Int} (h : Mono p a b) (h1 : a ≤ x) (h2 : x ≤ b) (ne : sg (p x) ≠ sg (p a)) : far p x b < far p a b := by
  unfold far
  rcases h with h | h
  · have q1 := sg_mono (h a x (by omega) h1 h2)
    have q2 := sg_mono (h x b h1 h2 (by omega))
    omega
  · have q1 := sg_mono (h a x (by omega) h1 h2)
    have q2 := sg_mono (h x b h1 h2 (by omega))
    omega
theorem sub_int {μ : Store} {x y : Int} : binD μ .Sub (.int x) (.int y) = some (.int (x - y)) := rfl
theorem add_int {μ : Store} {x y : Int} : binD μ .Add (.int x) (.int y) = some (.int (x + y)) := rfl
theorem half_int {μ : Store} {x : Int} : binD μ .FloorDiv (.int x) (.int 2) = some (.int (x / 2)) := by
  have e : divOk 2 = true := by decide
  show (if divOk 2 = true then some (D.int (x.fdiv 2)) else none) = _
  rw [if_pos e, Int.fdiv_eq_ediv_of_nonneg _ (by decide)]
theorem gt_int {μ : Store} {x y : Int} : cmpD μ .Gt (.int x) (.int y) = some (decide (y < x)) := rfl
abbrev bisC : PX := .cmp .Gt (.bin .Sub (.var 6) (.var 5)) (.int 1)
abbrev bisB : SX := .seq (.set (.var 7) (.bin .FloorDiv (.bin .Add (.var 5) (.var 6)) (.int 2))) (.set (.tup (.cs (.var 5) (.cs (.var 6) .nl))) (.ife (.cmp .Eq (.call 16 (.cs (.var 0) (.cs (.var 7) .nl))) (.call 16 (.cs (.var 0) (.cs (.var 4) .nl)))) (.tup (.cs (.var 7) (.cs (.var 6) .nl))) (.tup (.cs (.var 5) (.cs (.var 7) .nl)))))
theorem bisect {n : Nat} {μ : Store} (l : List Int) (low high here : Int) (c : D) (z : Option D) (a b : Int) (k : Nat) (hk : k ≤ 1000) (h1 : low ≤ here) (h2 : here ≤ a) (h3 : a < b) (h4 : b ≤ high) (hg : b - a ≤ 2 ^ k) (ha : sg (pv l a) = sg (pv l here)) (hb : sg (pv l b) ≠ sg (pv l here))
    (sgn : ∀ (μ : Store) m, low ≤ m → m ≤ high → run fs (n + 2) 16 [ti l, .int m] μ = .ok (.int (sg (pv l m))) μ) :
    ∃ (s : Int) (z' : Option D), here ≤ s ∧ s < high ∧ sg (pv l s) = sg (pv l here) ∧ sg (pv l (s + 1)) ≠ sg (pv l here) ∧
      whileL (condF (run fs (n + 2)) bisC) (bodyF (run fs (n + 2)) bisB) turns [some (ti l), some (.int low), some (.int high), some c, some (.int here), some (.int a), some (.int b), z] μ = .ok (.nx [some (ti l), some (.int low), some (.int high), some c, some (.int here), some (.int s), some (.int (s + 1)), z']) μ := by
  obtain ⟨ρ', μ', e, rfl, s, z', p1, p2, p3, p4, rfl⟩ := while_inv (c := condF (run fs (n + 2)) bisC) (f := bodyF (run fs (n + 2)) bisB)
    (fun k ρ μ' => μ' = μ ∧ ∃ (a b : Int) (z : Option D), here ≤ a ∧ a < b ∧ b ≤ high ∧ b - a ≤ 2 ^ k ∧ sg (pv l a) = sg (pv l here) ∧ sg (pv l b) ≠ sg (pv l here) ∧ ρ = [some (ti l), some (.int low), some (.int high), some c, some (.int here), some (.int a), some (.int b), z])
    (fun ρ μ' => μ' = μ ∧ ∃ (s : Int) (z' : Option D), here ≤ s ∧ s < high ∧ sg (pv l s) = sg (pv l here) ∧ sg (pv l (s + 1)) ≠ sg (pv l here) ∧ ρ = [some (ti l), some (.int low), some (.int high), some c, some (.int here), some (.int s), some (.int (s + 1)), z'])
    (fun k ρ μ' hI => by
      obtain ⟨rfl, a, b, z, h2, h3, h4, hg, ha, hb, rfl⟩ := hI
      have hc : condF (run fs (n + 2)) bisC [some (ti l), some (.int low), some (.int high), some c, some (.int here), some (.int a), some (.int b), z] μ' = .ok (decide (1 < b - a)) μ' := by
        simp [condF, sub_int, gt_int]
      by_cases hd : 1 < b - a
      · cases k with
        | zero =>
          have hg : b - a ≤ 1 := hg
          omega
        | succ k =>
          have hg2 : b - a ≤ 2 * 2 ^ k := by
            rw [Int.pow_succ] at hg
            omega
          have g1 := sgn μ' ((a + b) / 2) (by omega) (by omega)
          have g2 := sgn μ' here h1 (by omega)
          by_cases hs : sg (pv l ((a + b) / 2)) = sg (pv l here)
          · refine .inr ⟨_, [some (ti l), some (.int low), some (.int high), some c, some (.int here), some (.int ((a + b) / 2)), some (.int b), some (.int ((a + b) / 2))], _, k, by rw [hc, decide_eq_true hd], ?_, Nat.lt_succ_self _, rfl, (a + b) / 2, b, some (.int ((a + b) / 2)), by omega, by omega, h4, by omega, hs, hb, rfl⟩
            simp [bodyF, add_int, half_int, g1, g2, eq_int, hs, fit2]
          · refine .inr ⟨_, [some (ti l), some (.int low), some (.int high), some c, some (.int here), some (.int a), some (.int ((a + b) / 2)), some (.int ((a + b) / 2))], _, k, by rw [hc, decide_eq_true hd], ?_, Nat.lt_succ_self _, rfl, a, (a + b) / 2, some (.int ((a + b) / 2)), by omega, by omega, by omega, by omega, ha, hs, rfl⟩
            simp [bodyF, add_int, half_int, g1, g2, eq_int, hs, fit2]
      · have e : b = a + 1 := by omega
        subst e
        exact .inl ⟨_, by rw [hc, decide_eq_false hd], rfl, a, z, h2, by omega, ha, hb, rfl⟩)
    turns k (ρ := [some (ti l), some (.int low), some (.int high), some c, some (.int here), some (.int a), some (.int b), z]) (μ := μ) (turns_big (Nat.le_trans hk (by decide))) ⟨rfl, a, b, z, h2, h3, h4, hg, ha, hb, rfl⟩
  exact ⟨s, z', p1, p2, p3, p4, e⟩
abbrev chC : PX := .cmp .NotEq (.call 16 (.cs (.var 0) (.cs (.var 4) .nl))) (.call 16 (.cs (.var 0) (.cs (.var 2) .nl)))
abbrev chB : SX := .seq (.par [5, 6] (.cs (.var 4) (.cs (.var 2) .nl))) (.seq (.whl bisC bisB) (.seq (.app 3 (.var 5)) (.set (.var 4) (.var 6))))
theorem far_le {p : Int → Int} {a b : Int} : far p a b ≤ 2 := by
  unfold far
  have h1 := sg_rng (p a)
  have h2 := sg_rng (p b)
  omega
theorem s_changes {n : Nat} {μ : Store} (l : List Int) (low high : Int) (hlh : low ≤ high) (hbig : high - low ≤ 2 ^ 1000) (hm : Mono (pv l) low high) (ho : ∀ m, low ≤ m → m ≤ high → ∀ s, s <:+ l → mulOk (pv s m) m = true) :
    run fs (n + 3) 18 [ti l, .int low, .int high] μ = .ok (.lst ((chL (pv l) low (high - low).toNat).map .int)) μ ∧ (chL (pv l) low (high - low).toNat).length ≤ 2 := by
  have sgn : ∀ (μ : Store) m, low ≤ m → m ≤ high → run fs (n + 2) 16 [ti l, .int m] μ = .ok (.int (sg (pv l m))) μ := fun μ m h1 h2 => s_sign l m (ho m h1 h2)
  obtain ⟨ρ', μ', e, here, xs, z1, z2, z3, rfl, rfl, hx, hlen⟩ := while_inv (c := condF (run fs (n + 2)) chC) (f := bodyF (run fs (n + 2)) chB)
    (fun k ρ μ' => ∃ (here : Int) (j : Nat) (xs : List Int) (z1 z2 z3 : Option D), here = low + (j : Nat) ∧ here ≤ high ∧ xs = chL (pv l) low j ∧ xs.length + far (pv l) here high ≤ 2 ∧ k = far (pv l) here high ∧ μ' = μ ++ [⟨0, xs.map .int⟩] ∧ ρ = [some (ti l), some (.int low), some (.int high), some (.cell μ.length), some (.int here), z1, z2, z3])
    (fun ρ μ' => ∃ (here : Int) (xs : List Int) (z1 z2 z3 : Option D), μ' = μ ++ [⟨0, xs.map .int⟩] ∧ ρ = [some (ti l), some (.int low), some (.int high), some (.cell μ.length), some (.int here), z1, z2, z3] ∧ xs = chL (pv l) low (high - low).toNat ∧ xs.length ≤ 2)
    (fun k ρ μ' hI => by
      obtain ⟨here, j, xs, z1, z2, z3, hh, hle, hx, hlen, rfl, rfl, rfl⟩ := hI
      have g1 := sgn (μ ++ [⟨0, xs.map .int⟩]) here (by omega) hle
      have g2 := sgn (μ ++ [⟨0, xs.map .int⟩]) high hlh (by omega)
      have hc : condF (run fs (n + 2)) chC [some (ti l), some (.int low), some (.int high), some (.cell μ.length), some (.int here), z1, z2, z3] (μ ++ [⟨0, xs.map .int⟩]) = .ok (decide (sg (pv l here) ≠ sg (pv l high))) (μ ++ [⟨0, xs.map .int⟩]) := by
        simp [condF, g1, g2, ne_int]
      have hmo : Mono (pv l) here high := hm.sub (by omega) (Int.le_refl _)
      by_cases hs : sg (pv l here) = sg (pv l high)
      · refine .inl ⟨_, by rw [hc, decide_eq_false (fun z => z hs)], here, xs, z1, z2, z3, rfl, rfl, ?_, by omega⟩
        have e1 : (high - low).toNat = j + (high - here).toNat := by omega
        rw [e1, chL_add, ← hx, ← hh, chL_nil (pv l) here, List.append_nil]
        intro i hi
        exact hmo.between hs (by omega) (by omega)
      · have hlt : here < high := by
          by_cases q : here < high
          · exact q
          · exact absurd (by rw [show here = high by omega]) hs
        obtain ⟨s, z', p1, p2, p3, p4, ew⟩ := bisect (n := n) (μ := μ ++ [⟨0, xs.map .int⟩]) l low high here (.cell μ.length) z3 here high 1000 (Nat.le_refl _) (by omega) (Int.le_refl _) hlt (Int.le_refl _) (by omega) rfl (fun z => hs z.symm) sgn
        have hstep := hmo.step (x := s + 1) (by omega) (by omega) p4
        have hx2 : xs ++ [s] = chL (pv l) low (j + ((s - here).toNat + 1)) := by
          rw [chL_add, ← hx, ← hh, chL_add, chL_nil (pv l) here, List.nil_append]
          · have e2 : here + (((s - here).toNat : Nat) : Int) = s := by omega
            rw [e2, chL_one (pv l) s (fun z => p4 (z ▸ p3))]
          · intro i hi
            exact (hmo.sub (Int.le_refl _) (show s ≤ high by omega)).between p3.symm (by omega) (by omega)
        refine .inr ⟨_, [some (ti l), some (.int low), some (.int high), some (.cell μ.length), some (.int (s + 1)), some (.int s), some (.int (s + 1)), z'], μ ++ [⟨0, (xs ++ [s]).map .int⟩], far (pv l) (s + 1) high, by rw [hc, decide_eq_true hs], ?_, hstep, s + 1, j + ((s - here).toNat + 1), xs ++ [s], some (.int s), some (.int (s + 1)), z', by omega, by omega, hx2, ?_, rfl, rfl, rfl⟩
        · have hsz : xs.length < sizeLine := by
            have e3 : sizeLine = 16777216 := rfl
            omega
          simp [bodyF, ew, mut_last, set_last, hsz]
        · rw [List.length_append]
          show xs.length + 1 + _ ≤ 2
          omega)
    turns (far (pv l) low high) (ρ := [some (ti l), some (.int low), some (.int high), some (.cell μ.length), some (.int low), none, none, none]) (μ := μ ++ [⟨0, []⟩]) (turns_big (Nat.le_trans far_le (by decide)))
    ⟨low, 0, [], none, none, none, by omega, hlh, rfl, by have := far_le (p := pv l) (a := low) (b := high); simpa using this, rfl, rfl, rfl⟩
  rw [← hx]
  refine ⟨?_, hlen⟩
  simp [r_18, f_18, fit0, e, frz_last, take_last]
end Tab
namespace Tab
open PySem DL
/-! sizes -/
theorem pv_size {B M : Nat} {m : Int} (hm : m.natAbs ≤ 2 ^ M) : ∀ {s : List Int}, (∀ a ∈ s, a.natAbs ≤ 2 ^ B) → (pv s m).natAbs ≤ 2 ^ ((B + M + 1) * s.length)
  | [], _ => by show (0 : Int).natAbs ≤ _; simp
  | a :: s, h => by
    have ih := pv_size (B := B) hm (s := s) fun b hb => h b (List.mem_cons_of_mem _ hb)
    have ha := h a (List.mem_cons_self ..)
    rw [pv_cons, List.length_cons]
    have h1 : (pv s m * m).natAbs ≤ 2 ^ ((B + M + 1) * s.length) * 2 ^ M := by
      rw [Int.natAbs_mul]
      exact Nat.mul_le_mul ih hm
    have e : (B + M + 1) * (s.length + 1) = ((B + M + 1) * s.length + M) + (B + 1) := by rw [Nat.mul_succ]; omega
    rw [← Nat.pow_add] at h1
    have h2 : 2 ^ ((B + M + 1) * s.length + M) * 2 ^ B ≥ 2 ^ ((B + M + 1) * s.length + M) := Nat.le_mul_of_pos_right _ (Nat.pow_pos (by decide))
    have h3 : 2 ^ ((B + M + 1) * s.length + M) * 2 ^ B ≥ 2 ^ B := Nat.le_mul_of_pos_left _ (Nat.pow_pos (by decide))
    rw [e, Nat.pow_add, Nat.pow_succ]
    have h4 : 2 ^ ((B + M + 1) * s.length + M) * (2 ^ B * 2) = 2 * (2 ^ ((B + M + 1) * s.length + M) * 2 ^ B) := by rw [← Nat.mul_assoc, Nat.mul_comm _ 2]
    omega
theorem log_lt {a : Int} {k : Nat} (h : a.natAbs ≤ 2 ^ k) : a.natAbs.log2 ≤ k := by
  by_cases h0 : a.natAbs = 0
  · rw [h0]; simp
  · have h1 : a.natAbs.log2 < k + 1 := (Nat.log2_lt h0).mpr (by rw [Nat.pow_succ]; have := Nat.pow_pos (n := k) (show 0 < 2 by decide); omega)
    omega
theorem mulOk_of {a b : Int} {j k : Nat} (ha : a.natAbs ≤ 2 ^ j) (hb : b.natAbs ≤ 2 ^ k) (h : j + k < 1000000) : mulOk a b = true := by
  have h1 := log_lt ha
  have h2 := log_lt hb
  have h3 : decide (a.natAbs.log2 + b.natAbs.log2 < 1000000) = true := decide_eq_true (by omega)
  unfold mulOk
  rw [h3, Bool.or_true]
theorem mulOk_all {B M : Nat} {l : List Int} {m : Int} (hl : Bd (2 ^ B) l) (hm : m.natAbs ≤ 2 ^ M) (h : (B + M + 1) * l.length + M < 1000000) : ∀ s, s <:+ l → mulOk (pv s m) m = true := fun s hs => by
  have h1 := pv_size (B := B) hm (s := s) fun a ha => hl.mem a (hs.subset ha)
  have h2 : (B + M + 1) * s.length ≤ (B + M + 1) * l.length := Nat.mul_le_mul_left _ hs.length_le
  exact mulOk_of h1 hm (by omega)
/-! all changes, one after another -/
theorem chL_succ (p : Int → Int) (b : Int) (k : Nat) : chL p b (k + 1) = if sg (p b) ≠ sg (p (b + 1)) then b :: chL p (b + 1) k else chL p (b + 1) k := by
  have e : chL p b (k + 1) = chL p b 1 ++ chL p (b + 1) k := by rw [Nat.add_comm, chL_add]; rfl
  rw [e]
  split
  · rename_i h
    rw [chL_one p b h]
    rfl
  · rename_i h
    rw [chL_nil p b 1, List.nil_append]
    intro i hi
    have h := Classical.not_not.mp h
    have : i = 0 ∨ i = 1 := by omega
    rcases this with rfl | rfl
    · rw [show b + ((0 : Nat) : Int) = b by omega]
    · exact h.symm
theorem chL_head (p : Int → Int) : ∀ (k : Nat) (b r : Int) (R : List Int), chL p b k = r :: R → b ≤ r ∧ r < b + k ∧ R = chL p (r + 1) (b + k - (r + 1)).toNat ∧ ∀ t, b ≤ t → t < r → sg (p t) = sg (p (t + 1))
  | 0, b, r, R, h => by cases h
  | k + 1, b, r, R, h => by
    rw [chL_succ] at h
    split at h
    · cases h
      refine ⟨by omega, by omega, ?_, fun t h1 h2 => by omega⟩
      congr 1
      omega
    · rename_i hn
      obtain ⟨h1, h2, h3, h4⟩ := chL_head p k (b + 1) r R h
      refine ⟨by omega, by omega, ?_, fun t q1 q2 => ?_⟩
      · rw [h3]
        congr 1
        omega
      · by_cases e : t = b
        · subst e
          exact Classical.not_not.mp hn
        · exact h4 t (by omega) q2
theorem chL_none (p : Int → Int) : ∀ (k : Nat) (b : Int), chL p b k = [] → ∀ t, b ≤ t → t < b + k → sg (p t) = sg (p (t + 1))
  | 0, b, _, t, h1, h2 => by omega
  | k + 1, b, h, t, h1, h2 => by
    rw [chL_succ] at h
    split at h
    · cases h
    · rename_i hn
      by_cases e : t = b
      · subst e
        exact Classical.not_not.mp hn
      · exact chL_none p k (b + 1) h t (by omega) (by omega)
theorem same_sg {q : Int → Int} {b : Int} : ∀ (i : Nat), (∀ t, b ≤ t → t < b + i → sg (q t) = sg (q (t + 1))) → sg (q (b + (i : Nat))) = sg (q b)
  | 0, _ => by rw [show b + ((0 : Nat) : Int) = b by omega]
  | i + 1, h => by
    have h1 := same_sg i fun t a1 a2 => h t a1 (by omega)
    have h2 := h (b + (i : Nat)) (by omega) (by omega)
    rw [← h1, h2]
    congr 2
    omega
/-- where the steps keep their sign, there is one way -/
theorem mono_of {p q : Int → Int} (hq : ∀ x, q x = p (x + 1) - p x) {b r : Int} (h : ∀ t, b ≤ t → t < r → sg (q t) = sg (q (t + 1))) : Mono p b (r + 1) := by
  have all : ∀ t, b ≤ t → t ≤ r → sg (q t) = sg (q b) := fun t h1 h2 => by
    have := same_sg (q := q) (b := b) (t - b).toNat fun u a1 a2 => h u a1 (by omega)
    rw [show b + (((t - b).toNat : Nat) : Int) = t by omega] at this
    exact this
  by_cases c : 0 ≤ sg (q b)
  · left
    have up : ∀ (i : Nat) (x : Int), b ≤ x → x + i ≤ r + 1 → p x ≤ p (x + i) := fun i => by
      induction i with
      | zero => intro x _ _; rw [show x + ((0 : Nat) : Int) = x by omega]; exact Int.le_refl _
      | succ i ih =>
        intro x h1 h2
        have h3 := ih x h1 (by omega)
        have h4 := all (x + i) (by omega) (by omega)
        have h5 := hq (x + i)
        have h6 : 0 ≤ q (x + i) := by
          unfold sg at h4 c
          split at h4 <;> split at c <;> omega
        rw [show x + ((i + 1 : Nat) : Int) = x + i + 1 by omega]
        omega
    intro x y h1 h2 h3
    have := up (y - x).toNat x h1 (by omega)
    rwa [show x + (((y - x).toNat : Nat) : Int) = y by omega] at this
  · right
    have dn : ∀ (i : Nat) (x : Int), b ≤ x → x + i ≤ r + 1 → p (x + i) ≤ p x := fun i => by
      induction i with
      | zero => intro x _ _; rw [show x + ((0 : Nat) : Int) = x by omega]; exact Int.le_refl _
      | succ i ih =>
        intro x h1 h2
        have h3 := ih x h1 (by omega)
        have h4 := all (x + i) (by omega) (by omega)
        have h5 := hq (x + i)
        have h6 : q (x + i) ≤ 0 := by
          have c2 : sg (q (x + i)) < 0 := by omega
          unfold sg at c2
          split at c2
          · omega
          · split at c2 <;> omega
        rw [show x + ((i + 1 : Nat) : Int) = x + i + 1 by omega]
        omega
    intro x y h1 h2 h3
    have := dn (y - x).toNat x h1 (by omega)
    rwa [show x + (((y - x).toNat : Nat) : Int) = y by omega] at this
end Tab
namespace Tab
open PySem DL
/-- the stretches between turns -/
def prs (high : Int) : Int → List Int → List D
  | b, [] => [.tup [.int b, .int high]]
  | b, r :: R => .tup [.int b, .int (r + 1)] :: prs high (r + 1) R
theorem prs_zip (high : Int) : ∀ (b : Int) (T : List Int), zipL ((b :: T.map (· + 1)).map D.int) ((T.map (· + 1) ++ [high]).map D.int) = prs high b T
  | b, [] => rfl
  | b, r :: R => by
    have ih := prs_zip high (r + 1) R
    show D.tup [.int b, .int (r + 1)] :: zipL (((r + 1) :: R.map (· + 1)).map D.int) ((R.map (· + 1) ++ [high]).map D.int) = _
    rw [ih]
    rfl
theorem prs_len (high : Int) : ∀ (b : Int) (T : List Int), (prs high b T).length = T.length + 1
  | _, [] => rfl
  | b, r :: R => by rw [prs, List.length_cons, prs_len, List.length_cons]
abbrev tuB : SX := .ext 3 (.call 18 (.cs (.var 0) (.cs (.var 4) (.cs (.var 5) .nl))))
theorem turns_loop {n : Nat} {μ : Store} (l : List Int) (high : Int) (v1 v2 : D) (z1 z2 z6 : Option D) (q : Int → Int) (hq : ∀ x, q x = pv l (x + 1) - pv l x) (T : List Int) (hT : T = chL q 1 (high - 1).toNat) (h1 : 1 ≤ high) (hbig : high ≤ 2 ^ 1000) (hfew : T.length ≤ 100000)
    (ho : ∀ m, 1 ≤ m → m ≤ high → ∀ s, s <:+ l → mulOk (pv s m) m = true) (z : Option D) :
    ∃ (z1' z2' : Option D), loopL (loopF (run fs (n + 3)) (.tup (.cs (.var 4) (.cs (.var 5) .nl))) tuB) (prs high 1 T) [some (ti l), some v1, some v2, some (.cell μ.length), z1, z2, z6] (μ ++ [⟨0, []⟩])
      = .ok (.nx [some (ti l), some v1, some v2, some (.cell μ.length), z1', z2', z6]) (μ ++ [⟨0, (chL (pv l) 1 (high - 1).toNat).map .int⟩]) ∧ (chL (pv l) 1 (high - 1).toNat).length ≤ 2 * (T.length + 1) := by
  obtain ⟨ρ', μ', e, I⟩ := loop_inv (f := loopF (run fs (n + 3)) (.tup (.cs (.var 4) (.cs (.var 5) .nl))) tuB)
    (fun xs ρ μ' => ∃ (fnd : List Int) (z1 z2 : Option D), μ' = μ ++ [⟨0, fnd.map .int⟩] ∧ ρ = [some (ti l), some v1, some v2, some (.cell μ.length), z1, z2, z6] ∧ fnd.length + 2 * xs.length ≤ 2 * (T.length + 1) ∧
      ((xs = [] ∧ fnd = chL (pv l) 1 (high - 1).toNat) ∨ ∃ (b : Int) (R : List Int), xs = prs high b R ∧ 1 ≤ b ∧ b ≤ high ∧ R = chL q b (high - b).toNat ∧ fnd = chL (pv l) 1 (b - 1).toNat))
    (xs := prs high 1 T) (ρ := [some (ti l), some v1, some v2, some (.cell μ.length), z1, z2, z6]) (μ := μ ++ [⟨0, []⟩])
    ⟨[], z1, z2, rfl, rfl, by rw [prs_len]; simp, .inr ⟨1, T, rfl, Int.le_refl _, h1, hT, rfl⟩⟩
    (fun x r ρ μ' hI => by
      obtain ⟨fnd, z1, z2, rfl, rfl, hlen, hI⟩ := hI
      rcases hI with ⟨hz, _⟩ | ⟨b, R, hxs, hb1, hb2, hR, hf⟩
      · cases hz
      · have go : ∀ (e : Int) (hbe : b ≤ e) (he : e ≤ high) (hx : x = .tup [.int b, .int e]) (hmo : Mono (pv l) b e),
            loopF (run fs (n + 3)) (.tup (.cs (.var 4) (.cs (.var 5) .nl))) tuB x [some (ti l), some v1, some v2, some (.cell μ.length), z1, z2, z6] (μ ++ [⟨0, fnd.map .int⟩]) = .ok (.nx [some (ti l), some v1, some v2, some (.cell μ.length), some (.int b), some (.int e), z6]) (μ ++ [⟨0, (chL (pv l) 1 (e - 1).toNat).map .int⟩]) ∧ (chL (pv l) 1 (e - 1).toNat).length ≤ fnd.length + 2 := by
          intro e hbe he hx hmo
          subst hx
          obtain ⟨c1, c2⟩ := s_changes (n := n) (μ := μ ++ [⟨0, fnd.map .int⟩]) l b e hbe (by omega) hmo fun m a1 a2 => ho m (by omega) (by omega)
          have e1 : (e - 1).toNat = (b - 1).toNat + (e - b).toNat := by omega
          have e2 : (1 : Int) + (((b - 1).toNat : Nat) : Int) = b := by omega
          have e3 : chL (pv l) 1 (e - 1).toNat = fnd ++ chL (pv l) b (e - b).toNat := by rw [e1, chL_add, e2, ← hf]
          have hsz : fnd.length + (chL (pv l) b (e - b).toNat).length ≤ sizeLine := by
            have e4 : sizeLine = 16777216 := rfl
            omega
          rw [e3]
          refine ⟨?_, by rw [List.length_append]; omega⟩
          simp [loopF, c1, mut_last, set_last, hsz]
        cases R with
        | nil =>
          cases hxs
          have hno := chL_none q _ b hR.symm
          have hmo : Mono (pv l) b high := by
            by_cases hlt : b < high
            · have := mono_of hq (b := b) (r := high - 1) fun t a1 a2 => hno t a1 (by omega)
              rwa [show high - 1 + 1 = high by omega] at this
            · exact .inl fun x y a1 a2 a3 => by rw [show x = y by omega]; exact Int.le_refl _
          obtain ⟨g1, g2⟩ := go high hb2 (Int.le_refl _) rfl hmo
          refine ⟨_, _, g1, _, _, _, rfl, rfl, ?_, .inl ⟨rfl, rfl⟩⟩
          simp only [List.length_cons, List.length_nil] at hlen ⊢
          omega
        | cons r' R =>
          cases hxs
          obtain ⟨a1, a2, a3, a4⟩ := chL_head q _ b r' R hR.symm
          have hmo := mono_of hq a4
          obtain ⟨g1, g2⟩ := go (r' + 1) (by omega) (by omega) rfl hmo
          refine ⟨_, _, g1, _, _, _, rfl, rfl, ?_, .inr ⟨r' + 1, R, rfl, by omega, by omega, ?_, rfl⟩⟩
          · rw [List.length_cons] at hlen
            omega
          · rw [a3]
            congr 1
            omega)
  obtain ⟨fnd, z1', z2', rfl, rfl, hlen, hI⟩ := I
  rcases hI with ⟨_, rfl⟩ | ⟨b, R, hz, _⟩
  · exact ⟨z1', z2', e, by simpa using hlen⟩
  · have := congrArg List.length hz
    rw [prs_len] at this
    simp at this
theorem pv_const {l : List Int} (h : l.length < 2) (x y : Int) : pv l x = pv l y := by
  match l, h with
  | [], _ => rfl
  | [a], _ => simp
theorem chL_const {l : List Int} (h : l.length < 2) (b : Int) (k : Nat) : chL (pv l) b k = [] := chL_nil _ _ _ fun i _ => by rw [pv_const h]
theorem cat_lst {μ : Store} {xs ys : List D} (h : xs.length + ys.length ≤ 1000000) : binD μ .Add (.lst xs) (.lst ys) = some (.lst (xs ++ ys)) := by
  show (fitL (xs ++ ys)).map D.lst = _
  rw [fit_of (line_big (by rw [List.length_append]; exact h))]
  rfl
theorem lt_int {μ : Store} {x y : Int} : cmpD μ .Lt (.int x) (.int y) = some (decide (x < y)) := rfl
/-- all turns -/
theorem s_turns : ∀ (k N : Nat) (μ : Store) (l : List Int) (high : Int) (B : Nat), l.length ≤ k → k ≤ 5 → k + 4 ≤ N → 1 ≤ high → high ≤ 2 ^ 300 → Bd (2 ^ B) l → B + 6 * k ≤ 300 →
    run fs N 19 [ti l, .int high] μ = .ok (.lst ((chL (pv l) 1 (high - 1).toNat).map .int)) μ ∧ (chL (pv l) 1 (high - 1).toNat).length + 2 ≤ 2 ^ (k + 1)
  | k, N, μ, l, high, B, hl, hk, hN, h1, h2, hb, hB => by
    obtain ⟨n, rfl⟩ : ∃ n, N = n + 4 := ⟨N - 4, by omega⟩
    by_cases hs : l.length < 2
    · rw [chL_const hs]
      constructor
      · have e : decide ((l.length : Int) < 2) = true := decide_eq_true (by omega)
        simp [r_19, f_19, len_tup, lt_int, e, fit0]
      · have := Nat.pow_le_pow_right (show 1 ≤ 2 by decide) (show 1 ≤ k + 1 by omega)
        simpa using this
    · match k, hl, hk, hN, hB with
      | 0, hl, _, _, _ => omega
      | k + 1, hl, hk, hN, hB =>
        have hg := gaps_len l
        have hgb : Bd (2 ^ (B + 6)) (gapsN l) := by
          have := gaps_bd hb (by omega)
          rw [Nat.pow_add]
          rwa [Nat.mul_comm] at this
        obtain ⟨t1, t2⟩ := s_turns k (n + 3) μ (gapsN l) high (B + 6) (by omega) (by omega) (by omega) h1 h2 hgb (by omega)
        have hp : 2 ^ (k + 1) ≤ 2 ^ 5 := Nat.pow_le_pow_right (by decide) (by omega)
        have ho : ∀ m, 1 ≤ m → m ≤ high → ∀ s, s <:+ l → mulOk (pv s m) m = true := fun m a1 a2 => by
          have hm : m.natAbs ≤ 2 ^ 300 := by
            have q : ((2 ^ 300 : Nat) : Int) = 2 ^ 300 := by norm_cast
            omega
          refine mulOk_all hb hm ?_
          have : (B + 300 + 1) * l.length ≤ (B + 300 + 1) * 5 := Nat.mul_le_mul_left _ (by omega)
          omega
        obtain ⟨z1', z2', e, hlen⟩ := turns_loop (n := n) (μ := μ) l high (.int high) (.lst ((1 :: (chL (pv (gapsN l)) 1 (high - 1).toNat).map (· + 1)).map .int)) none none none (pv (gapsN l)) (gaps_pv l) _ rfl h1
          (Int.le_trans h2 (by decide +kernel)) (by omega) ho none
        refine ⟨?_, ?_⟩
        · generalize chL (pv (gapsN l)) 1 (high - 1).toNat = T at *
          have q1 := s_gaps (n := n) (μ := μ) l (by omega)
          have q2 : compR (.ok (T.map D.int, none) μ) (turn (run fs (n + 3)) [6] (.bin .Add (.var 6) (.int 1)) (.var 6) .nl [some (ti l), some (.int high), none, none, none, none, none]) = .ok ((T.map (· + 1)).map D.int) μ := by
            have q := compR_map (μ := μ) (f := turn (run fs (n + 3)) [6] (.bin .Add (.var 6) (.int 1)) (.var 6) .nl [some (ti l), some (.int high), none, none, none, none, none]) (g := fun d => match d with
              | .int a => .int (a + 1)
              | d => d) (xs := T.map D.int) (fun x hx => by
                obtain ⟨a, ha, rfl⟩ := List.mem_map.mp hx
                simp [turn, add_int]) (line_big (by rw [List.length_map]; omega))
            rw [q, List.map_map, List.map_map]
            rfl
          have q3 : binD μ .Add (.lst [.int 1]) (.lst ((T.map (· + 1)).map D.int)) = some (.lst ((1 :: T.map (· + 1)).map D.int)) := cat_lst (by simp; omega)
          have q4 : ∀ ν : Store, slcD ν (.lst ((1 :: T.map (· + 1)).map D.int)) (some 1) none = some (.lst ((T.map (· + 1)).map D.int)) := fun ν => by
            show some (D.lst (cutD _ (some ((1 : Nat) : Int)) none)) = _
            rw [cut_from (by simp)]
            rfl
          have q5 : ∀ ν : Store, binD ν .Add (.lst ((T.map (· + 1)).map D.int)) (.lst [.int high]) = some (.lst ((T.map (· + 1) ++ [high]).map D.int)) := fun ν => by
            rw [cat_lst (by simp; omega)]
            simp
          have q6 := prs_zip high 1 T
          have st2 : exs (run fs (n + 3)) (.set (.var 2) (.bin .Add (.lst (.cs (.int (1)) .nl)) (.comp [6] (.bin .Add (.var 6) (.int (1))) (.var 6) (.one (.call 19 (.cs (.call 17 (.cs (.var 0) .nl)) (.cs (.var 1) .nl)))) .nl))) [some (ti l), some (.int high), none, none, none, none, none] μ = .ok (.nx [some (ti l), some (.int high), some (.lst ((1 :: T.map (· + 1)).map D.int)), none, none, none, none]) μ := by
            simp only [exs_set, ev_bin, ev_lst, evs_cs, evs_nl, ev_int, Rs.bind_ok, mkL_ok, frzs_cons, frzs_nil, frz_int, fit1, Rs.of_some, ev_comp, evI_one, ev_call, ev_var, List.getElem?_cons_zero, List.getElem?_cons_succ, q1, t1, seqOf_lst, lockOf_lst, q2, q3, asg_var, List.length_cons, List.length_nil]
            rfl
          have st4 : exs (run fs (n + 3)) (.loop (.tup (.cs (.var 4) (.cs (.var 5) .nl))) (.zp (.var 2) (.bin .Add (.slc (.var 2) (.one (.int (1))) .nl) (.lst (.cs (.var 1) .nl)))) tuB) [some (ti l), some (.int high), some (.lst ((1 :: T.map (· + 1)).map D.int)), some (.cell μ.length), none, none, none] (μ ++ [⟨0, []⟩]) = .ok (.nx [some (ti l), some (.int high), some (.lst ((1 :: T.map (· + 1)).map D.int)), some (.cell μ.length), z1', z2', none]) (μ ++ [⟨0, (chL (pv l) 1 (high - 1).toNat).map .int⟩]) := by
            simp only [exs_loop, evI_zp, ev_bin, ev_slc, evO_one, evO_nl, ev_lst, evs_cs, evs_nl, ev_int, Rs.bind_ok, mkL_ok, frzs_cons, frzs_nil, frz_int, fit1, Rs.of_some, ev_var, List.getElem?_cons_zero, List.getElem?_cons_succ, q4, q5, q6, locked_none, un_none]
            exact e
          rw [r_19]
          show leave false μ.length (exs (run fs (n + 3)) (.seq (.ife _ _ _) (.seq _ (.seq _ (.seq _ (.ret _))))) _ _) = _
          have st1 : exs (run fs (n + 3)) (.ife (.cmp .Lt (.bi .len (.cs (.var 0) .nl)) (.int (2))) (.ret (.lst .nl)) .skip) [some (ti l), some (.int high), none, none, none, none, none] μ = .ok (.nx [some (ti l), some (.int high), none, none, none, none, none]) μ := by
            simp [len_tup, lt_int]
            omega
          rw [seq_run st1, seq_run st2]
          have st3 : exs (run fs (n + 3)) (.set (.var 3) (.new (.lst .nl))) [some (ti l), some (.int high), some (.lst ((1 :: T.map (· + 1)).map D.int)), none, none, none, none] μ = .ok (.nx [some (ti l), some (.int high), some (.lst ((1 :: T.map (· + 1)).map D.int)), some (.cell μ.length), none, none, none]) (μ ++ [⟨0, []⟩]) := by
            simp [fit0]
          rw [seq_run st3, seq_run st4]
          simp [frz_last, take_last]
        · have : 2 ^ (k + 1 + 1) = 2 * 2 ^ (k + 1) := by rw [Nat.pow_succ, Nat.mul_comm]
          omega
end Tab
set_option exponentiation.threshold 400
namespace Tab
open PySem DL
/-- the last coefficient is not nought -/
def Fm (l : List Int) : Prop := ∃ h : l ≠ [], l.getLast h ≠ 0
theorem fm_ln {l : List Int} (h : ln l ≠ []) : Fm (ln l) := ⟨h, ln_end l h⟩
theorem fm_tail {a b : Int} {l : List Int} (h : Fm (a :: b :: l)) : Fm (b :: l) := by
  obtain ⟨h1, h2⟩ := h
  exact ⟨by simp, by rwa [List.getLast_cons (by simp)] at h2⟩
/-- beyond the coefficients there is no root -/
theorem beyond {A x : Int} (hx : A + 2 ≤ x) : ∀ {l : List Int}, Fm l → (∀ a ∈ l, -A ≤ a ∧ a ≤ A) → pv l x ≤ -1 ∨ 1 ≤ pv l x
  | [], h, _ => absurd rfl h.1
  | [a], h, _ => by
    have h2 : a ≠ 0 := h.2
    rw [pv_cons, pv_nil]
    omega
  | a :: b :: l, h, hb => by
    have ih := beyond hx (fm_tail h) fun c hc => hb c (List.mem_cons_of_mem _ hc)
    have ha := hb a (List.mem_cons_self ..)
    have hA : 0 ≤ A := by omega
    rw [pv_cons]
    rcases ih with ih | ih
    · left
      have : pv (b :: l) x * x ≤ -1 * x := Int.mul_le_mul_of_nonneg_right ih (by omega)
      omega
    · right
      have : 1 * x ≤ pv (b :: l) x * x := Int.mul_le_mul_of_nonneg_right ih (by omega)
      omega
theorem gaps_fm {l : List Int} (h : gapsN l ≠ []) : Fm (gapsN l) := fm_ln h
theorem some_not {A : Int} : ∀ (k : Nat) (l : List Int) (a : Int), l.length ≤ k → Fm l → ∃ i : Nat, i < l.length ∧ pv l (a + (i : Nat)) ≠ 0
  | 0, l, a, hk, h => absurd (List.length_eq_zero_iff.mp (by omega)) h.1
  | k + 1, l, a, hk, h => by
    apply Classical.byContradiction
    intro hno
    have hz : ∀ i : Nat, i < l.length → pv l (a + (i : Nat)) = 0 := fun i hi => Classical.byContradiction fun z => hno ⟨i, hi, z⟩
    have hp : 0 < l.length := List.length_pos_iff.mpr h.1
    by_cases hg : gapsN l = []
    · have const : ∀ x, pv l (x + 1) = pv l x := fun x => by
        have := gaps_pv l x
        rw [hg] at this
        have e : pv [] x = 0 := rfl
        omega
      have up : ∀ (i : Nat), pv l (a + (i : Nat)) = 0 := fun i => by
        induction i with
        | zero => exact hz 0 hp
        | succ i ih => rw [show a + ((i + 1 : Nat) : Int) = a + i + 1 by omega, const, ih]
      obtain ⟨A, hA⟩ : ∃ A : Int, ∀ b ∈ l, -A ≤ b ∧ b ≤ A := by
        have gen : ∀ m : List Int, ∃ A : Int, ∀ b ∈ m, -A ≤ b ∧ b ≤ A := fun m => by
          induction m with
          | nil => exact ⟨0, fun b hb => by simp at hb⟩
          | cons c m ih =>
            obtain ⟨A, hA⟩ := ih
            refine ⟨max A (c.natAbs : Int), fun b hb => ?_⟩
            rcases List.mem_cons.mp hb with rfl | hb
            · omega
            · have := hA b hb
              omega
        exact gen l
      have := beyond (x := a + (((A + 2 - a).toNat : Nat) : Int)) (A := A) (by omega) h hA
      rw [up] at this
      omega
    · have hl := gaps_len l
      obtain ⟨i, hi, ne⟩ := some_not (A := A) k (gapsN l) a (by omega) (gaps_fm hg)
      apply ne
      rw [gaps_pv, hz i (by omega), show a + (i : Nat) + 1 = a + ((i + 1 : Nat) : Int) by omega, hz (i + 1) (by omega)]
      rfl
theorem sg_zero {x : Int} : sg x = 0 ↔ x = 0 := by
  unfold sg
  constructor
  · intro h
    split at h
    · omega
    · split at h <;> omega
  · rintro rfl
    rfl
/-- exactly the roots from 1 on, below c -/
def RootsTo (l : List Int) (c : Int) (R : List Int) : Prop := R.Pairwise (· < ·) ∧ ∀ x, x ∈ R ↔ 1 ≤ x ∧ pv l x = 0 ∧ x < c
abbrev rtC : PX := .cmp .Eq (.call 12 (.cs (.var 0) (.cs (.var 4) .nl))) (.int 0)
abbrev rtB : SX := .seq (.app 2 (.var 4)) (.set (.var 4) (.bin .Add (.var 4) (.int 1)))
theorem roots_run {n : Nat} {μ : Store} (l : List Int) (hl : Fm l) (v1 v3 : D) (z5 : Option D) (low : Int) (h0 : 0 ≤ low) (R : List Int) (hR : RootsTo l (low + 1) R) (hlen : R.length + l.length ≤ 100000) (hsm : l.length ≤ 5)
    (ho : ∀ m, 1 ≤ m → m ≤ low + 10 → ∀ s, s <:+ l → mulOk (pv s m) m = true) :
    ∃ (c : Int) (R' : List Int), low + 1 ≤ c ∧ pv l c ≠ 0 ∧ (∀ x, low + 1 ≤ x → x < c → pv l x = 0) ∧ RootsTo l c R' ∧ R'.length ≤ R.length + l.length ∧
      whileL (condF (run fs (n + 1)) rtC) (bodyF (run fs (n + 1)) rtB) turns [some (ti l), some v1, some (.cell μ.length), some v3, some (.int (low + 1)), z5] (μ ++ [⟨0, R.map .int⟩]) = .ok (.nx [some (ti l), some v1, some (.cell μ.length), some v3, some (.int c), z5]) (μ ++ [⟨0, R'.map .int⟩]) := by
  obtain ⟨ρ', μ', e, c, R', p1, p2, p3, p4, p5, rfl, rfl⟩ := while_inv (c := condF (run fs (n + 1)) rtC) (f := bodyF (run fs (n + 1)) rtB)
    (fun k ρ μ' => ∃ (j : Nat) (R' : List Int), j + k = l.length ∧ (∀ x, low + 1 ≤ x → x < low + 1 + j → pv l x = 0) ∧ RootsTo l (low + 1 + j) R' ∧ R'.length ≤ R.length + j ∧ μ' = μ ++ [⟨0, R'.map .int⟩] ∧ ρ = [some (ti l), some v1, some (.cell μ.length), some v3, some (.int (low + 1 + j)), z5])
    (fun ρ μ' => ∃ (c : Int) (R' : List Int), low + 1 ≤ c ∧ pv l c ≠ 0 ∧ (∀ x, low + 1 ≤ x → x < c → pv l x = 0) ∧ RootsTo l c R' ∧ R'.length ≤ R.length + l.length ∧ μ' = μ ++ [⟨0, R'.map .int⟩] ∧ ρ = [some (ti l), some v1, some (.cell μ.length), some v3, some (.int c), z5])
    (fun k ρ μ' hI => by
      obtain ⟨j, R', hj, hz, hRj, hlj, rfl, rfl⟩ := hI
      have g1 := s_value (n := n) (μ := μ ++ [⟨0, R'.map .int⟩]) l (low + 1 + j) (ho _ (by omega) (by omega))
      have hc : condF (run fs (n + 1)) rtC [some (ti l), some v1, some (.cell μ.length), some v3, some (.int (low + 1 + j)), z5] (μ ++ [⟨0, R'.map .int⟩]) = .ok (decide (pv l (low + 1 + j) = 0)) (μ ++ [⟨0, R'.map .int⟩]) := by
        simp [condF, g1, eq_int]
      by_cases h : pv l (low + 1 + j) = 0
      · have hjl : j < l.length := by
          apply Classical.byContradiction
          intro hn
          obtain ⟨i, hi, ne⟩ := some_not (A := 0) l.length l (low + 1) (Nat.le_refl _) hl
          exact ne (hz _ (by omega) (by omega))
        cases k with
        | zero => omega
        | succ k =>
          have hsz : R'.length < sizeLine := by
            have e4 : sizeLine = 16777216 := rfl
            omega
          refine .inr ⟨_, [some (ti l), some v1, some (.cell μ.length), some v3, some (.int (low + 1 + j + 1)), z5], μ ++ [⟨0, (R' ++ [low + 1 + (j : Int)]).map .int⟩], k, by rw [hc, decide_eq_true h], ?_, Nat.lt_succ_self _, j + 1, R' ++ [low + 1 + (j : Int)], by omega, ?_, ?_, ?_, rfl, ?_⟩
          · simp [bodyF, mut_last, set_last, hsz, add_int]
          · intro x h1 h2
            by_cases q : x = low + 1 + j
            · rw [q]; exact h
            · exact hz x h1 (by omega)
          · obtain ⟨r1, r2⟩ := hRj
            refine ⟨?_, fun x => ?_⟩
            · rw [List.pairwise_append]
              refine ⟨r1, by simp, fun a ha b hb => ?_⟩
              have hb : b = low + 1 + j := by simpa using hb
              have := (r2 a).mp ha
              omega
            · rw [List.mem_append, r2]
              constructor
              · rintro (⟨a1, a2, a3⟩ | hx)
                · exact ⟨a1, a2, by omega⟩
                · have hx : x = low + 1 + j := by simpa using hx
                  subst hx
                  exact ⟨by omega, h, by omega⟩
              · rintro ⟨a1, a2, a3⟩
                by_cases q : x = low + 1 + j
                · right; simp [q]
                · left; exact ⟨a1, a2, by omega⟩
          · rw [List.length_append]
            show R'.length + 1 ≤ _
            omega
          · rw [show low + 1 + (j : Int) + 1 = low + 1 + ((j + 1 : Nat) : Int) by omega]
      · exact .inl ⟨_, by rw [hc, decide_eq_false h], low + 1 + j, R', by omega, h, hz, hRj, by omega, rfl, rfl⟩)
    turns l.length (ρ := [some (ti l), some v1, some (.cell μ.length), some v3, some (.int (low + 1)), z5]) (μ := μ ++ [⟨0, R.map .int⟩]) (turns_big (by omega))
    ⟨0, R, by omega, fun x h1 h2 => by omega, by rw [show low + 1 + ((0 : Nat) : Int) = low + 1 by omega]; exact hR, by omega, rfl, by rw [show low + 1 + ((0 : Nat) : Int) = low + 1 by omega]⟩
  exact ⟨c, R', p1, p2, p3, p4, p5, e⟩
end Tab
namespace Tab
open PySem DL
abbrev rooB : SX := .seq (.set (.var 4) (.bin .Add (.var 3) (.int (1)))) (.whl rtC rtB)
theorem const_upto {q : Int → Int} {b t : Int} (h : ∀ x, b ≤ x → x < t → sg (q x) = sg (q (x + 1))) {x : Int} (h1 : b ≤ x) (h2 : x ≤ t) : sg (q x) = sg (q b) := by
  have := same_sg (q := q) (b := b) (x - b).toNat fun u a1 a2 => h u a1 (by omega)
  rwa [show b + (((x - b).toNat : Nat) : Int) = x by omega] at this
theorem roots_loop {n : Nat} {μ : Store} (l : List Int) (hl : Fm l) (hsm : l.length ≤ 5) (high : Int) (h1 : 1 ≤ high) (v1 : D) (T : List Int) (hT : T = chL (pv l) 1 (high - 1).toNat) (hfew : T.length ≤ 1000) (z3 z4 z5 : Option D) (hbey : ∀ x, high ≤ x → pv l x ≠ 0)
    (ho : ∀ m, 1 ≤ m → m ≤ high + 10 → ∀ s, s <:+ l → mulOk (pv s m) m = true) :
    ∃ (R : List Int) (z3' z4' : Option D), loopL (loopF (run fs (n + 1)) (.var 3) rooB) ((0 :: T).map D.int) [some (ti l), some v1, some (.cell μ.length), z3, z4, z5] (μ ++ [⟨0, []⟩])
      = .ok (.nx [some (ti l), some v1, some (.cell μ.length), z3', z4', z5]) (μ ++ [⟨0, R.map .int⟩]) ∧ R.Pairwise (· < ·) ∧ (∀ x, x ∈ R ↔ 1 ≤ x ∧ pv l x = 0) ∧ R.length ≤ 10000 := by
  obtain ⟨ρ', μ', e, R, z3', z4', rfl, rfl, I⟩ := loop_inv (f := loopF (run fs (n + 1)) (.var 3) rooB)
    (fun xs ρ μ' => ∃ (R : List Int) (z3 z4 : Option D), μ' = μ ++ [⟨0, R.map .int⟩] ∧ ρ = [some (ti l), some v1, some (.cell μ.length), z3, z4, z5] ∧
      ((xs = [] ∧ R.Pairwise (· < ·) ∧ (∀ x, x ∈ R ↔ 1 ≤ x ∧ pv l x = 0) ∧ R.length ≤ 10000) ∨
        ∃ (low : Int) (S : List Int), xs = (low :: S).map D.int ∧ 0 ≤ low ∧ low < high ∧ S = chL (pv l) (low + 1) (high - (low + 1)).toNat ∧ RootsTo l (low + 1) R ∧ R.length + 5 * xs.length ≤ 5 * (T.length + 1)))
    (xs := (0 :: T).map D.int) (ρ := [some (ti l), some v1, some (.cell μ.length), z3, z4, z5]) (μ := μ ++ [⟨0, []⟩])
    ⟨[], z3, z4, rfl, rfl, .inr ⟨0, T, rfl, Int.le_refl _, by omega, by rw [hT]; rfl, ⟨List.Pairwise.nil, fun x => by
      constructor
      · intro z; simp at z
      · rintro ⟨a1, a2, a3⟩; omega⟩, by simp⟩⟩
    (fun x r ρ μ' hI => by
      obtain ⟨R, z3, z4, rfl, rfl, hI⟩ := hI
      rcases hI with ⟨hz, _⟩ | ⟨low, S, hxs, a1, a2, hS, hR, hlen⟩
      · cases hz
      · cases hxs
        obtain ⟨c, R', p1, p2, p3, p4, p5, ew⟩ := roots_run (n := n) (μ := μ) l hl v1 (.int low) z5 low a1 R hR (by simp at hlen; omega) hsm fun m b1 b2 => ho m b1 (by omega)
        have hst : loopF (run fs (n + 1)) (.var 3) rooB (.int low) [some (ti l), some v1, some (.cell μ.length), z3, z4, z5] (μ ++ [⟨0, R.map .int⟩]) = .ok (.nx [some (ti l), some v1, some (.cell μ.length), some (.int low), some (.int c), z5]) (μ ++ [⟨0, R'.map .int⟩]) := by
          simp [loopF, add_int, ew]
        have hlen2 : R.length + 5 * (S.length + 1) ≤ 5 * (T.length + 1) := by simpa using hlen
        refine ⟨_, _, hst, R', _, _, rfl, rfl, ?_⟩
        cases S with
        | nil =>
          left
          have hno := chL_none (pv l) _ (low + 1) hS.symm
          have hcst : ∀ x, low + 1 ≤ x → x ≤ high → sg (pv l x) = sg (pv l (low + 1)) := fun x b1 b2 => const_upto (fun u c1 c2 => hno u c1 (by omega)) b1 b2
          have hnz : ∀ x, low + 1 ≤ x → pv l x ≠ 0 := fun x b1 => by
            by_cases b2 : high ≤ x
            · exact hbey x b2
            · intro z
              have q1 := hcst x b1 (by omega)
              have q2 := hcst high (by omega) (Int.le_refl _)
              rw [z] at q1
              have q3 : sg (pv l high) = 0 := by rw [q2, ← q1]; rfl
              exact hbey high (Int.le_refl _) (sg_zero.mp q3)
          refine ⟨rfl, p4.1, fun x => ?_, by omega⟩
          rw [p4.2]
          constructor
          · rintro ⟨b1, b2, b3⟩; exact ⟨b1, b2⟩
          · rintro ⟨b1, b2⟩
            refine ⟨b1, b2, ?_⟩
            by_cases b3 : x < low + 1
            · omega
            · exact absurd b2 (hnz x (by omega))
        | cons t S =>
          right
          obtain ⟨t1, t2, t3, t4⟩ := chL_head (pv l) _ (low + 1) t S hS.symm
          have hcst : ∀ x, low + 1 ≤ x → x ≤ t → sg (pv l x) = sg (pv l (low + 1)) := fun x b1 b2 => const_upto t4 b1 b2
          have hch : sg (pv l t) ≠ sg (pv l (t + 1)) := by
            have hm : t ∈ chL (pv l) (low + 1) (high - (low + 1)).toNat := by rw [← hS]; simp
            unfold chL at hm
            exact of_decide_eq_true (List.mem_filter.mp hm).2
          refine ⟨t, S, rfl, by omega, by omega, ?_, ?_, ?_⟩
          · rw [t3]
            congr 1
            omega
          · refine ⟨p4.1, fun x => ?_⟩
            rw [p4.2]
            by_cases h0 : pv l (low + 1) = 0
            · have hz : ∀ x, low + 1 ≤ x → x ≤ t → pv l x = 0 := fun x b1 b2 => sg_zero.mp (by rw [hcst x b1 b2, h0]; rfl)
              have hct : c = t + 1 := by
                by_cases c1 : c ≤ t
                · exact absurd (hz c p1 c1) p2
                · by_cases c2 : t + 1 < c
                  · exfalso
                    apply hch
                    rw [hz t t1 (Int.le_refl _), p3 (t + 1) (by omega) c2]
                  · omega
              rw [hct]
            · have hnz : ∀ x, low + 1 ≤ x → x ≤ t → pv l x ≠ 0 := fun x b1 b2 z => by
                have q := hcst x b1 b2
                rw [z] at q
                exact h0 (sg_zero.mp q.symm)
              have hc : c = low + 1 := by
                by_cases c1 : low + 1 < c
                · exact absurd (p3 (low + 1) (Int.le_refl _) c1) h0
                · omega
              rw [hc]
              constructor
              · rintro ⟨b1, b2, b3⟩; exact ⟨b1, b2, by omega⟩
              · rintro ⟨b1, b2, b3⟩
                refine ⟨b1, b2, ?_⟩
                by_cases b4 : x < low + 1
                · exact b4
                · exact absurd b2 (hnz x (by omega) (by omega))
          · simp at hlen2 ⊢
            omega)
  rcases I with ⟨_, i1, i2, i3⟩ | ⟨low, S, hz, _⟩
  · exact ⟨R, z3', z4', e, i1, i2, i3⟩
  · cases hz
end Tab
namespace Tab
open PySem DL
theorem maxI_ok : ∀ (m : Int) (r : List Int), m ≤ maxI m r ∧ (∀ a ∈ r, a ≤ maxI m r) ∧ (maxI m r = m ∨ maxI m r ∈ r)
  | m, [] => ⟨Int.le_refl _, fun a h => by simp at h, .inl rfl⟩
  | m, i :: r => by
    rw [maxI]
    obtain ⟨h1, h2, h3⟩ := maxI_ok (if m < i then i else m) r
    have k1 : m ≤ (if m < i then i else m) := by split <;> omega
    have k2 : i ≤ (if m < i then i else m) := by split <;> omega
    refine ⟨Int.le_trans k1 h1, fun a ha => ?_, ?_⟩
    · rcases List.mem_cons.mp ha with rfl | ha
      · exact Int.le_trans k2 h1
      · exact h2 a ha
    · rcases h3 with h3 | h3
      · rw [h3]
        split
        · exact .inr (List.mem_cons_self ..)
        · exact .inl rfl
      · exact .inr (List.mem_cons_of_mem _ h3)
theorem intsOf_map : ∀ l : List Int, intsOf (l.map D.int) = some l
  | [] => rfl
  | a :: l => by
    rw [List.map_cons, intsOf, intsOf_map l]
    rfl
theorem s_roots {n : Nat} {μ : Store} (l : List Int) (hl : Fm l) (hsm : l.length ≤ 5) (hb : Bd (2 ^ 200) l) :
    ∃ R : List Int, run fs (n + 10) 20 [ti l] μ = .ok (ti R) μ ∧ R.Pairwise (· < ·) ∧ (∀ x, x ∈ R ↔ 1 ≤ x ∧ pv l x = 0) ∧ R.length ≤ 10000 := by
  obtain ⟨a, l', rfl⟩ : ∃ a l', l = a :: l' := by
    cases l with
    | nil => exact absurd rfl hl.1
    | cons a l' => exact ⟨a, l', rfl⟩
  have hab : ∀ i : Int, (if i < 0 then -i else i) = (i.natAbs : Int) := fun i => by split <;> omega
  obtain ⟨m1, m2, m3⟩ := maxI_ok (a.natAbs : Int) (l'.map fun i => (i.natAbs : Int))
  have hle : ∀ b ∈ a :: l', -maxI (a.natAbs : Int) (l'.map fun i => (i.natAbs : Int)) ≤ b ∧ b ≤ maxI (a.natAbs : Int) (l'.map fun i => (i.natAbs : Int)) := fun b hb => by
    rcases List.mem_cons.mp hb with rfl | hb
    · omega
    · have := m2 _ (List.mem_map.mpr ⟨b, hb, rfl⟩)
      omega
  have hmx : maxI (a.natAbs : Int) (l'.map fun i => (i.natAbs : Int)) ≤ ((2 ^ 200 : Nat) : Int) := by
    rcases m3 with m3 | m3
    · rw [m3]
      exact Int.ofNat_le.mpr (hb.mem a (List.mem_cons_self ..))
    · obtain ⟨b, hb2, e⟩ := List.mem_map.mp m3
      rw [← e]
      exact Int.ofNat_le.mpr (hb.mem b (List.mem_cons_of_mem _ hb2))
  have q2 : compR (.ok ((a :: l').map D.int, none) μ) (turn (run fs (n + 9)) [5] (.bi .abs (.cs (.var 5) .nl)) (.var 5) .nl [some (ti (a :: l')), none, none, none, none, none]) = .ok (((a :: l').map fun i => (i.natAbs : Int)).map D.int) μ := by
    have q := compR_map (μ := μ) (f := turn (run fs (n + 9)) [5] (.bi .abs (.cs (.var 5) .nl)) (.var 5) .nl [some (ti (a :: l')), none, none, none, none, none]) (g := fun d => match d with
      | .int i => .int (i.natAbs : Int)
      | d => d) (xs := (a :: l').map D.int) (fun x hx => by
        obtain ⟨i, hi, rfl⟩ := List.mem_map.mp hx
        simp [turn, biD, hab]) (line_big (by rw [List.length_map]; omega))
    rw [q, List.map_map, List.map_map]
    rfl
  have q3 : biD μ .max1 [.lst (((a :: l').map fun i => (i.natAbs : Int)).map D.int)] = some (.int (maxI (a.natAbs : Int) (l'.map fun i => (i.natAbs : Int)))) := by
    show (match intsIn μ (.lst (((a :: l').map fun i => (i.natAbs : Int)).map D.int)) with
      | some (i :: r) => some (D.int (maxI i r))
      | _ => none) = _
    unfold intsIn
    rw [listOf_lst]
    dsimp only
    rw [intsOf_map]
    rfl
  generalize maxI (a.natAbs : Int) (l'.map fun i => (i.natAbs : Int)) = A at *
  have e200 : ((2 ^ 200 : Nat) : Int) + 3 ≤ 2 ^ 300 := by decide +kernel
  have e300 : (2 : Int) ^ 300 + 10 ≤ ((2 ^ 301 : Nat) : Int) := by decide +kernel
  obtain ⟨t1, t2⟩ := s_turns 5 (n + 9) μ (a :: l') (3 + A) 200 (by omega) (by omega) (by omega) (by omega) (by omega) hb (by omega)
  have t3 : (chL (pv (a :: l')) 1 (3 + A - 1).toNat).length ≤ 64 := by
    have : (2 : Nat) ^ (5 + 1) = 64 := rfl
    omega
  obtain ⟨R, z3', z4', e, i1, i2, i3⟩ := roots_loop (n := n + 8) (μ := μ) (a :: l') hl hsm (3 + A) (by omega) (.int (3 + A)) _ rfl (by omega) none none none
    (fun x hx => by
      have := beyond (A := A) (x := x) (by omega) hl hle
      omega)
    (fun m b1 b2 => by
      have hm : m.natAbs ≤ 2 ^ 301 := by omega
      refine mulOk_all hb hm ?_
      have : (200 + 301 + 1) * (a :: l').length ≤ (200 + 301 + 1) * 5 := Nat.mul_le_mul_left _ hsm
      omega)
  refine ⟨R, ?_, i1, i2, i3⟩
  have q5 : ∀ ν : Store, binD ν .Add (.lst [.int 0]) (.lst ((chL (pv (a :: l')) 1 (3 + A - 1).toNat).map D.int)) = some (.lst ((0 :: chL (pv (a :: l')) 1 (3 + A - 1).toNat).map D.int)) := fun ν => by
    rw [cat_lst (by rw [List.length_map]; show 1 + _ ≤ _; omega)]
    rfl
  have t1' := (s_turns 5 (n + 9) (μ ++ [⟨0, []⟩]) (a :: l') (3 + A) 200 (by omega) (by omega) (by omega) (by omega) (by omega) hb (by omega)).1
  generalize chL (pv (a :: l')) 1 (3 + A - 1).toNat = T at *
  have st1 : exs (run fs (n + 9)) (.set (.var 1) (.bin .Add (.int (3)) (.bi .max1 (.cs (.comp [5] (.bi .abs (.cs (.var 5) .nl)) (.var 5) (.one (.var 0)) .nl) .nl)))) [some (ti (a :: l')), none, none, none, none, none] μ = .ok (.nx [some (ti (a :: l')), some (.int (3 + A)), none, none, none, none]) μ := by
    simp only [exs_set, ev_bin, ev_int, Rs.bind_ok, ev_bi, evs_cs, evs_nl, ev_comp, evI_one, ev_var, List.getElem?_cons_zero, List.getElem?_cons_succ, seqOf_tup, lockOf_tup, q2, q3, Rs.of_some, add_int, asg_var, List.length_cons, List.length_nil]
    rfl
  have st2 : exs (run fs (n + 9)) (.set (.var 2) (.new (.lst .nl))) [some (ti (a :: l')), some (.int (3 + A)), none, none, none, none] μ = .ok (.nx [some (ti (a :: l')), some (.int (3 + A)), some (.cell μ.length), none, none, none]) (μ ++ [⟨0, []⟩]) := by
    simp [fit0]
  have st3 : exs (run fs (n + 9)) (.loop (.var 3) (.one (.bin .Add (.lst (.cs (.int (0)) .nl)) (.call 19 (.cs (.var 0) (.cs (.var 1) .nl))))) rooB) [some (ti (a :: l')), some (.int (3 + A)), some (.cell μ.length), none, none, none] (μ ++ [⟨0, []⟩]) = .ok (.nx [some (ti (a :: l')), some (.int (3 + A)), some (.cell μ.length), z3', z4', none]) (μ ++ [⟨0, R.map .int⟩]) := by
    simp only [exs_loop, evI_one, ev_bin, ev_lst, evs_cs, evs_nl, ev_int, Rs.bind_ok, mkL_ok, frzs_cons, frzs_nil, frz_int, fit1, Rs.of_some, ev_call, ev_var, List.getElem?_cons_zero, List.getElem?_cons_succ, t1', q5, seqOf_lst, lockOf_lst, locked_none, un_none]
    exact e
  rw [r_20]
  show leave false μ.length (exs (run fs (n + 9)) (.seq _ (.seq _ (.seq _ (.ret _)))) _ _) = _
  rw [seq_run st1, seq_run st2, seq_run st3]
  simp [frz_last, biD, take_last]
end Tab
namespace Tab
open PySem DL
/-! what fits -/
def typed (d : D) : Bool := match d with
  | .fn _ => false
  | .scr _ => false
  | _ => true
def isI (d : D) : Bool := match d with
  | .int _ => true
  | _ => false
def numD (d : D) (lo hi : Int) : Bool := match d with
  | .int i => decide (lo ≤ i ∧ i ≤ hi)
  | _ => false
def tupD (d : D) (lo hi : Int) : Bool := match d with
  | .tup xs => decide (lo ≤ xs.length ∧ (xs.length : Int) ≤ hi)
  | _ => false
theorem b_int {n : Nat} {μ : Store} (d : D) (h : typed d = true) : run fs (n + 1) 0 [d] μ = .ok (.bl (isI d)) μ := by
  cases d <;> first | (cases h; done) | simp [r_0, f_0, isiD, tyD, isI]
theorem b_num {n : Nat} {μ : Store} (d : D) (lo hi : Int) (h : typed d = true) : run fs (n + 2) 1 [d, .int lo, .int hi] μ = .ok (.bl (numD d lo hi)) μ := by
  have q := b_int (n := n) (μ := μ) d h
  cases d with
  | int i => exact s_number i lo hi
  | _ => first | (cases h; done) | simp [r_1, f_1, q, isI, numD]
theorem b_tup {n : Nat} {μ : Store} (d : D) (lo hi : Int) (h : typed d = true) : run fs (n + 1) 3 [d, .int lo, .int hi] μ = .ok (.bl (tupD d lo hi)) μ := by
  cases d with
  | tup xs => exact s_tupleOf xs lo hi
  | _ => first | (cases h; done) | simp [r_3, f_3, isiD, tyD, tupD]
def lastOk (xs : List D) : Bool := match xs.getLast? with
  | some (.int i) => decide (i ≠ 0)
  | _ => true
def formD (d : D) : Bool := match d with
  | .tup xs => decide (xs.length ≤ 4) && (xs.all isI && lastOk xs)
  | _ => false
theorem all_ints : ∀ {xs : List D}, xs.all isI = true → ∃ l : List Int, xs = l.map D.int
  | [], _ => ⟨[], rfl⟩
  | d :: xs, h => by
    rw [List.all_cons, Bool.and_eq_true] at h
    obtain ⟨l, rfl⟩ := all_ints h.2
    cases d with
    | int i => exact ⟨i :: l, rfl⟩
    | _ => cases h.1
theorem bools_map {α : Type} (f : α → Bool) : ∀ xs : List α, boolsOf (xs.map fun x => D.bl (f x)) = some (xs.map f)
  | [] => rfl
  | x :: xs => by rw [List.map_cons, boolsOf, bools_map f xs]; rfl
theorem all_bl {α : Type} {μ : Store} (f : α → Bool) (xs : List α) : biD μ .all [.lst (xs.map fun x => .bl (f x))] = some (.bl (xs.all f)) := by
  show (match listOf μ (.lst (xs.map fun x => D.bl (f x))) with
    | some xs => (boolsOf xs).map fun (bs : List Bool) => D.bl (bs.all id)
    | none => none) = _
  rw [listOf_lst]
  dsimp only
  rw [bools_map, Option.map_some, List.all_map]
  rfl
theorem toPL_map (l : List Int) : toPL (l.map D.int) = l.map PyData.int := by
  induction l with
  | nil => rfl
  | cons a l ih => rw [List.map_cons, toPL, ih]; rfl
theorem dataL_map (l : List Int) : dataL (l.map D.int) = true := by
  induction l with
  | nil => rfl
  | cons a l ih => rw [List.map_cons, dataL, ih]; rfl
theorem lay_ints (l : List Int) : PyData.canLayAll0 (l.map PyData.int) = true ∧ PyData.depthAll (l.map PyData.int) = 0 := by
  induction l with
  | nil => exact ⟨rfl, rfl⟩
  | cons a l ih =>
    rw [List.map_cons]
    constructor
    · rw [PyData.canLayAll0, ih.1]; rfl
    · rw [PyData.depthAll, ih.2]; rfl
theorem okE_ti (l : List Int) : okE (ti l) = true := by
  unfold okE
  have h1 : dataD (ti l) = true := dataL_map l
  have h2 : toP (ti l) = .tuple (l.map PyData.int) := by
    show PyData.tuple (toPL (l.map D.int)) = _
    rw [toPL_map]
  obtain ⟨q1, q2⟩ := lay_ints l
  rw [h1, h2]
  unfold SeqAt.shaped
  rw [PyData.canLay0, q1, PyData.depth, q2]
  rfl
theorem eq_nil {μ : Store} (l : List Int) : cmpD μ .Eq (ti l) (.tup []) = some (l.isEmpty) := by
  show (if okE (ti l) && okE (.tup []) then some (PyData.eqv (toP (ti l)) (toP (.tup []))) else none) = _
  have h3 : okE (.tup []) = true := okE_ti []
  rw [okE_ti, h3]
  show some (PyData.eqv (.tuple (toPL (l.map D.int))) (.tuple [])) = _
  rw [toPL_map, PyData.eqv]
  cases l with
  | nil => rfl
  | cons a l => rfl
theorem b_form {n : Nat} {μ : Store} (d : D) (h : typed d = true) (hx : ∀ xs, d = .tup xs → ∀ x ∈ xs, typed x = true) : run fs (n + 3) 5 [d] μ = .ok (.bl (formD d)) μ := by
  have q1 := b_tup (n := n + 1) (μ := μ) d 0 4 h
  by_cases ht : tupD d 0 4 = true
  · cases d with
    | tup xs =>
      have hl : (xs.length : Int) ≤ 4 := (of_decide_eq_true ht).2
      have hl2 : decide (xs.length ≤ 4) = true := decide_eq_true (by omega)
      have q2 : compR (.ok (xs, none) μ) (turn (run fs (n + 2)) [1] (.call 0 (.cs (.var 1) .nl)) (.var 1) .nl [some (.tup xs), none]) = .ok (xs.map fun x => .bl (isI x)) μ :=
        compR_map (fun x hxx => by simp [turn, b_int (n := n + 1) x (hx xs rfl x hxx)]) (line_big (by omega))
      have q3 := all_bl (μ := μ) isI xs
      have ef : formD (.tup xs) = (xs.all isI && lastOk xs) := by
        show (decide (xs.length ≤ 4) && (xs.all isI && lastOk xs)) = _
        rw [hl2, Bool.true_and]
      rw [ef]
      by_cases ha : xs.all isI = true
      · obtain ⟨l, rfl⟩ := all_ints ha
        have q4 := eq_nil (μ := μ) l
        cases l with
        | nil =>
          rw [ht] at q1
          rw [ha] at q3
          rw [ha]
          have q4 : cmpD μ .Eq (ti []) (.tup []) = some true := q4
          rw [r_5]
          simp only [f_5]
          simp only [exs_seq, exs_ife, ev_or, ev_not, ev_call, evs_cs, evs_nl, ev_var, List.getElem?_cons_zero, Rs.bind_ok, ev_int, q1, onB_bl, Bool.not_true, ev_bi, ev_comp, evI_one, seqOf_tup, lockOf_tup, q2, q3, Rs.of_some, exs_skip, exs_ret, ev_cmp, ev_tup, frzs_nil, fit0, Option.map_some, q4, leave_bl, List.take_length, Bool.false_eq_true, if_false, if_true]
          rfl
        | cons a l =>
          have q5 : idxD μ (ti (a :: l)) (.int (-1)) = some (.int ((a :: l).getLast (by simp))) := by
            unfold idxD
            rw [seqOf_tup]
            show L2.atI ((a :: l).map D.int) (-1) = _
            have := L2.atI_last (((a :: l).dropLast).map D.int) (D.int ((a :: l).getLast (by simp)))
            rwa [← List.map_singleton (f := D.int), ← List.map_append, List.dropLast_concat_getLast] at this
          have q6 : lastOk ((a :: l).map D.int) = decide ((a :: l).getLast (by simp) ≠ 0) := by
            unfold lastOk
            rw [List.getLast?_map, List.getLast?_eq_some_getLast (by simp)]
            rfl
          rw [ht] at q1
          rw [ha] at q3
          rw [q6, ha]
          have q4 : cmpD μ .Eq (ti (a :: l)) (.tup []) = some false := q4
          rw [r_5]
          simp only [f_5]
          simp only [exs_seq, exs_ife, ev_or, ev_not, ev_call, evs_cs, evs_nl, ev_var, List.getElem?_cons_zero, Rs.bind_ok, ev_int, q1, onB_bl, Bool.not_true, ev_bi, ev_comp, evI_one, seqOf_tup, lockOf_tup, q2, q3, Rs.of_some, exs_skip, exs_ret, ev_cmp, ev_tup, frzs_nil, fit0, Option.map_some, q4, ev_idx, ev_neg, q5, ne_int, leave_bl, List.take_length, Bool.false_eq_true, if_false]
          simp
      · have ha : xs.all isI = false := by simpa using ha
        rw [ht] at q1
        rw [ha] at q3 ⊢
        simp [r_5, f_5, q1, q2, q3]
    | _ => first | (cases h; done) | (cases ht; done)
  · have ht : tupD d 0 4 = false := by simpa using ht
    rw [ht] at q1
    have ef : formD d = false := by
      cases d with
      | tup xs =>
        have : ¬ ((0 : Int) ≤ xs.length ∧ (xs.length : Int) ≤ 4) := of_decide_eq_false ht
        show (decide (xs.length ≤ 4) && _) = false
        rw [decide_eq_false (by omega)]
        rfl
      | _ => rfl
    rw [ef]
    simp [r_5, f_5, q1]
end Tab
namespace Tab
open PySem DL
theorem typed_of {d : D} (h : dataD d = true) : typed d = true := by
  cases d <;> first | rfl | (cases h)
theorem data_mem : ∀ {xs : List D}, dataL xs = true → ∀ x ∈ xs, dataD x = true
  | [], _, x, hx => by simp at hx
  | y :: xs, h, x, hx => by
    rw [dataL, Bool.and_eq_true] at h
    rcases List.mem_cons.mp hx with rfl | hx
    · exact h.1
    · exact data_mem h.2 x hx
theorem data_tup {xs : List D} (h : dataD (.tup xs) = true) : ∀ x ∈ xs, dataD x = true := data_mem (by simpa [dataD] using h)
theorem form_run {n : Nat} {μ : Store} (d : D) (h : dataD d = true) : run fs (n + 3) 5 [d] μ = .ok (.bl (formD d)) μ :=
  b_form d (typed_of h) fun xs e x hx => typed_of (data_tup (e ▸ h) x hx)
/-! sizes -/
def sizeD (d : D) : Bool := match d with
  | .tup [x, y] => numD x 1 5000 && numD y 0 1
  | _ => false
theorem size_run {n : Nat} {μ : Store} (d : D) (h : dataD d = true) : run fs (n + 3) 6 [d] μ = .ok (.bl (sizeD d)) μ := by
  have q1 := b_tup (n := n + 1) (μ := μ) d 2 2 (typed_of h)
  by_cases ht : tupD d 2 2 = true
  · cases d with
    | tup xs =>
      match xs, h, ht, q1 with
      | [x, y], h, ht, q1 =>
        rw [ht] at q1
        have hx := b_num (n := n) (μ := μ) x 1 5000 (typed_of (data_tup h x (by simp)))
        have hy := b_num (n := n) (μ := μ) y 0 1 (typed_of (data_tup h y (by simp)))
        have i0 : idxD μ (.tup [x, y]) (.int 0) = some x := idx_nat (k := 0) rfl rfl
        have i1 : idxD μ (.tup [x, y]) (.int 1) = some y := idx_nat (k := 1) rfl rfl
        simp only [r_6, f_6, exs_ret, ev_and, ev_call, evs_cs, evs_nl, ev_var, List.getElem?_cons_zero, Rs.bind_ok, ev_int, q1, onB_bl, if_true, ev_idx, i0, i1, Rs.of_some, hx, hy]
        by_cases hn : numD x 1 5000 = true
        · simp [sizeD, hn]
        · have hn : numD x 1 5000 = false := by simpa using hn
          simp [sizeD, hn]
      | [], _, ht, _ => exact absurd ht (by decide)
      | [x], _, ht, _ => exact absurd ht (by simp [tupD])
      | x :: y :: z :: r, _, ht, _ =>
        have : ((x :: y :: z :: r).length : Int) ≤ 2 := (of_decide_eq_true ht).2
        simp at this
        omega
    | _ => first | (cases ht; done) | (cases h; done)
  · have ht : tupD d 2 2 = false := by simpa using ht
    rw [ht] at q1
    have ef : sizeD d = false := by
      cases d with
      | tup xs =>
        match xs, ht with
        | [x, y], ht => exact absurd ht (by simp [tupD])
        | [], _ => rfl
        | [x], _ => rfl
        | x :: y :: z :: r, _ => rfl
      | _ => rfl
    rw [ef]
    simp [r_6, f_6, q1]
/-- a size -/
abbrev sD (s : Int × Int) : D := ti [s.1, s.2]
theorem all_sizes : ∀ {xs : List D}, xs.all sizeD = true → ∃ l : List (Int × Int), xs = l.map sD ∧ ∀ s ∈ l, 1 ≤ s.1 ∧ s.1 ≤ 5000 ∧ 0 ≤ s.2 ∧ s.2 ≤ 1
  | [], _ => ⟨[], rfl, fun s h => by simp at h⟩
  | d :: xs, h => by
    rw [List.all_cons, Bool.and_eq_true] at h
    obtain ⟨l, rfl, hl⟩ := all_sizes h.2
    obtain ⟨h1, _⟩ := h
    cases d with
    | tup ys =>
      match ys, h1 with
      | [x, y], h1 =>
        have h9 : (numD x 1 5000 && numD y 0 1) = true := h1
        rw [Bool.and_eq_true] at h9
        clear h1
        obtain ⟨h1, h2⟩ := h9
        cases x with
        | int a =>
          cases y with
          | int f =>
            have h1 : 1 ≤ a ∧ a ≤ 5000 := of_decide_eq_true h1
            have h2 : 0 ≤ f ∧ f ≤ 1 := of_decide_eq_true h2
            exact ⟨(a, f) :: l, rfl, fun s hs => by
              rcases List.mem_cons.mp hs with rfl | hs
              · exact ⟨h1.1, h1.2, h2.1, h2.2⟩
              · exact hl s hs⟩
          | _ => cases h2
        | _ => cases h1
      | [], h1 => cases h1
      | [x], h1 => cases h1
      | x :: y :: z :: r, h1 => cases h1
    | _ => cases h1
/-! number_in -/
def prod (l : List Int) : Int := l.foldl (· * ·) 1
theorem s_number_in {n : Nat} {μ : Store} (x : D) (l : List Int) (hx : x = .lst (l.map .int) ∨ x = .tup (l.map .int)) (h : ∀ a ∈ l, small a = true) : run fs (n + 1) 4 [x] μ = .ok (.int (prod l)) μ := by
  obtain ⟨ρ', μ', e, I⟩ := loop_inv (f := loopF (run fs n) (.var 2) (.set (.var 1) (.bin .Mult (.var 1) (.var 2))))
    (fun xs ρ μ' => μ' = μ ∧ ∃ (s t : List Int) (z : Option D), l = s ++ t ∧ xs = t.map D.int ∧ ρ = [some x, some (.int (prod s)), z])
    (xs := l.map D.int) (ρ := [some x, some (.int 1), none]) (μ := μ) ⟨rfl, [], l, none, rfl, rfl, rfl⟩
    (fun y r ρ μ' hI => by
      obtain ⟨rfl, s, t, z, e1, e2, rfl⟩ := hI
      cases t with
      | nil => cases e2
      | cons o t =>
        cases e2
        have ho : mulOk (prod s) o = true := mul_small2 (h o (by rw [e1]; simp))
        refine ⟨[some x, some (.int (prod (s ++ [o]))), some (.int o)], μ', ?_, rfl, s ++ [o], t, some (.int o), by rw [e1, List.append_assoc]; rfl, rfl, rfl⟩
        have ep : prod (s ++ [o]) = prod s * o := by unfold prod; rw [List.foldl_append]; rfl
        simp [loopF, binD, ho, ep])
  obtain ⟨rfl, s, t, z, e1, e2, rfl⟩ := I
  have ht : t = [] := by cases t with
    | nil => rfl
    | cons _ _ => cases e2
  subst ht
  rw [List.append_nil] at e1
  subst e1
  rcases hx with rfl | rfl
  · simp [r_4, f_4, e]
  · simp [r_4, f_4, e]
end Tab
namespace Tab
open PySem DL
def flD (d : D) : Int := match d with
  | .tup [_, .int f] => f
  | _ => 0
def nuD (d : D) : Int := match d with
  | .tup (.int a :: _) => a
  | _ => 0
def shapeD (d : D) : Bool := match d with
  | .tup xs => decide (xs.length ≤ 16) && (xs.all sizeD && (decide ((xs.map flD).sum ≤ 1) && decide (prod (xs.map nuD) ≤ 5000)))
  | _ => false
theorem sum_ints {μ : Store} (l : List Int) : biD μ .sum [.lst (l.map D.int)] = some (.int l.sum) := by
  show (intsIn μ (.lst (l.map D.int))).map (fun is => D.int is.sum) = _
  unfold intsIn
  rw [listOf_lst]
  dsimp only
  rw [intsOf_map]
  rfl
theorem le_int {μ : Store} {x y : Int} : cmpD μ .LtE (.int x) (.int y) = some (decide (x ≤ y)) := rfl
theorem tup_no {d : D} {lo hi : Int} (ht : tupD d lo hi = false) {xs : List D} (e : d = .tup xs) : ¬ (lo ≤ xs.length ∧ (xs.length : Int) ≤ hi) := by
  subst e
  exact of_decide_eq_false ht
theorem small_size {a : Int} (h : 1 ≤ a ∧ a ≤ 5000) : small a = true := by
  unfold small
  have e : (5000 : Nat) < 2 ^ 64 := by decide
  exact decide_eq_true (by omega)
theorem shape_run {n : Nat} {μ : Store} (d : D) (h : dataD d = true) : run fs (n + 4) 7 [d] μ = .ok (.bl (shapeD d)) μ := by
  have q1 := b_tup (n := n + 2) (μ := μ) d 0 16 (typed_of h)
  by_cases ht : tupD d 0 16 = true
  · cases d with
    | tup xs =>
      have hl : (xs.length : Int) ≤ 16 := (of_decide_eq_true ht).2
      have hl2 : decide (xs.length ≤ 16) = true := decide_eq_true (by omega)
      have q2 : compR (.ok (xs, none) μ) (turn (run fs (n + 3)) [1] (.call 6 (.cs (.var 1) .nl)) (.var 1) .nl [some (.tup xs), none, none]) = .ok (xs.map fun x => .bl (sizeD x)) μ :=
        compR_map (fun x hxx => by simp [turn, size_run (n := n) x (data_tup h x hxx)]) (line_big (by omega))
      have q3 := all_bl (μ := μ) sizeD xs
      have ef : shapeD (.tup xs) = (xs.all sizeD && (decide ((xs.map flD).sum ≤ 1) && decide (prod (xs.map nuD) ≤ 5000))) := by
        show (decide (xs.length ≤ 16) && _) = _
        rw [hl2, Bool.true_and]
      rw [ef]
      rw [ht] at q1
      by_cases ha : xs.all sizeD = true
      · obtain ⟨l, rfl, hs⟩ := all_sizes ha
        have e1 : (l.map sD).map flD = l.map (·.2) := by rw [List.map_map]; rfl
        have e2 : (l.map sD).map nuD = l.map (·.1) := by rw [List.map_map]; rfl
        have q4 : compR (.ok (l.map sD, none) μ) (turn (run fs (n + 3)) [2] (.idx (.var 2) (.int (1))) (.var 2) .nl [some (.tup (l.map sD)), none, none]) = .ok ((l.map (·.2)).map D.int) μ := by
          rw [compR_map (g := fun d => .int (flD d)) (fun x hx => by
            obtain ⟨s, _, rfl⟩ := List.mem_map.mp hx
            have i1 : idxD μ (sD s) (.int 1) = some (.int s.2) := idx_nat (k := 1) rfl rfl
            simp [turn, i1]
            rfl) (line_big (by omega)), List.map_map, List.map_map]
          rfl
        have q5 : compR (.ok (l.map sD, none) μ) (turn (run fs (n + 3)) [2] (.idx (.var 2) (.int (0))) (.var 2) .nl [some (.tup (l.map sD)), none, none]) = .ok ((l.map (·.1)).map D.int) μ := by
          rw [compR_map (g := fun d => .int (nuD d)) (fun x hx => by
            obtain ⟨s, _, rfl⟩ := List.mem_map.mp hx
            have i1 : idxD μ (sD s) (.int 0) = some (.int s.1) := idx_nat (k := 0) rfl rfl
            simp [turn, i1]
            rfl) (line_big (by omega)), List.map_map, List.map_map]
          rfl
        have q6 := s_number_in (n := n + 2) (μ := μ) (.lst ((l.map (·.1)).map .int)) (l.map (·.1)) (.inl rfl) fun a ha => by
          obtain ⟨s, hs2, rfl⟩ := List.mem_map.mp ha
          have := hs s hs2
          exact small_size ⟨this.1, this.2.1⟩
        have q7 := sum_ints (μ := μ) (l.map (·.2))
        rw [ha] at q3
        rw [ha, e1, e2, r_7]
        simp only [f_7]
        simp only [exs_seq, exs_ife, ev_or, ev_not, ev_call, evs_cs, evs_nl, ev_var, List.getElem?_cons_zero, Rs.bind_ok, ev_int, q1, onB_bl, Bool.not_true, ev_bi, ev_comp, evI_one, seqOf_tup, lockOf_tup, q2, q3, Rs.of_some, exs_skip, exs_ret, ev_cmp, ev_and, Option.map_some, q4, q5, q6, q7, le_int, Bool.false_eq_true, if_false]
        by_cases hf : (l.map (·.2)).sum ≤ 1
        · simp [hf]
        · simp [hf]
      · have ha : xs.all sizeD = false := by simpa using ha
        rw [ha] at q3 ⊢
        simp [r_7, f_7, q1, q2, q3]
    | _ => first | (cases h; done) | (cases ht; done)
  · have ht : tupD d 0 16 = false := by simpa using ht
    rw [ht] at q1
    have ef : shapeD d = false := by
      cases d with
      | tup xs =>
        have := tup_no ht rfl
        show (decide (xs.length ≤ 16) && _) = false
        rw [decide_eq_false (by omega)]
        rfl
      | _ => rfl
    rw [ef]
    simp [r_7, f_7, q1]
end Tab
namespace Tab
open PySem DL
def pOk (q : D) : Bool := match q with
  | .tup [_, st] => formD st
  | _ => false
def fstD (q : D) : D := match q with
  | .tup (s :: _) => s
  | _ => .non
def growD (d : D) : Bool := match d with
  | .tup [b, .tup ps] => formD b && (decide (ps.length ≤ 16) && (ps.all pOk && shapeD (.tup (ps.map fstD))))
  | _ => false
theorem two_of {xs : List D} (h : tupD (.tup xs) 2 2 = true) : ∃ x y, xs = [x, y] := by
  have h2 : (2 : Int) ≤ xs.length ∧ (xs.length : Int) ≤ 2 := of_decide_eq_true h
  match xs, h2 with
  | [x, y], _ => exact ⟨x, y, rfl⟩
  | [], h2 => simp at h2
  | [x], h2 => simp at h2
  | x :: y :: z :: r, h2 =>
    have := h2.2
    simp at this
    omega
theorem dataL_of : ∀ {xs : List D}, (∀ x ∈ xs, dataD x = true) → dataL xs = true
  | [], _ => rfl
  | x :: xs, h => by
    rw [dataL, h x (List.mem_cons_self ..), dataL_of fun y hy => h y (List.mem_cons_of_mem _ hy)]
    rfl
theorem data_of {xs : List D} (h : ∀ x ∈ xs, dataD x = true) : dataD (.tup xs) = true := by
  rw [dataD]
  exact dataL_of h
theorem pOk_run {n : Nat} {μ : Store} {ρ : DL.Env} (q : D) (h : dataD q = true) (hρ : ρ[1]? = some (some q)) : ev (run fs (n + 4)) (.and (.call 3 (.cs (.var 1) (.cs (.int (2)) (.cs (.int (2)) .nl)))) (.call 5 (.cs (.idx (.var 1) (.int (1))) .nl))) ρ μ = .ok (.bl (pOk q)) μ := by
  have q1 := b_tup (n := n + 3) (μ := μ) q 2 2 (typed_of h)
  by_cases ht : tupD q 2 2 = true
  · cases q with
    | tup xs =>
      obtain ⟨x, y, rfl⟩ := two_of ht
      have i1 : idxD μ (.tup [x, y]) (.int 1) = some y := idx_nat (k := 1) rfl rfl
      have f1 := form_run (n := n + 1) (μ := μ) y (data_tup h y (by simp))
      rw [ht] at q1
      simp only [ev_and, ev_call, evs_cs, evs_nl, ev_var, hρ, Rs.bind_ok, ev_int, q1, onB_bl, if_true, ev_idx, i1, Rs.of_some, f1]
      rfl
    | _ => first | (cases ht; done) | (cases h; done)
  · have ht : tupD q 2 2 = false := by simpa using ht
    rw [ht] at q1
    have ef : pOk q = false := by
      cases q with
      | tup xs =>
        have := tup_no ht rfl
        match xs, this with
        | [x, y], this => exact absurd this (by simp)
        | [], _ => rfl
        | [x], _ => rfl
        | x :: y :: z :: r, _ => rfl
      | _ => rfl
    simp only [ev_and, ev_call, evs_cs, evs_nl, ev_var, hρ, Rs.bind_ok, ev_int, q1, onB_bl, ef]
    rfl
theorem grow_run {n : Nat} {μ : Store} (d : D) (h : dataD d = true) : run fs (n + 5) 8 [d] μ = .ok (.bl (growD d)) μ := by
  have q1 := b_tup (n := n + 3) (μ := μ) d 2 2 (typed_of h)
  by_cases ht : tupD d 2 2 = true
  · cases d with
    | tup xs =>
      obtain ⟨b, p, rfl⟩ := two_of ht
      rw [ht] at q1
      have hb := data_tup h b (by simp)
      have hp := data_tup h p (by simp)
      have i0 : idxD μ (.tup [b, p]) (.int 0) = some b := idx_nat (k := 0) rfl rfl
      have i1 : idxD μ (.tup [b, p]) (.int 1) = some p := idx_nat (k := 1) rfl rfl
      have f1 := form_run (n := n + 1) (μ := μ) b hb
      have g1 := b_tup (n := n + 3) (μ := μ) p 0 16 (typed_of hp)
      by_cases hf : formD b = true
      · by_cases hq : tupD p 0 16 = true
        · cases p with
          | tup ps =>
            have hl : (ps.length : Int) ≤ 16 := (of_decide_eq_true hq).2
            have hl2 : decide (ps.length ≤ 16) = true := decide_eq_true (by omega)
            have ef : growD (.tup [b, .tup ps]) = (ps.all pOk && shapeD (.tup (ps.map fstD))) := by
              show (formD b && (decide (ps.length ≤ 16) && _)) = _
              rw [hf, hl2, Bool.true_and, Bool.true_and]
            rw [hf] at f1
            rw [hq] at g1
            have q2 : compR (.ok (ps, none) μ) (turn (run fs (n + 4)) [1] (.and (.call 3 (.cs (.var 1) (.cs (.int (2)) (.cs (.int (2)) .nl)))) (.call 5 (.cs (.idx (.var 1) (.int (1))) .nl))) (.var 1) .nl [some (.tup [b, .tup ps]), none, none, none]) = .ok (ps.map fun x => .bl (pOk x)) μ :=
              compR_map (fun x hx => by
                have z := pOk_run (n := n) (μ := μ) (ρ := [some (.tup [b, .tup ps]), some x, none, none]) x (data_tup hp x hx) rfl
                unfold turn
                rw [show Rs.of (asg (.var 1) x (wipe [some (.tup [b, .tup ps]), none, none, none] [1])) μ = .ok [some (.tup [b, .tup ps]), some x, none, none] μ from rfl, Rs.bind_ok, evC_nl, Rs.bind_ok, if_pos rfl, z]
                rfl) (line_big (by omega))
            have q3 := all_bl (μ := μ) pOk ps
            rw [ef]
            by_cases ha : ps.all pOk = true
            · have hall : ∀ x ∈ ps, ∃ s st, x = .tup [s, st] := fun x hx => by
                have := List.all_eq_true.mp ha x hx
                unfold pOk at this
                split at this
                · exact ⟨_, _, rfl⟩
                · cases this
              have q4 : compR (.ok (ps, none) μ) (turn (run fs (n + 4)) [2, 3] (.var 2) (.tup (.cs (.var 2) (.cs (.var 3) .nl))) .nl [some (.tup [b, .tup ps]), none, none, none]) = .ok (ps.map fstD) μ :=
                compR_map (fun x hx => by
                  obtain ⟨s, st, rfl⟩ := hall x hx
                  have hs := data_tup (data_tup hp _ hx) s (by simp)
                  have hfz : frz s μ = .ok s μ := by cases s <;> first | rfl | (cases hs)
                  simp [turn, hfz]
                  rfl) (line_big (by omega))
              have q5 := shape_run (n := n) (μ := μ) (.tup (ps.map fstD)) (data_of fun x hx => by
                obtain ⟨y, hy, rfl⟩ := List.mem_map.mp hx
                obtain ⟨s, st, rfl⟩ := hall y hy
                exact data_tup (data_tup hp _ hy) s (by simp))
              rw [ha] at q3 ⊢
              have q6 : biD μ .tuple [.lst (ps.map fstD)] = some (.tup (ps.map fstD)) := rfl
              rw [r_8]
              simp only [f_8]
              simp only [exs_seq, exs_ife, ev_or, ev_not, ev_call, evs_cs, evs_nl, ev_var, List.getElem?_cons_zero, Rs.bind_ok, ev_int, q1, f1, g1, i0, i1, ev_idx, onB_bl, Bool.not_true, ev_bi, ev_comp, evI_one, seqOf_tup, lockOf_tup, q2, q3, q4, q5, q6, Rs.of_some, exs_skip, exs_ret, Bool.false_eq_true, if_false]
              simp
            · have ha : ps.all pOk = false := by simpa using ha
              rw [ha] at q3 ⊢
              simp [r_8, f_8, q1, f1, g1, i0, i1, q2, q3]
          | _ => first | (cases hq; done) | (cases hp; done)
        · have hq : tupD p 0 16 = false := by simpa using hq
          rw [hf] at f1
          rw [hq] at g1
          have ef : growD (.tup [b, p]) = false := by
            cases p with
            | tup ps =>
              have := tup_no hq rfl
              show (formD b && (decide (ps.length ≤ 16) && _)) = false
              rw [decide_eq_false (by omega), Bool.false_and, Bool.and_false]
            | _ => rfl
          rw [ef]
          simp [r_8, f_8, q1, f1, g1, i0, i1]
      · have hf : formD b = false := by simpa using hf
        rw [hf] at f1
        have ef : growD (.tup [b, p]) = false := by
          cases p with
          | tup ps =>
            show (formD b && _) = false
            rw [hf, Bool.false_and]
          | _ => rfl
        rw [ef]
        simp [r_8, f_8, q1, f1, i0]
    | _ => first | (cases ht; done) | (cases h; done)
  · have ht : tupD d 2 2 = false := by simpa using ht
    rw [ht] at q1
    have ef : growD d = false := by
      cases d with
      | tup xs =>
        have := tup_no ht rfl
        match xs, this with
        | [x, y], this => exact absurd this (by simp)
        | [], _ => rfl
        | [x], _ => rfl
        | x :: y :: z :: r, _ => cases y <;> rfl
      | _ => rfl
    rw [ef]
    simp [r_8, f_8, q1]
end Tab
namespace Tab
open PySem DL
theorem formD_ti (l : List Int) : formD (ti l) = (decide (l.length ≤ 4) && decide (∀ h : l ≠ [], l.getLast h ≠ 0)) := by
  have ha : (l.map D.int).all isI = true := by
    rw [List.all_eq_true]
    intro x hx
    obtain ⟨a, _, rfl⟩ := List.mem_map.mp hx
    rfl
  show (decide ((l.map D.int).length ≤ 4) && ((l.map D.int).all isI && lastOk (l.map D.int))) = _
  rw [ha, List.length_map, Bool.true_and]
  congr 1
  cases l with
  | nil => rfl
  | cons a l =>
    unfold lastOk
    rw [List.getLast?_map, List.getLast?_eq_some_getLast (by simp)]
    show decide ((a :: l).getLast (by simp) ≠ 0) = _
    apply decide_eq_decide.mpr
    constructor
    · intro h _
      exact h
    · intro h
      exact h (by simp)
/-- a form that fits -/
def GF (l : List Int) : Prop := l.length ≤ 4 ∧ ∀ h : l ≠ [], l.getLast h ≠ 0
theorem GF.form {l : List Int} (h : GF l) : formD (ti l) = true := by
  rw [formD_ti, decide_eq_true h.1, decide_eq_true h.2]
  rfl
theorem data_ti (l : List Int) : dataD (ti l) = true := dataL_map l
theorem gf_ln {l : List Int} (h : l.length ≤ 4) : GF (ln l) := ⟨Nat.le_trans (ln_len l) h, fun h => ln_end l h⟩
theorem s_roots_of {n : Nat} {μ : Store} (l : List Int) (hg : GF l) (hn : l ≠ []) (hb : Bd (2 ^ 200) l) :
    ∃ R : List Int, run fs (n + 11) 29 [ti l] μ = .ok (ti R) μ ∧ R.Pairwise (· < ·) ∧ (∀ x, x ∈ R ↔ 1 ≤ x ∧ pv l x = 0) ∧ R.length ≤ 10000 := by
  obtain ⟨R, e, h1, h2, h3⟩ := s_roots (n := n) (μ := μ) l ⟨hn, hg.2 hn⟩ (by have := hg.1; omega) hb
  refine ⟨R, ?_, h1, h2, h3⟩
  have q1 := form_run (n := n + 7) (μ := μ) (ti l) (data_ti l)
  rw [hg.form] at q1
  have q2 := eq_nil (μ := μ) l
  have q3 : l.isEmpty = false := by cases l with
    | nil => exact absurd rfl hn
    | cons a l => rfl
  rw [q3] at q2
  rw [r_29]
  simp only [f_29]
  simp only [exs_seq, exs_ife, ev_or, ev_not, ev_call, evs_cs, evs_nl, ev_var, List.getElem?_cons_zero, Rs.bind_ok, q1, onB_bl, Bool.not_true, ev_cmp, ev_tup, frzs_nil, fit0, Option.map_some, Rs.of_some, q2, exs_skip, exs_ret, Bool.false_eq_true, if_false]
  rw [e]
  simp
theorem small_val {m : Int} (h : 1 ≤ m ∧ m ≤ 1000000000) : small m = true := by
  unfold small
  have e : (1000000000 : Nat) < 2 ^ 64 := by decide
  exact decide_eq_true (by omega)
theorem s_val {n : Nat} {μ : Store} (l : List Int) (m : Int) (h : 1 ≤ m ∧ m ≤ 1000000000) : run fs (n + 1) 12 [ti l, .int m] μ = .ok (.int (pv l m)) μ := s_value l m fun s _ => mul_small2 (small_val h)
theorem s_needv {n : Nat} {μ : Store} (m : Int) (h : 1 ≤ m ∧ m ≤ 1000000000) : run fs (n + 4) 22 [.int m] μ = .ok .non μ := by
  have q := s_need (n := n) (μ := μ) m 1 1000000000 h
  simp [r_22, f_22, q]
theorem s_form_at {n : Nat} {μ : Store} (l : List Int) (hg : GF l) (m : Int) (h : 1 ≤ m ∧ m ≤ 1000000000) : run fs (n + 5) 28 [ti l, .int m] μ = .ok (.int (pv l m)) μ := by
  have q1 := form_run (n := n + 1) (μ := μ) (ti l) (data_ti l)
  rw [hg.form] at q1
  have q2 := s_needv (n := n) (μ := μ) m h
  have q3 := s_val (n := n + 3) (μ := μ) l m h
  simp [r_28, f_28, q1, q2, q3]
/-! growing walks -/
abbrev Pair := (Int × Int) × List Int
abbrev pD (p : Pair) : D := .tup [sD p.1, ti p.2]
abbrev gD (b : List Int) (ps : List Pair) : D := .tup [ti b, .tup (ps.map pD)]
def GS (s : Int × Int) : Prop := 1 ≤ s.1 ∧ s.1 ≤ 5000 ∧ 0 ≤ s.2 ∧ s.2 ≤ 1
theorem s_sizeAt {n : Nat} {μ : Store} (s : Int × Int) (m : Int) (h : 1 ≤ m ∧ m ≤ 1000000000) : run fs (n + 1) 13 [sD s, .int m] μ = .ok (.int (if s.2 = 1 then s.1 * m else s.1)) μ := by
  have i0 : idxD μ (sD s) (.int 0) = some (.int s.1) := idx_nat (k := 0) rfl rfl
  have i1 : idxD μ (sD s) (.int 1) = some (.int s.2) := idx_nat (k := 1) rfl rfl
  have hm : mulOk s.1 m = true := mul_small2 (small_val h)
  have hb : binD μ .Mult (.int s.1) (.int m) = some (.int (s.1 * m)) := by
    show (if mulOk s.1 m = true then _ else _) = _
    rw [if_pos hm]
  rw [r_13]
  simp only [f_13, exs_ret, ev_ife, ev_cmp, ev_idx, ev_var, List.getElem?_cons_zero, List.getElem?_cons_succ, Rs.bind_ok, ev_int, i0, i1, Rs.of_some, eq_int, Option.map_some, onB_bl, ev_bin, hb]
  by_cases h1 : s.2 = 1 <;> simp [h1]
def walkN (b : List Int) (ps : List Pair) (m : Int) : D := .tup [.int (pv b m), .tup (ps.map fun p => .tup [.int (if p.1.2 = 1 then p.1.1 * m else p.1.1), .int (pv p.2 m)])]
theorem s_walkIn {n : Nat} {μ : Store} (b : List Int) (ps : List Pair) (m : Int) (h : 1 ≤ m ∧ m ≤ 1000000000) (hl : ps.length ≤ 1000) : run fs (n + 2) 15 [gD b ps, .int m] μ = .ok (walkN b ps m) μ := by
  have v1 := s_val (n := n) (μ := μ) b m h
  have q : compR (.ok (ps.map pD, none) μ) (turn (run fs (n + 1)) [4, 5] (.tup (.cs (.call 13 (.cs (.var 4) (.cs (.var 1) .nl))) (.cs (.call 12 (.cs (.var 5) (.cs (.var 1) .nl))) .nl))) (.tup (.cs (.var 4) (.cs (.var 5) .nl))) .nl [some (gD b ps), some (.int m), some (ti b), some (.tup (ps.map pD)), none, none])
      = .ok (ps.map fun p => .tup [.int (if p.1.2 = 1 then p.1.1 * m else p.1.1), .int (pv p.2 m)]) μ := by
    rw [compR_map (g := fun d => match d with
      | .tup [.tup [.int a, .int f], .tup xs] => .tup [.int (if f = 1 then a * m else a), .int (pv ((intsOf xs).getD []) m)]
      | d => d) (fun x hx => by
        obtain ⟨p, _, rfl⟩ := List.mem_map.mp hx
        have s1 := s_sizeAt (n := n) (μ := μ) p.1 m h
        have s2 := s_val (n := n) (μ := μ) p.2 m h
        have e3 : (intsOf (p.2.map D.int)).getD [] = p.2 := by rw [intsOf_map]; rfl
        simp [turn, s1, s2, fit2]
        show _ = D.tup [.int (if p.1.2 = 1 then p.1.1 * m else p.1.1), .int (pv ((intsOf (p.2.map D.int)).getD []) m)]
        rw [e3]) (line_big (by rw [List.length_map]; omega)), List.map_map]
    congr 1
    apply List.map_congr_left
    intro p _
    show D.tup [.int _, .int (pv ((intsOf (p.2.map D.int)).getD []) m)] = _
    rw [intsOf_map]
    rfl
  rw [r_15]
  simp only [f_15]
  simp only [exs_seq, exs_set, ev_var, List.getElem?_cons_zero, List.getElem?_cons_succ, Rs.bind_ok, asg_tup, asgs_cs, asgs_nl, asg_var, List.length_cons, List.length_nil, Rs.of_some]
  simp [v1, q, biD, fit2, walkN]
theorem grow_ok {b : List Int} {ps : List Pair} (hb : GF b) (hl : ps.length ≤ 16) (hf : ∀ p ∈ ps, GF p.2) (hs : shapeD (.tup (ps.map fun p => sD p.1)) = true) : growD (gD b ps) = true := by
  have ha : (ps.map pD).all pOk = true := by
    rw [List.all_eq_true]
    intro x hx
    obtain ⟨p, hp, rfl⟩ := List.mem_map.mp hx
    exact (hf p hp).form
  have e : (ps.map pD).map fstD = ps.map fun p => sD p.1 := by rw [List.map_map]; rfl
  show (formD (ti b) && (decide ((ps.map pD).length ≤ 16) && ((ps.map pD).all pOk && shapeD (.tup ((ps.map pD).map fstD))))) = true
  rw [hb.form, ha, e, hs, decide_eq_true (by rw [List.length_map]; exact hl)]
  rfl
theorem data_pD (p : Pair) : dataD (pD p) = true := data_of fun x hx => by
  rcases List.mem_cons.mp hx with rfl | hx
  · exact data_ti _
  · rw [List.mem_singleton.mp hx]
    exact data_ti _
theorem data_gD (b : List Int) (ps : List Pair) : dataD (gD b ps) = true := data_of fun x hx => by
  rcases List.mem_cons.mp hx with rfl | hx
  · exact data_ti _
  · rw [List.mem_singleton.mp hx]
    refine data_of fun y hy => ?_
    obtain ⟨p, _, rfl⟩ := List.mem_map.mp hy
    exact data_pD p
theorem s_needg {n : Nat} {μ : Store} (d : D) (h : dataD d = true) (hg : growD d = true) : run fs (n + 6) 21 [d] μ = .ok .non μ := by
  have q := grow_run (n := n) (μ := μ) d h
  rw [hg] at q
  simp [r_21, f_21, q]
theorem s_growing_at {n : Nat} {μ : Store} (b : List Int) (ps : List Pair) (hg : growD (gD b ps) = true) (hl : ps.length ≤ 1000) (m : Int) (h : 1 ≤ m ∧ m ≤ 1000000000) : run fs (n + 7) 27 [gD b ps, .int m] μ = .ok (walkN b ps m) μ := by
  have q1 := s_needg (n := n) (μ := μ) _ (data_gD b ps) hg
  have q2 := s_needv (n := n + 2) (μ := μ) m h
  have q3 := s_walkIn (n := n + 4) (μ := μ) b ps m h hl
  rw [r_27]
  simp only [f_27]
  simp only [exs_seq, exs_exp, ev_call, evs_cs, evs_nl, ev_var, List.getElem?_cons_zero, List.getElem?_cons_succ, Rs.bind_ok, q1, q2, q3, exs_ret]
  simp [walkN]
theorem s_product {n : Nat} {μ : Store} (x : D) (l : List (Int × Int)) (hx : x = .lst (l.map sD) ∨ x = .tup (l.map sD)) (hl : l.length ≤ 1000) (h : ∀ s ∈ l, GS s) : run fs (n + 2) 14 [x] μ = .ok (ti [prod (l.map (·.1)), (l.map (·.2)).sum]) μ := by
  have q4 : compR (.ok (l.map sD, none) μ) (turn (run fs (n + 1)) [1] (.idx (.var 1) (.int (1))) (.var 1) .nl [some x, none]) = .ok ((l.map (·.2)).map D.int) μ := by
    rw [compR_map (g := fun d => .int (flD d)) (fun x hx => by
      obtain ⟨s, _, rfl⟩ := List.mem_map.mp hx
      have i1 : idxD μ (sD s) (.int 1) = some (.int s.2) := idx_nat (k := 1) rfl rfl
      simp [turn, i1]
      rfl) (line_big (by rw [List.length_map]; omega)), List.map_map, List.map_map]
    rfl
  have q5 : compR (.ok (l.map sD, none) μ) (turn (run fs (n + 1)) [1] (.idx (.var 1) (.int (0))) (.var 1) .nl [some x, none]) = .ok ((l.map (·.1)).map D.int) μ := by
    rw [compR_map (g := fun d => .int (nuD d)) (fun x hx => by
      obtain ⟨s, _, rfl⟩ := List.mem_map.mp hx
      have i1 : idxD μ (sD s) (.int 0) = some (.int s.1) := idx_nat (k := 0) rfl rfl
      simp [turn, i1]
      rfl) (line_big (by rw [List.length_map]; omega)), List.map_map, List.map_map]
    rfl
  have q6 := s_number_in (n := n) (μ := μ) (.lst ((l.map (·.1)).map .int)) (l.map (·.1)) (.inl rfl) fun a ha => by
    obtain ⟨s, hs2, rfl⟩ := List.mem_map.mp ha
    have := h s hs2
    exact small_size ⟨this.1, this.2.1⟩
  have q7 := sum_ints (μ := μ) (l.map (·.2))
  rw [r_14]
  rcases hx with rfl | rfl
  · simp only [f_14, exs_ret, ev_tup, evs_cs, evs_nl, ev_call, ev_comp, evI_one, ev_var, List.getElem?_cons_zero, Rs.bind_ok, seqOf_lst, lockOf_lst, q4, q5, q6, ev_bi, q7, Rs.of_some, frzs_cons, frzs_nil, frz_int, fit2, Option.map_some]
    simp
  · simp only [f_14, exs_ret, ev_tup, evs_cs, evs_nl, ev_call, ev_comp, evI_one, ev_var, List.getElem?_cons_zero, Rs.bind_ok, seqOf_tup, lockOf_tup, q4, q5, q6, ev_bi, q7, Rs.of_some, frzs_cons, frzs_nil, frz_int, fit2, Option.map_some]
    simp
end Tab
namespace Tab
open PySem DL
/-! the law's draws: cup is the first list of the store -/
def cs (a b : Int) (rest : Store) : Store := ⟨0, [.int a, .int b]⟩ :: rest
theorem cs_get0 {a b : Int} {rest : Store} : idxD (cs a b rest) (.cell 0) (.int 0) = some (.int a) := rfl
theorem cs_get1 {a b : Int} {rest : Store} : idxD (cs a b rest) (.cell 0) (.int 1) = some (.int b) := rfl
theorem cs_set0 {a b x : Int} {rest : Store} : setD (cs a b rest) (.cell 0) (.int 0) (.int x) = some (cs x b rest) := rfl
theorem cs_set1 {a b x : Int} {rest : Store} : setD (cs a b rest) (.cell 0) (.int 1) (.int x) = some (cs a x rest) := rfl
theorem cs_take {a b a' b' : Int} {rest : Store} : (cs a' b' rest).take (cs a b rest).length = cs a' b' rest := by
  have : (cs a b rest).length = (cs a' b' rest).length := rfl
  rw [this, List.take_length]
theorem mod_int {μ : Store} {x y : Int} (h : 0 < y) : binD μ .Mod (.int x) (.int y) = some (.int (x % y)) := by
  show (if y ≠ 0 then some (D.int (x.fmod y)) else none) = _
  rw [if_pos (by omega), Int.fmod_eq_emod_of_nonneg _ (by omega)]
theorem div_int {μ : Store} {x y : Int} (h : 0 < y) (h2 : y < 1073741824) : binD μ .FloorDiv (.int x) (.int y) = some (.int (x / y)) := by
  have e : divOk y = true := by
    unfold divOk
    rw [decide_eq_true (show y ≠ 0 by omega), decide_eq_true (show y.natAbs < 1073741824 by omega)]
    rfl
  show (if divOk y = true then some (D.int (x.fdiv y)) else none) = _
  rw [if_pos e, Int.fdiv_eq_ediv_of_nonneg _ (by omega)]
theorem mul_int {μ : Store} {x y : Int} (h : mulOk x y = true) : binD μ .Mult (.int x) (.int y) = some (.int (x * y)) := by
  show (if mulOk x y = true then some (D.int (x * y)) else none) = _
  rw [if_pos h]
theorem int_int {μ : Store} {x : Int} : biD μ .int [.int x] = some (.int x) := rfl
theorem small_lit {a : Int} (h0 : 0 ≤ a) (h : a < 4294967296) : small a = true := by
  unfold small
  have e : (4294967296 : Nat) < 2 ^ 64 := by decide
  exact decide_eq_true (by omega)
theorem s_roll {n : Nat} {a b : Int} {rest : Store} (many : Int) (h1 : 1 ≤ many) (h2 : many < 1073741824) (hb : 0 ≤ b ∧ b < 4294967296) :
    ∃ r a' b', run fs (n + 1) 31 [.cell 0, .int many] (cs a b rest) = .ok (.int r) (cs a' b' rest) ∧ 0 ≤ r ∧ r < many ∧ 0 ≤ b' ∧ b' < 4294967296 := by
  by_cases ha : 0 < a
  · refine ⟨a % many, a / many, b, ?_, Int.emod_nonneg _ (by omega), Int.emod_lt_of_pos _ (by omega), hb.1, hb.2⟩
    have m1 : ∀ ν : Store, binD ν .Mod (.int a) (.int many) = some (.int (a % many)) := fun ν => mod_int (by omega)
    have m2 : ∀ ν : Store, binD ν .FloorDiv (.int a) (.int many) = some (.int (a / many)) := fun ν => div_int (by omega) h2
    simp [r_31, f_31, cs_get0, gt_int, ha, int_int, m1, m2, cs_set0, cs_take]
  · have hp : (0 : Int) < 2147483549 := by decide
    have b1 := Int.emod_nonneg (b * 30983 + 8039) (show (2147483549 : Int) ≠ 0 by decide)
    have b2 := Int.emod_lt_of_pos (b * 30983 + 8039) hp
    have b3 : ∀ ν : Store, binD ν .Mod (.int (b * 30983 + 8039)) (.int 2147483549) = some (.int ((b * 30983 + 8039) % 2147483549)) := fun ν => mod_int hp
    have b4 : ∀ ν : Store, binD ν .Mult (.int b) (.int 30983) = some (.int (b * 30983)) := fun ν => mul_int (mul_small2 (by decide))
    generalize (b * 30983 + 8039) % 2147483549 = c at b1 b2 b3
    have b5 : ∀ ν : Store, binD ν .Mult (.int c) (.int (c + 241)) = some (.int (c * (c + 241))) := fun ν => mul_int (mul_small (small_lit b1 (by omega)))
    have b6 : ∀ ν : Store, binD ν .Mod (.int (c * (c + 241))) (.int 2147483563) = some (.int (c * (c + 241) % 2147483563)) := fun ν => mod_int (by decide)
    have b7 : ∀ (x : Int) (ν : Store), binD ν .FloorDiv (.int x) (.int 839) = some (.int (x / 839)) := fun x ν => div_int (by decide) (by decide)
    have b8 : ∀ (x : Int) (ν : Store), binD ν .Mod (.int x) (.int many) = some (.int (x % many)) := fun x ν => mod_int (by omega)
    refine ⟨c * (c + 241) % 2147483563 / 839 % many, a, c, ?_, Int.emod_nonneg _ (by omega), Int.emod_lt_of_pos _ (by omega), b1, by omega⟩
    have ha2 : decide (0 < a) = false := decide_eq_false ha
    rw [r_31]
    simp only [f_31]
    simp only [exs_seq, exs_ife, ev_cmp, ev_idx, ev_var, List.getElem?_cons_zero, List.getElem?_cons_succ, Rs.bind_ok, ev_int, cs_get0, cs_get1, Rs.of_some, gt_int, ha2, Option.map_some, onB_bl, exs_skip, exs_sub, ev_bin, ev_bi, evs_cs, evs_nl, b3, b4, b5, b6, b7, b8, add_int, int_int, frz_int, cs_set1, exs_set, asg_var, List.length_cons, List.length_nil, exs_ret, Bool.false_eq_true, if_false]
    simp [cs_get1, add_int, int_int, b5, b6, b7, b8, cs_take]
/-- one of the things -/
theorem s_some {n : Nat} {a b : Int} {rest : Store} (xs : List D) (h0 : xs ≠ []) (hl : xs.length ≤ 1000) (hd : ∀ x ∈ xs, dataD x = true) (hb : 0 ≤ b ∧ b < 4294967296) :
    ∃ x a' b', run fs (n + 2) 32 [.cell 0, .lst xs] (cs a b rest) = .ok x (cs a' b' rest) ∧ x ∈ xs ∧ 0 ≤ b' ∧ b' < 4294967296 := by
  have hp := List.length_pos_iff.mpr h0
  obtain ⟨r, a', b', e, r1, r2, c1, c2⟩ := s_roll (n := n) (a := a) (b := b) (rest := rest) (xs.length : Int) (by omega) (by omega) hb
  have hr : r.toNat < xs.length := by omega
  refine ⟨xs[r.toNat], a', b', ?_, List.getElem_mem hr, c1, c2⟩
  have er : r = ((r.toNat : Nat) : Int) := by omega
  have ei0 : idxD (cs a' b' rest) (.lst xs) (.int ((r.toNat : Nat) : Int)) = some xs[r.toNat] := idx_nat rfl (List.getElem?_eq_getElem hr)
  have ei : idxD (cs a' b' rest) (.lst xs) (.int r) = some xs[r.toNat] := by
    rw [← ei0, ← er]
  have hdx := hd _ (List.getElem_mem hr)
  rw [r_32]
  simp only [f_32, exs_ret, ev_idx, ev_var, List.getElem?_cons_zero, List.getElem?_cons_succ, Rs.bind_ok, ev_call, evs_cs, evs_nl, ev_bi, len_lst, Rs.of_some, e, ei]
  generalize xs[r.toNat] = x at hdx
  cases x <;> first | (cases hdx; done) | simp [cs_take]
end Tab
namespace Tab
open PySem DL
/-! _law_like: the same is alike -/
def Lv : Nat → D → Prop
  | 0, d => (∃ i, d = .int i) ∨ ∃ b, d = .bl b
  | k + 1, d => ((∃ i, d = .int i) ∨ ∃ b, d = .bl b) ∨ ∃ xs : List D, (d = .tup xs ∨ d = .lst xs) ∧ xs.length ≤ 1000 ∧ ∀ x ∈ xs, Lv k x
theorem Lv.atom {d : D} (h : (∃ i, d = .int i) ∨ ∃ b, d = .bl b) : ∀ k, Lv k d
  | 0 => h
  | _ + 1 => .inl h
theorem Lv.int (i : Int) (k : Nat) : Lv k (.int i) := Lv.atom (.inl ⟨i, rfl⟩) k
theorem Lv.bl (b : Bool) (k : Nat) : Lv k (.bl b) := Lv.atom (.inr ⟨b, rfl⟩) k
theorem Lv.tup {xs : List D} {k : Nat} (h : xs.length ≤ 1000) (hx : ∀ x ∈ xs, Lv k x) : Lv (k + 1) (.tup xs) := .inr ⟨xs, .inl rfl, h, hx⟩
theorem Lv.lst {xs : List D} {k : Nat} (h : xs.length ≤ 1000) (hx : ∀ x ∈ xs, Lv k x) : Lv (k + 1) (.lst xs) := .inr ⟨xs, .inr rfl, h, hx⟩
theorem Lv.ti {l : List Int} (h : l.length ≤ 1000) (k : Nat) : Lv (k + 1) (ti l) := Lv.tup (by rw [List.length_map]; exact h) fun x hx => by
  obtain ⟨a, _, rfl⟩ := List.mem_map.mp hx
  exact Lv.int a k
theorem sort_int {n : Nat} {μ : Store} (i : Int) : run fs (n + 1) 33 [.int i] μ = .ok (.int 2) μ := by
  simp [r_33, f_33, cmpD, isNon, isiD, tyD]
theorem sort_bl {n : Nat} {μ : Store} (b : Bool) : run fs (n + 1) 33 [.bl b] μ = .ok (.int 1) μ := by
  simp [r_33, f_33, cmpD, isNon, isiD, tyD]
theorem sort_tup {n : Nat} {μ : Store} (xs : List D) : run fs (n + 1) 33 [.tup xs] μ = .ok (.int 4) μ := by
  simp [r_33, f_33, cmpD, isNon, isiD, tyD]
theorem sort_lst {n : Nat} {μ : Store} (xs : List D) : run fs (n + 1) 33 [.lst xs] μ = .ok (.int 5) μ := by
  simp [r_33, f_33, cmpD, isNon, isiD, tyD]
theorem in_45 {μ : Store} (k : Int) : cmpD μ .In (.int k) (.tup [.int 4, .int 5]) = some (decide (k = 4) || decide (k = 5)) := by
  have e1 : ∀ i j : Int, PyData.eqv (.int i) (.int j) = decide (i = j) := fun i j => by rw [PyData.eqv]; rfl
  show some (PyData.eqv (.int 4) (.int k) || (PyData.eqv (.int 5) (.int k) || false)) = _
  rw [e1, e1, Bool.or_false]
  congr 1
  rw [decide_eq_decide.mpr (eq_comm (a := (4 : Int)) (b := k)), decide_eq_decide.mpr (eq_comm (a := (5 : Int)) (b := k))]
theorem lst_nil_eq {μ : Store} : cmpD μ .Eq (.lst []) (.lst []) = some true := by
  show (if okE (.lst []) && okE (.lst []) then some (PyData.eqv (toP (.lst [])) (toP (.lst []))) else none) = _
  have h : okE (.lst []) = true := by
    unfold okE SeqAt.shaped
    rfl
  rw [h]
  show some (PyData.eqv (.list []) (.list [])) = _
  rw [PyData.eqv]
  rfl
theorem bl_eq {μ : Store} (b : Bool) : cmpD μ .Eq (.bl b) (.bl b) = some true := by
  show (if okE (.bl b) && okE (.bl b) then some (PyData.eqv (toP (.bl b)) (toP (.bl b))) else none) = _
  have h : okE (.bl b) = true := rfl
  rw [h]
  show some (PyData.eqv (.bool b) (.bool b)) = _
  rw [PyData.eqv]
  cases b <;> rfl
theorem zip_self : ∀ (xs : List D) (x : D), x ∈ zipL xs xs → ∃ y ∈ xs, x = .tup [y, y]
  | [], x, h => by simp [zipL] at h
  | y :: xs, x, h => by
    rw [zipL] at h
    rcases List.mem_cons.mp h with rfl | h
    · exact ⟨y, List.mem_cons_self .., rfl⟩
    · obtain ⟨z, hz, e⟩ := zip_self xs x h
      exact ⟨z, List.mem_cons_of_mem _ hz, e⟩
theorem zip_len : ∀ xs : List D, (zipL xs xs).length = xs.length
  | [] => rfl
  | y :: xs => by rw [zipL, List.length_cons, zip_len xs, List.length_cons]
theorem like_self : ∀ (k n : Nat) (μ : Store) (d : D), Lv k d → run fs (n + k + 2) 34 [d, d] μ = .ok (.bl true) μ := by
  intro k
  induction k with
  | zero =>
    intro n μ d h
    rcases h with ⟨i, rfl⟩ | ⟨b, rfl⟩
    · simp [r_34, f_34, sort_int, ne_int, eq_int, fit2, in_45]
    · simp [r_34, f_34, sort_bl, ne_int, eq_int, fit2, in_45, bl_eq]
  | succ k ih =>
    intro n μ d h
    rcases h with (⟨i, rfl⟩ | ⟨b, rfl⟩) | ⟨xs, hd, hl, hx⟩
    · simp [r_34, f_34, sort_int, ne_int, eq_int, fit2, in_45]
    · simp [r_34, f_34, sort_bl, ne_int, eq_int, fit2, in_45, bl_eq]
    · have q : ∀ ρ0 ρ1 ρ2 : D, compR (.ok (zipL xs xs, none) μ) (turn (run fs (n + k + 2)) [3, 4] (.int 1) (.tup (.cs (.var 3) (.cs (.var 4) .nl))) (.one (.not (.call 34 (.cs (.var 3) (.cs (.var 4) .nl))))) [some ρ0, some ρ1, some ρ2, none, none]) = .ok [] μ := fun ρ0 ρ1 ρ2 => by
        rw [compR_ok (g := fun _ => none) (fun x hxx => by
          obtain ⟨y, hy, rfl⟩ := zip_self xs x hxx
          have e := ih n μ y (hx y hy)
          simp [turn, e]) (line_big (by rw [zip_len]; omega))]
        congr 1
        have : ∀ l : List D, l.filterMap (fun _ => (none : Option D)) = [] := fun l => by induction l <;> simp_all
        exact this _
      have en : n + (k + 1) + 2 = (n + k + 2) + 1 := by omega
      rw [en]
      have s1 : run fs (n + k + 2) 33 [.tup xs] μ = .ok (.int 4) μ := sort_tup (n := n + k + 1) xs
      have s2 : run fs (n + k + 2) 33 [.lst xs] μ = .ok (.int 5) μ := sort_lst (n := n + k + 1) xs
      rcases hd with rfl | rfl
      · simp [r_34, f_34, s1, ne_int, eq_int, fit2, in_45, len_tup, q, lst_nil_eq, fit0]
      · simp [r_34, f_34, s2, ne_int, eq_int, fit2, in_45, len_lst, q, lst_nil_eq, fit0]
end Tab
set_option exponentiation.threshold 4000
namespace Tab
open PySem DL
/-! the law's own reckoning -/
theorem rng_map (k : Nat) : rngL 0 (k : Int) = (List.range k).map fun i => D.int (i : Nat) := by
  unfold rngL
  rw [show ((k : Int) - 0).toNat = k by omega]
  apply List.map_congr_left
  intro i _
  rw [Int.zero_add]
theorem rng_ok {k : Int} (h : 0 ≤ k) (h2 : k ≤ 1000000) : rngOk 0 k = true := by
  have q1 : -(2 : Int) ^ 62 ≤ 0 := by decide +kernel
  have q2 : (1000000 : Int) < (2 : Int) ^ 62 := by decide +kernel
  have q3 : (0 : Int) < (2 : Int) ^ 62 := by decide +kernel
  unfold rngOk
  rw [decide_eq_true q1, decide_eq_true q3, decide_eq_true (Int.le_trans q1 h), decide_eq_true (Int.lt_of_le_of_lt h2 q2)]
  rfl
theorem rng1_run {cl : Calls} {a : PX} {ρ : DL.Env} {μ : Store} {j : Int} (h : ev cl a ρ μ = .ok (.int j) μ) (hr : rngOk 0 j = true) : evI cl (.rng1 a) ρ μ = .ok (rngL 0 j, none) μ := by
  rw [evI_rng1, h, Rs.bind_ok]
  exact if_pos hr
theorem s_power {n : Nat} {μ : Store} (m : Int) (k : Nat) (hk : k ≤ 1000) (h : ∀ j, j < k → mulOk (m ^ j) m = true) : run fs (n + 1) 38 [.int m, .int (k : Nat)] μ = .ok (.int (m ^ k)) μ := by
  obtain ⟨ρ', μ', e, I⟩ := loop_inv (f := loopF (run fs n) (.var 3) (.set (.var 2) (.bin .Mult (.var 2) (.var 0))))
    (fun xs ρ μ' => μ' = μ ∧ ∃ (j : Nat) (z : Option D), j + xs.length = k ∧ ρ = [some (.int m), some (.int (k : Nat)), some (.int (m ^ j)), z])
    (xs := rngL 0 (k : Int)) (ρ := [some (.int m), some (.int (k : Nat)), some (.int 1), none]) (μ := μ) ⟨rfl, 0, none, by rw [rng_map, List.length_map, List.length_range]; omega, by rw [Int.pow_zero]⟩
    (fun x r ρ μ' hI => by
      obtain ⟨rfl, j, z, e1, rfl⟩ := hI
      rw [List.length_cons] at e1
      have hj := mul_int (μ := μ') (h j (by omega))
      refine ⟨[some (.int m), some (.int (k : Nat)), some (.int (m ^ (j + 1))), some x], μ', ?_, rfl, j + 1, some x, by omega, rfl⟩
      simp [loopF, hj, Int.pow_succ])
  obtain ⟨rfl, j, z, e1, rfl⟩ := I
  have hj : j = k := by simpa using e1
  subst hj
  have hr := rng_ok (k := (j : Int)) (by omega) (by omega)
  have st : exs (run fs n) (.loop (.var 3) (.rng1 (.var 1)) (.set (.var 2) (.bin .Mult (.var 2) (.var 0)))) [some (.int m), some (.int (j : Nat)), some (.int 1), none] μ' = .ok (.nx [some (.int m), some (.int (j : Nat)), some (.int (m ^ j)), z]) μ' := by
    rw [exs_loop, rng1_run (j := (j : Int)) rfl hr, Rs.bind_ok, locked_none, un_none]
    exact e
  have s0 : exs (run fs n) (.set (.var 2) (.int 1)) [some (.int m), some (.int (j : Nat)), none, none] μ' = .ok (.nx [some (.int m), some (.int (j : Nat)), some (.int 1), none]) μ' := rfl
  rw [r_38]
  show leave false μ'.length (exs (run fs n) (.seq _ (.seq _ (.ret _))) _ _) = _
  rw [seq_run s0, seq_run st]
  simp only [exs_ret, ev_var, List.getElem?_cons_zero, List.getElem?_cons_succ, Rs.bind_ok, leave_int, List.take_length]
theorem pow_size {m : Int} {M : Nat} (hm : m.natAbs ≤ 2 ^ M) : ∀ j : Nat, (m ^ j).natAbs ≤ 2 ^ (M * j)
  | 0 => by simp
  | j + 1 => by
    rw [Int.pow_succ, Int.natAbs_mul, Nat.mul_succ, Nat.pow_add]
    exact Nat.mul_le_mul (pow_size hm j) hm
/-- terms of a value -/
def terms (m : Int) : Nat → List Int → List Int
  | _, [] => []
  | k, a :: l => a * m ^ k :: terms m (k + 1) l
theorem terms_sum (m : Int) : ∀ (l : List Int) (k : Nat), (terms m k l).sum = pv l m * m ^ k
  | [], k => by simp [terms]
  | a :: l, k => by
    rw [terms, List.sum_cons, terms_sum m l (k + 1), pv_cons, Int.pow_succ, Int.add_mul, Int.mul_assoc, Int.mul_comm m]
    omega
theorem enm_terms (m : Int) : ∀ (l : List Int) (k : Nat), (enmL k (l.map D.int)).map (fun d => match d with
    | .tup [.int i, .int a] => D.int (a * m ^ i.toNat)
    | d => d) = (terms m k l).map D.int
  | [], k => rfl
  | a :: l, k => by
    have ih := enm_terms m l (k + 1)
    rw [List.map_cons, enmL, List.map_cons, ih]
    rfl
theorem enm_mem : ∀ (l : List Int) (k : Nat) (x : D), x ∈ enmL k (l.map D.int) → ∃ (i : Nat) (a : Int), k ≤ i ∧ i < k + l.length ∧ a ∈ l ∧ x = .tup [.int (i : Nat), .int a]
  | [], k, x, h => by simp [enmL] at h
  | a :: l, k, x, h => by
    rw [List.map_cons, enmL] at h
    rcases List.mem_cons.mp h with rfl | h
    · exact ⟨k, a, Nat.le_refl _, by rw [List.length_cons]; omega, List.mem_cons_self .., rfl⟩
    · obtain ⟨i, b, h1, h2, h3, e⟩ := enm_mem l (k + 1) x h
      exact ⟨i, b, by omega, by rw [List.length_cons]; omega, List.mem_cons_of_mem _ h3, e⟩
theorem enm_len (l : List D) : ∀ k, (enmL k l).length = l.length := by
  induction l with
  | nil => intro k; rfl
  | cons a l ih => intro k; rw [enmL, List.length_cons, ih, List.length_cons]
theorem s_lawNumber {n : Nat} {μ : Store} (x : D) (l : List Int) (hx : x = .lst (l.map .int) ∨ x = .tup (l.map .int)) (h : ∀ a ∈ l, small a = true) : run fs (n + 1) 35 [x] μ = .ok (.int (prod l)) μ := s_number_in (n := n) x l hx h
end Tab
namespace Tab
open PySem DL
/-! general rows for draws; lean rows by counting; drawn forms -/
theorem fit_ok {xs : List D} (h : xs.length ≤ 1000000) : fitL xs = some xs := fit_of (line_big h)
theorem rng1_go {cl : Calls} {a : PX} {ρ : DL.Env} {μ μ1 : Store} {j : Int} (h : ev cl a ρ μ = .ok (.int j) μ1) (h0 : 0 ≤ j) (h2 : j ≤ 1000000) : evI cl (.rng1 a) ρ μ = .ok (rngL 0 j, none) μ1 := by
  rw [evI_rng1, h, Rs.bind_ok]
  exact if_pos (rng_ok h0 h2)
theorem rng_mem {j : Int} (h0 : 0 ≤ j) {x : D} (h : x ∈ rngL 0 j) : ∃ i : Nat, x = .int (i : Nat) ∧ (i : Int) < j := by
  have e : j = ((j.toNat : Nat) : Int) := by omega
  rw [e, rng_map] at h
  obtain ⟨i, hi, rfl⟩ := List.mem_map.mp h
  rw [List.mem_range] at hi
  exact ⟨i, rfl, by omega⟩
theorem rng_len {j : Int} : (rngL 0 j).length = j.toNat := by
  unfold rngL
  rw [List.length_map, List.length_range, Int.sub_zero]
def Gd (b : Int) : Prop := 0 ≤ b ∧ b < 4294967296
theorem compL_draw {f : D → Store → Rs (Option D)} {rest : Store} {P : D → Prop} (st : ∀ x a b, Gd b → ∃ y a' b', f x (cs a b rest) = .ok (some y) (cs a' b' rest) ∧ P y ∧ Gd b') :
    ∀ (xs : List D) (a b : Int), Gd b → ∃ ys a' b', compL f xs (cs a b rest) = .ok ys (cs a' b' rest) ∧ ys.length = xs.length ∧ (∀ y ∈ ys, P y) ∧ Gd b'
  | [], a, b, hb => ⟨[], a, b, rfl, rfl, by simp, hb⟩
  | x :: xs, a, b, hb => by
    obtain ⟨y, a1, b1, e, p, h1⟩ := st x a b hb
    obtain ⟨ys, a2, b2, e2, l2, p2, h2⟩ := compL_draw st xs a1 b1 h1
    refine ⟨y :: ys, a2, b2, ?_, by simp [l2], fun z hz => ?_, h2⟩
    · rw [compL, e, Rs.bind_ok, e2, Rs.bind_ok]
      rfl
    · rcases List.mem_cons.mp hz with rfl | hz
      · exact p
      · exact p2 z hz
theorem compR_draw {f : D → Store → Rs (Option D)} {rest : Store} {P : D → Prop} (st : ∀ x a b, Gd b → ∃ y a' b', f x (cs a b rest) = .ok (some y) (cs a' b' rest) ∧ P y ∧ Gd b')
    (xs : List D) (a b : Int) (hb : Gd b) (hl : xs.length ≤ 1000000) : ∃ ys a' b', compR (.ok (xs, none) (cs a b rest)) f = .ok ys (cs a' b' rest) ∧ ys.length = xs.length ∧ (∀ y ∈ ys, P y) ∧ Gd b' := by
  obtain ⟨ys, a', b', e, l, p, h⟩ := compL_draw st xs a b hb
  refine ⟨ys, a', b', ?_, l, p, h⟩
  unfold compR
  rw [Rs.bind_ok, locked_none, e, un_none]
  unfold fitR
  rw [Rs.calm_ok, Rs.bind_ok, if_pos (line_big (by omega))]
theorem ints_of {P : Int → Prop} : ∀ {ys : List D}, (∀ y ∈ ys, ∃ a : Int, y = .int a ∧ P a) → ∃ l : List Int, ys = l.map D.int ∧ ∀ a ∈ l, P a
  | [], _ => ⟨[], rfl, by simp⟩
  | y :: ys, h => by
    obtain ⟨a, rfl, p⟩ := h y (List.mem_cons_self ..)
    obtain ⟨l, rfl, q⟩ := ints_of fun z hz => h z (List.mem_cons_of_mem _ hz)
    exact ⟨a :: l, rfl, fun c hc => by
      rcases List.mem_cons.mp hc with rfl | hc
      · exact p
      · exact q c hc⟩
theorem okE_li (l : List Int) : okE (.lst (l.map D.int)) = true := by
  unfold okE
  have h1 : dataD (.lst (l.map D.int)) = true := dataL_map l
  have h2 : toP (.lst (l.map D.int)) = .list (l.map PyData.int) := by
    show PyData.list (toPL (l.map D.int)) = _
    rw [toPL_map]
  obtain ⟨q1, q2⟩ := lay_ints l
  rw [h1, h2]
  unfold SeqAt.shaped
  rw [PyData.canLay0, q1, PyData.depth, q2]
  rfl
theorem eqv_ints : ∀ ns ms : List Int, PyData.eqvAll (ns.map PyData.int) (ms.map PyData.int) = decide (ns = ms)
  | [], [] => by simp [PyData.eqvAll]
  | [], _ :: _ => by simp [PyData.eqvAll]
  | _ :: _, [] => by simp [PyData.eqvAll]
  | a :: r, b :: t => by
    simp only [List.map_cons, PyData.eqvAll, PyData.eqv, eqv_ints r t]
    by_cases h : a = b <;> by_cases h' : r = t <;> simp [h, h']
theorem eq_ints {μ : Store} (a b : List Int) : cmpD μ .Eq (.lst (a.map D.int)) (.lst (b.map D.int)) = some (decide (a = b)) := by
  show (if okE (.lst (a.map D.int)) && okE (.lst (b.map D.int)) then some (PyData.eqv (toP (.lst (a.map D.int))) (toP (.lst (b.map D.int)))) else none) = _
  rw [okE_li, okE_li]
  show some (PyData.eqv (.list (toPL (a.map D.int))) (.list (toPL (b.map D.int)))) = _
  rw [toPL_map, toPL_map, PyData.eqv, eqv_ints]
theorem ne_ints {μ : Store} (a b : List Int) : cmpD μ .NotEq (.lst (a.map D.int)) (.lst (b.map D.int)) = some (decide (a ≠ b)) := by
  show (cmpD μ .Eq (.lst (a.map D.int)) (.lst (b.map D.int))).map (!·) = _
  rw [eq_ints]
  by_cases h : a = b <;> simp [h]
theorem ne_nil_ints {μ : Store} (a : List Int) : cmpD μ .NotEq (.lst (a.map D.int)) (.lst []) = some (decide (a ≠ [])) := ne_ints a []
theorem turn1 {cl : Calls} {own : List Nat} {elt tg cnd : PX} {ρ ρ1 : DL.Env} {x : D} {μ : Store} (h : asg tg x (wipe ρ own) = some ρ1) : turn cl own elt tg cnd ρ x μ = (evC cl cnd ρ1 μ).bind fun c μ4 => if c = true then keepE (ev cl elt ρ1 μ4) else .ok none μ4 := by
  unfold turn
  rw [h]
  rfl
theorem turn0 {cl : Calls} {own : List Nat} {elt tg : PX} {ρ ρ1 : DL.Env} {x : D} {μ : Store} (h : asg tg x (wipe ρ own) = some ρ1) : turn cl own elt tg .nl ρ x μ = keepE (ev cl elt ρ1 μ) := by
  rw [turn1 h, evC_nl, Rs.bind_ok, if_pos rfl]
/-- what is not nought beyond a place -/
theorem ln_from (l : List Int) (i : Nat) : decide (((l.drop i).filter fun a => decide (a ≠ 0)) ≠ []) = decide (i < (ln l).length) := by
  apply decide_eq_decide.mpr
  constructor
  · intro h
    apply Decidable.byContradiction
    intro h2
    apply h
    rw [List.filter_eq_nil_iff]
    intro a ha
    obtain ⟨j, hj, rfl⟩ := List.getElem_of_mem ha
    rw [List.getElem_drop]
    have hj2 : i + j < l.length := by rw [List.length_drop] at hj; omega
    rw [ln_rest l (i + j) hj2 (by omega)]
    simp
  · intro h h2
    rw [List.filter_eq_nil_iff] at h2
    have hk := ln_len l
    have e := ln_last l ((ln l).length - 1) (by omega) (by omega)
    apply e
    have hm : l[(ln l).length - 1] ∈ l.drop i := by
      rw [List.mem_iff_getElem]
      refine ⟨(ln l).length - 1 - i, by rw [List.length_drop]; omega, ?_⟩
      rw [List.getElem_drop]
      congr 1
      omega
    have := h2 _ hm
    simpa using this
theorem count_upto {α : Type} (x : α) (L : Nat) : ∀ k, ((List.range k).filterMap fun i => if i < L then some x else none).length = min k L
  | 0 => by simp
  | k + 1 => by
    rw [List.range_succ, List.filterMap_append, List.length_append, count_upto x L k]
    by_cases h : k < L
    · simp [h]
      omega
    · simp [h]
      omega
theorem keep_ints (l : List Int) (p : Int → Bool) : (l.map D.int).filterMap (fun d => match d with
    | .int a => if p a then some (D.int a) else none
    | _ => none) = (l.filter p).map D.int := by
  induction l with
  | nil => rfl
  | cons a l ih =>
    rw [List.map_cons, List.filterMap_cons, ih]
    by_cases h : p a = true
    · simp [h]
    · simp [h]
theorem s_lawLean {n : Nat} {μ : Store} (l : List Int) (hl : l.length ≤ 1000) : run fs (n + 1) 39 [.lst (l.map D.int)] μ = .ok (ti (ln l)) μ := by
  have q1 : ∀ i : Nat, i < l.length → compR (.ok ((l.drop i).map D.int, none) μ) (turn (run fs n) [3] (.var 3) (.var 3) (.one (.cmp .NotEq (.var 3) (.int 0))) [some (.lst (l.map D.int)), none, some (.int (i : Nat)), none]) = .ok (((l.drop i).filter fun a => decide (a ≠ 0)).map D.int) μ := fun i hi => by
    rw [compR_ok (g := fun d => match d with
      | .int a => if decide (a ≠ 0) then some (D.int a) else none
      | _ => none) (fun x hx => by
        obtain ⟨a, _, rfl⟩ := List.mem_map.mp hx
        simp only [turn, wipe_cons, wipe_nil, asg_var, List.set_cons_succ, List.set_cons_zero, List.length_cons, List.length_nil, evC_one, ev_cmp, ev_var, ev_int]
        by_cases h : a = 0
        · simp [ne_int, h]
        · simp [ne_int, h]) (line_big (by rw [List.length_map, List.length_drop]; omega)), keep_ints]
  have q2 : compR (.ok (rngL 0 ((l.length : Nat) : Int), none) μ) (turn (run fs n) [2] (.int 1) (.var 2) (.one (.cmp .NotEq (.comp [3] (.var 3) (.var 3) (.one (.slc (.var 0) (.one (.var 2)) .nl)) (.one (.cmp .NotEq (.var 3) (.int 0)))) (.lst .nl))) [some (.lst (l.map D.int)), none, none, none])
      = .ok (((List.range l.length).filterMap fun i => if i < (ln l).length then some (D.int 1) else none)) μ := by
    rw [compR_ok (g := fun d => match d with
      | .int i => if i.toNat < (ln l).length then some (D.int 1) else none
      | _ => none) (fun x hx => by
        obtain ⟨i, rfl, hi⟩ := rng_mem (by omega) hx
        have hi2 : i < l.length := by omega
        have c1 : slcD μ (.lst (l.map D.int)) (some (i : Int)) none = some (.lst ((l.drop i).map D.int)) := by
          show (listOf μ (.lst (l.map D.int))).map (fun xs => D.lst (cutD xs (some (i : Int)) none)) = _
          rw [listOf_lst, Option.map_some, cut_from (by rw [List.length_map]; omega), List.map_drop]
        have c2 := ne_nil_ints (μ := μ) ((l.drop i).filter fun a => decide (a ≠ 0))
        rw [ln_from] at c2
        rw [turn1 (ρ1 := [some (.lst (l.map D.int)), none, some (.int (i : Nat)), none]) rfl]
        simp only [evC_one, ev_cmp, ev_comp, evI_one, ev_slc, ev_var, List.getElem?_cons_zero, List.getElem?_cons_succ, Rs.bind_ok, evO_one, evO_nl, c1, Rs.of_some, seqOf_lst, lockOf_lst, q1 i hi2, ev_lst, evs_nl, mkL_ok, frzs_nil, fit0, c2, Option.map_some]
        by_cases h : i < (ln l).length
        · simp [h]
        · simp [h]) (line_big (by rw [rng_len]; omega)), rng_map, List.filterMap_map]
    rfl
  have q3 := count_upto (D.int 1) (ln l).length l.length
  have q4 : min l.length (ln l).length = (ln l).length := by have := ln_len l; omega
  have q5 : slcD μ (.lst (l.map D.int)) none (some ((ln l).length : Int)) = some (.lst ((ln l).map D.int)) := by
    show (listOf μ (.lst (l.map D.int))).map (fun xs => D.lst (cutD xs none (some ((ln l).length : Int)))) = _
    rw [listOf_lst, Option.map_some, cut_to (by rw [List.length_map]; exact ln_len l), ← List.map_take, ← ln_take]
  have q6 : evI (run fs n) (.rng1 (.bi .len (.cs (.var 0) .nl))) [some (.lst (l.map D.int)), none, none, none] μ = .ok (rngL 0 ((l.length : Nat) : Int), none) μ := rng1_go (by simp [len_lst]) (by omega) (by omega)
  rw [r_39]
  simp only [f_39]
  simp only [exs_seq, exs_set, ev_bi, evs_cs, evs_nl, ev_comp, q6, Rs.bind_ok, q2, len_lst, q3, q4, Rs.of_some, asg_var, List.length_cons, List.length_nil, exs_ret, ev_slc, ev_var]
  simp [q5, biD]
end Tab
namespace Tab
open PySem DL
theorem e3a {cl : Calls} {μ : Store} {x0 : D} {m i a p q : Int} (e1 : cl 38 [.int m, .int i] μ = .ok (.int p) μ) (e2 : binD μ .Mult (.int a) (.int p) = some (.int q)) : ev cl (.bin .Mult (.var 3) (.call 38 (.cs (.var 1) (.cs (.var 2) .nl)))) [some x0, some (.int m), some (.int i), some (.int a)] μ = .ok (.int q) μ := by
  simp only [ev_bin, ev_var, ev_call, evs_cs, evs_nl, List.getElem?_cons_zero, List.getElem?_cons_succ, Rs.bind_ok, e1, e2, Rs.of_some]
theorem s_lawValueG {n : Nat} {μ : Store} {B M : Nat} (l : List Int) (m : Int) (hl : l.length ≤ 5) (hb : ∀ a ∈ l, a.natAbs ≤ 2 ^ B) (hm : m.natAbs ≤ 2 ^ M) (hBM : B + M * 6 < 1000000) : run fs (n + 2) 37 [ti l, .int m] μ = .ok (.int (pv l m)) μ := by
  have step : ∀ x ∈ enmL 0 (l.map D.int), turn (run fs (n + 1)) [2, 3] (.bin .Mult (.var 3) (.call 38 (.cs (.var 1) (.cs (.var 2) .nl)))) (.tup (.cs (.var 2) (.cs (.var 3) .nl))) .nl [some (ti l), some (.int m), none, none] x μ = .ok (some (match x with
      | .tup [.int i, .int a] => D.int (a * m ^ i.toNat)
      | d => d)) μ := fun x hx => by
    obtain ⟨i, a, h1, h2, h3, rfl⟩ := enm_mem l 0 x hx
    have hi : M * i ≤ M * 5 := Nat.mul_le_mul_left _ (by omega)
    have e1 := s_power (n := n) (μ := μ) m i (by omega) fun j hj => by
      have hj2 : M * j ≤ M * 5 := Nat.mul_le_mul_left _ (by omega)
      exact mulOk_of (pow_size hm j) hm (by omega)
    have e2 := mul_int (μ := μ) (mulOk_of (hb a h3) (pow_size hm i) (by omega))
    rw [turn0 (ρ1 := [some (ti l), some (.int m), some (.int (i : Nat)), some (.int a)]) rfl]
    have e3 := e3a (x0 := ti l) e1 e2
    rw [e3, keepE_ok, frz_int, Rs.bind_ok]
    rfl
  have q := compR_map step (line_big (by rw [enm_len, List.length_map]; omega))
  have q := q.trans (congrArg (fun z => Rs.ok z μ) (enm_terms m l 0))
  have q7 := sum_ints (μ := μ) (terms m 0 l)
  rw [terms_sum, Int.pow_zero, Int.mul_one] at q7
  rw [r_37]
  simp only [f_37, exs_ret, ev_bi, evs_cs, evs_nl, ev_comp, evI_enm, ev_var, List.getElem?_cons_zero, Rs.bind_ok, q, q7, Rs.of_some, leave_int, List.take_length]
end Tab
namespace Tab
open PySem DL
/-! drawn forms, sizes -/
theorem s_someI {n : Nat} {a b : Int} {rest : Store} (L : List Int) (h0 : L ≠ []) (hl : L.length ≤ 1000) (hb : Gd b) :
    ∃ c a' b', run fs (n + 2) 32 [.cell 0, .lst (L.map D.int)] (cs a b rest) = .ok (.int c) (cs a' b' rest) ∧ c ∈ L ∧ Gd b' := by
  obtain ⟨x, a', b', e, hx, g⟩ := s_some (n := n) (a := a) (b := b) (rest := rest) (L.map D.int) (by simpa using h0) (by simpa using hl) (fun x hx => by
    obtain ⟨c, _, rfl⟩ := List.mem_map.mp hx
    rfl) hb
  obtain ⟨c, hc, rfl⟩ := List.mem_map.mp hx
  exact ⟨c, a', b', e, hc, g⟩
theorem s_rollI {n : Nat} {a b : Int} {rest : Store} (many : Int) (h1 : 1 ≤ many) (h2 : many < 1073741824) (hb : Gd b) :
    ∃ r a' b', run fs (n + 1) 31 [.cell 0, .int many] (cs a b rest) = .ok (.int r) (cs a' b' rest) ∧ 0 ≤ r ∧ r < many ∧ Gd b' := by
  obtain ⟨r, a', b', e, r0, r1, g⟩ := s_roll (n := n) (a := a) (b := b) (rest := rest) many h1 h2 hb
  exact ⟨r, a', b', e, r0, r1, g⟩
theorem cs_take2 {a b a' b' : Int} {rest : Store} : (cs a' b' rest).take (cs a b rest).length = cs a' b' rest := cs_take
/-- a drawn form -/
structure Fo (l : List Int) (most : Nat) : Prop where
  len : l.length ≤ most
  last : ∀ h : l ≠ [], l.getLast h ≠ 0
  few : ∀ c ∈ l, c.natAbs ≤ 12
abbrev formX : PX := .lst (.cs (.int (0)) (.cs (.int (1)) (.cs (.int (1)) (.cs (.neg (.int (1))) (.cs (.int (2)) (.cs (.int (3)) (.cs (.neg (.int (2))) (.cs (.int (4)) (.cs (.int (6)) (.cs (.int (12)) (.cs (.neg (.int (5))) .nl)))))))))))
theorem s_lawForm {n : Nat} {a b : Int} {rest : Store} (most : Nat) (hm : most ≤ 100) (hb : Gd b) :
    ∃ l a' b', run fs (n + 3) 40 [.cell 0, .int (most : Nat)] (cs a b rest) = .ok (ti l) (cs a' b' rest) ∧ Fo l most ∧ Gd b' := by
  obtain ⟨r, a1, b1, e1, r0, r1, g1⟩ := s_rollI (n := n + 1) (a := a) (b := b) (rest := rest) ((most : Int) + 1) (by omega) (by omega) hb
  obtain ⟨ys, a2, b2, e2, hl, hp, g2⟩ := compR_draw (rest := rest) (f := turn (run fs (n + 2)) [2] (.call 32 (.cs (.var 0) (.cs formX .nl))) (.var 2) .nl [some (.cell 0), some (.int (most : Nat)), none]) (P := fun y => ∃ c : Int, y = .int c ∧ c.natAbs ≤ 12) (fun x a b hb => by
     obtain ⟨c, a', b', e, hc, g⟩ := s_someI (n := n) (a := a) (b := b) (rest := rest) [0, 1, 1, -1, 2, 3, -2, 4, 6, 12, -5] (by simp) (by simp) hb
     have hL : ∀ c ∈ ([0, 1, 1, -1, 2, 3, -2, 4, 6, 12, -5] : List Int), c.natAbs ≤ 12 := by decide
     refine ⟨.int c, a', b', ?_, ⟨c, rfl, hL c hc⟩, g⟩
     simp only [List.map_cons, List.map_nil] at e
     generalize run fs (n + 2) = cl at e ⊢
     simp [turn, fit_ok, e]) (rngL 0 r) a1 b1 g1 (by rw [rng_len]; omega)
  obtain ⟨l, rfl, hl2⟩ := ints_of hp
  rw [rng_len, List.length_map] at hl
  have q1 := s_lawLean (n := n + 1) (μ := cs a2 b2 rest) l (by omega)
  have q2 : evI (run fs (n + 2)) (.rng1 (.call 31 (.cs (.var 0) (.cs (.bin .Add (.var 1) (.int 1)) .nl)))) [some (.cell 0), some (.int (most : Nat)), none] (cs a b rest) = .ok (rngL 0 r, none) (cs a1 b1 rest) := rng1_go (by
    generalize run fs (n + 2) = cl at e1 ⊢
    simp [add_int, e1]) r0 (by omega)
  refine ⟨ln l, a2, b2, ?_, ⟨by have := ln_len l; omega, fun h => ln_end l h, fun c hc => ?_⟩, g2⟩
  · rw [r_40]
    generalize run fs (n + 2) = cl at e2 q1 q2 ⊢
    simp only [f_40, exs_ret, ev_call, evs_cs, evs_nl, ev_comp, q2, e2, Rs.bind_ok, q1, leave_tup, cs_take2]
  · rw [ln_take] at hc
    exact hl2 c (List.mem_of_mem_take hc)
theorem ne_nil_ti {μ : Store} (l : List Int) : cmpD μ .NotEq (ti l) (.tup []) = some (!l.isEmpty) := by
  show (cmpD μ .Eq (ti l) (.tup [])).map (!·) = _
  rw [eq_nil]
  rfl
def tmL (l : List Int) (s : Int × Int) : List Int := (if s.2 = 1 ∧ l ≠ [] then 0 :: l else l).map (· * s.1)
theorem s_lawTimes {n : Nat} {μ : Store} (l : List Int) (s : Int × Int) (hl : l.length ≤ 1000) (hs : small s.1 = true) : run fs (n + 1) 41 [ti l, sD s] μ = .ok (ti (tmL l s)) μ := by
  have i0 : idxD μ (sD s) (.int 0) = some (.int s.1) := idx_nat (k := 0) rfl rfl
  have i1 : idxD μ (sD s) (.int 1) = some (.int s.2) := idx_nat (k := 1) rfl rfl
  have q1 : ev (run fs n) (.ife (.and (.cmp .Eq (.idx (.var 1) (.int 1)) (.int 1)) (.cmp .NotEq (.var 0) (.tup .nl))) (.bin .Add (.tup (.cs (.int 0) .nl)) (.var 0)) (.var 0)) [some (ti l), some (sD s), none] μ = .ok (ti (if s.2 = 1 ∧ l ≠ [] then 0 :: l else l)) μ := by
    have c1 := ne_nil_ti (μ := μ) l
    have c2 : binD μ .Add (.tup [.int 0]) (ti l) = some (ti (0 :: l)) := by
      rw [cat_tup (by rw [List.length_map]; show 1 + l.length ≤ _; omega)]
      rfl
    simp only [ev_ife, ev_and, ev_cmp, ev_idx, ev_var, List.getElem?_cons_zero, List.getElem?_cons_succ, Rs.bind_ok, ev_int, i1, Rs.of_some, eq_int, Option.map_some, onB_bl, ev_tup, evs_nl, evs_cs, frzs_nil, frzs_cons, frz_int, fit0, fit1, c1, ev_bin, c2]
    by_cases h1 : s.2 = 1
    · cases l with
      | nil => simp [h1]
      | cons o l =>
        simp only [h1, decide_true, if_true, List.isEmpty_cons, Bool.not_false, Rs.bind_ok, onB_bl, c2, Rs.of_some]
        rfl
    · simp [h1]
  have q2 : compR (.ok ((if s.2 = 1 ∧ l ≠ [] then 0 :: l else l).map D.int, none) μ) (turn (run fs n) [2] (.bin .Mult (.var 2) (.idx (.var 1) (.int 0))) (.var 2) .nl [some (ti l), some (sD s), none]) = .ok ((tmL l s).map D.int) μ := by
    rw [compR_map (g := fun d => match d with
      | .int o => .int (o * s.1)
      | d => d) (fun x hx => by
        obtain ⟨o, _, rfl⟩ := List.mem_map.mp hx
        have m1 : binD μ .Mult (.int o) (.int s.1) = some (.int (o * s.1)) := mul_int (mul_small2 hs)
        simp [turn, i0, m1]) (line_big (by rw [List.length_map]; split <;> first | (rw [List.length_cons]; omega) | omega)), List.map_map]
    unfold tmL
    rw [List.map_map]
    rfl
  rw [r_41]
  simp only [f_41, exs_ret, ev_bi, evs_cs, evs_nl, ev_comp, evI_one, q1, Rs.bind_ok, seqOf_tup, lockOf_tup, q2]
  simp [biD]
/-! the store's last list -/
theorem mut_cs {a b : Int} {rest : Store} {xs : List D} : mutOf (cs a b (rest ++ [⟨0, xs⟩])) (rest.length + 1) = some xs := mut_last (μ := cs a b rest)
theorem set_cs {a b : Int} {rest : Store} {c c' : Cell} : (cs a b (rest ++ [c])).set (rest.length + 1) c' = cs a b (rest ++ [c']) := set_last (μ := cs a b rest)
theorem get_cs {a b : Int} {rest : Store} {c : Cell} : (cs a b (rest ++ [c]))[rest.length + 1]? = some c := get_last (μ := cs a b rest)
theorem frz_cs {a b : Int} {rest : Store} {c : Cell} : frz (.cell (rest.length + 1)) (cs a b (rest ++ [c])) = .ok (.lst c.xs) (cs a b (rest ++ [⟨1, c.xs⟩])) := frz_last (μ := cs a b rest)
theorem take_cs {a b a' b' : Int} {rest : Store} {c : Cell} : (cs a b (rest ++ [c])).take (cs a' b' rest).length = cs a b rest := take_last (μ := cs a b rest)
theorem new_cs {a b : Int} {rest : Store} {c : Cell} : cs a b rest ++ [c] = cs a b (rest ++ [c]) := rfl
theorem len_cs {a b : Int} {rest : Store} : (cs a b rest).length = rest.length + 1 := rfl
theorem relock {μ : Store} {k : Nat} {xs : List D} (h : μ[k]? = some ⟨0, xs⟩) : unlocked (locked μ (some k)) (some k) = μ := by
  obtain ⟨hk, e⟩ := List.getElem?_eq_some_iff.mp h
  rw [locked_some h, unlocked_two (xs := xs) (by rw [List.getElem?_set_self hk]), List.set_set]
  rw [← e]
  exact List.set_getElem_self hk
theorem evI_cell {cl : Calls} {ρ : DL.Env} {μ : Store} {v k : Nat} {xs : List D} (hv : ρ[v]? = some (some (.cell k))) (h : μ[k]? = some ⟨0, xs⟩) : evI cl (.one (.var v)) ρ μ = .ok (xs, some k) μ := by
  rw [evI_one, ev_var, hv]
  dsimp only
  rw [Rs.bind_ok, seqOf_cell, h, Option.map_some]
  dsimp only
  rw [lockOf_zero h]
/-- a product: over a list that may change -/
theorem s_lawNumberC {n : Nat} {μ : Store} (k : Nat) (l : List Int) (hk : μ[k]? = some ⟨0, l.map D.int⟩) (h : ∀ a ∈ l, small a = true) : run fs (n + 1) 35 [.cell k] μ = .ok (.int (prod l)) μ := by
  obtain ⟨ρ', μ', e, I⟩ := loop_inv (f := loopF (run fs n) (.var 2) (.set (.var 1) (.bin .Mult (.var 1) (.var 2))))
    (fun xs ρ μ' => μ' = locked μ (some k) ∧ ∃ (s t : List Int) (z : Option D), l = s ++ t ∧ xs = t.map D.int ∧ ρ = [some (.cell k), some (.int (prod s)), z])
    (xs := l.map D.int) (ρ := [some (.cell k), some (.int 1), none]) (μ := locked μ (some k)) ⟨rfl, [], l, none, rfl, rfl, rfl⟩
    (fun y r ρ μ' hI => by
      obtain ⟨rfl, s, t, z, e1, e2, rfl⟩ := hI
      cases t with
      | nil => cases e2
      | cons o t =>
        cases e2
        have ho : mulOk (prod s) o = true := mul_small2 (h o (by rw [e1]; simp))
        refine ⟨[some (.cell k), some (.int (prod (s ++ [o]))), some (.int o)], _, ?_, rfl, s ++ [o], t, some (.int o), by rw [e1, List.append_assoc]; rfl, rfl, rfl⟩
        have ep : prod (s ++ [o]) = prod s * o := by unfold prod; rw [List.foldl_append]; rfl
        simp [loopF, binD, ho, ep])
  obtain ⟨rfl, s, t, z, e1, e2, rfl⟩ := I
  have ht : t = [] := by cases t with
    | nil => rfl
    | cons _ _ => cases e2
  subst ht
  rw [List.append_nil] at e1
  subst e1
  have q1 : evI (run fs n) (.one (.var 0)) [some (.cell k), some (.int 1), none] μ = .ok (l.map D.int, some k) μ := evI_cell rfl hk
  have q2 : exs (run fs n) (.loop (.var 2) (.one (.var 0)) (.set (.var 1) (.bin .Mult (.var 1) (.var 2)))) [some (.cell k), some (.int 1), none] μ = .ok (.nx [some (.cell k), some (.int (prod l)), z]) μ := by
    rw [exs_loop, q1, Rs.bind_ok]
    show (loopL _ (l.map D.int) _ (locked μ (some k))).un (some k) = _
    rw [e]
    show Rs.ok _ (unlocked (locked μ (some k)) (some k)) = _
    rw [relock hk]
  rw [r_35]
  simp only [f_35]
  generalize run fs n = cl at q2 ⊢
  rw [seq_run (ρ1 := [some (.cell k), some (.int 1), none]) (μ1 := μ) rfl, seq_run q2]
  simp
theorem prod_snoc (s : List Int) (o : Int) : prod (s ++ [o]) = prod s * o := by unfold prod; rw [List.foldl_append]; rfl
end Tab
namespace Tab
open PySem DL
/-! drawn sizes -/
theorem tup_lst {μ : Store} {xs : List D} : biD μ .tuple [.lst xs] = some (.tup xs) := rfl
structure Sz (l : List Int) (most : Int) : Prop where
  len : l.length ≤ 5
  rng : ∀ s ∈ l, 1 ≤ s ∧ s ≤ 6
  fit : prod l ≤ most
abbrev szB : SX := .seq (.set (.var 4) (.call 32 (.cs (.var 0) (.cs (.lst (.cs (.int (1)) (.cs (.int (2)) (.cs (.int (2)) (.cs (.int (2)) (.cs (.int (3)) (.cs (.int (3)) (.cs (.int (4)) (.cs (.int (5)) (.cs (.int (6)) .nl)))))))))) .nl)))) (.ife (.cmp .LtE (.bin .Mult (.call 35 (.cs (.var 2) .nl)) (.var 4)) (.var 1)) (.app 2 (.var 4)) .skip)
theorem small_6 {c : Int} (h : 1 ≤ c ∧ c ≤ 6) : small c = true := small_lit (by omega) (by omega)
theorem s_lawSizes {n : Nat} {a b : Int} {rest : Store} (most : Int) (h1 : 1 ≤ most) (hb : Gd b) :
    ∃ l a' b', run fs (n + 3) 36 [.cell 0, .int most] (cs a b rest) = .ok (ti l) (cs a' b' rest) ∧ Sz l most ∧ Gd b' := by
  obtain ⟨r, a1, b1, e1, hr, g1⟩ := s_someI (n := n) (a := a) (b := b) (rest := rest ++ [⟨0, []⟩]) [0, 1, 2, 2, 3, 3, 4, 5] (by simp) (by simp) hb
  have hr2 : ∀ c ∈ ([0, 1, 2, 2, 3, 3, 4, 5] : List Int), 0 ≤ c ∧ c ≤ 5 := by decide
  have hr3 := hr2 r hr
  obtain ⟨ρ', μ', e, I⟩ := loop_inv (f := loopF (run fs (n + 2)) (.var 3) szB)
    (fun xs ρ μ' => ∃ (l : List Int) (a b : Int) (z3 z4 : Option D), μ' = cs a b (rest ++ [⟨0, l.map D.int⟩]) ∧ Gd b ∧ (∀ s ∈ l, 1 ≤ s ∧ s ≤ 6) ∧ prod l ≤ most ∧ l.length + xs.length ≤ 5 ∧ ρ = [some (.cell 0), some (.int most), some (.cell (rest.length + 1)), z3, z4])
    (xs := rngL 0 r) (ρ := [some (.cell 0), some (.int most), some (.cell (rest.length + 1)), none, none]) (μ := cs a1 b1 (rest ++ [⟨0, []⟩])) ⟨[], a1, b1, none, none, rfl, g1, by simp, h1, by rw [rng_len]; show 0 + _ ≤ 5; omega, rfl⟩
    (fun x r ρ μ' hI => by
      obtain ⟨l, a, b, z3, z4, rfl, g, hl, hp, hlen, rfl⟩ := hI
      obtain ⟨c, a', b', e, hc, g'⟩ := s_someI (n := n) (a := a) (b := b) (rest := rest ++ [⟨0, l.map D.int⟩]) [1, 2, 2, 2, 3, 3, 4, 5, 6] (by simp) (by simp) g
      have hc2 : ∀ c ∈ ([1, 2, 2, 2, 3, 3, 4, 5, 6] : List Int), 1 ≤ c ∧ c ≤ 6 := by decide
      have hc3 := hc2 c hc
      have q1 := s_lawNumberC (n := n + 1) (μ := cs a' b' (rest ++ [⟨0, l.map D.int⟩])) (rest.length + 1) l get_cs fun s hs => small_6 (hl s hs)
      have q2 : ∀ μ : Store, binD μ .Mult (.int (prod l)) (.int c) = some (.int (prod l * c)) := fun μ => mul_int (mul_small2 (small_6 hc3))
      simp only [List.map_cons, List.map_nil] at e
      rw [List.length_cons] at hlen
      have hsz : (l.map D.int).length < sizeLine := by
        have e3 : sizeLine = 16777216 := rfl
        rw [List.length_map]
        omega
      generalize run fs (n + 2) = cl at e q1 ⊢
      by_cases h : prod l * c ≤ most
      · refine ⟨[some (.cell 0), some (.int most), some (.cell (rest.length + 1)), some x, some (.int c)], cs a' b' (rest ++ [⟨0, (l ++ [c]).map D.int⟩]), ?_, l ++ [c], a', b', some x, some (.int c), rfl, g', fun s hs => ?_, by rw [prod_snoc]; exact h, by rw [List.length_append]; show l.length + 1 + _ ≤ 5; omega, rfl⟩
        · simp [loopF, fit_ok, e, q1, q2, le_int, h, mut_cs, set_cs, List.length_map, hsz]
          rw [List.length_map] at hsz
          exact hsz
        · rcases List.mem_append.mp hs with hs | hs
          · exact hl s hs
          · rw [List.mem_singleton.mp hs]
            exact hc3
      · refine ⟨[some (.cell 0), some (.int most), some (.cell (rest.length + 1)), some x, some (.int c)], cs a' b' (rest ++ [⟨0, l.map D.int⟩]), ?_, l, a', b', some x, some (.int c), rfl, g', hl, hp, by omega, rfl⟩
        simp [loopF, fit_ok, e, q1, q2, le_int, h])
  obtain ⟨l, a2, b2, z3, z4, rfl, g2, hl, hp, hlen, rfl⟩ := I
  refine ⟨l, a2, b2, ?_, ⟨by simpa using hlen, hl, hp⟩, g2⟩
  simp only [List.map_cons, List.map_nil] at e1
  have q6 : evI (run fs (n + 2)) (.rng1 (.call 32 (.cs (.var 0) (.cs (.lst (.cs (.int (0)) (.cs (.int (1)) (.cs (.int (2)) (.cs (.int (2)) (.cs (.int (3)) (.cs (.int (3)) (.cs (.int (4)) (.cs (.int (5)) .nl))))))))) .nl)))) [some (.cell 0), some (.int most), some (.cell (rest.length + 1)), none, none] (cs a b (rest ++ [⟨0, []⟩])) = .ok (rngL 0 r, none) (cs a1 b1 (rest ++ [⟨0, []⟩])) := rng1_go (by
    generalize run fs (n + 2) = cl at e1 ⊢
    simp [fit_ok, e1]) hr3.1 (by omega)
  rw [r_36]
  simp only [f_36]
  generalize run fs (n + 2) = cl at e q6 ⊢
  have s1 : exs cl (.set (.var 2) (.new (.lst .nl))) [some (.cell 0), some (.int most), none, none, none] (cs a b rest) = .ok (.nx [some (.cell 0), some (.int most), some (.cell (rest.length + 1)), none, none]) (cs a b (rest ++ [⟨0, []⟩])) := by
    simp [fit_ok, new_cs, len_cs]
  have s2 : exs cl (.loop (.var 3) (.rng1 (.call 32 (.cs (.var 0) (.cs (.lst (.cs (.int (0)) (.cs (.int (1)) (.cs (.int (2)) (.cs (.int (2)) (.cs (.int (3)) (.cs (.int (3)) (.cs (.int (4)) (.cs (.int (5)) .nl))))))))) .nl)))) szB) [some (.cell 0), some (.int most), some (.cell (rest.length + 1)), none, none] (cs a b (rest ++ [⟨0, []⟩])) = .ok (.nx [some (.cell 0), some (.int most), some (.cell (rest.length + 1)), z3, z4]) (cs a2 b2 (rest ++ [⟨0, l.map D.int⟩])) := by
    rw [exs_loop, q6, Rs.bind_ok, un_none]
    exact e
  rw [seq_run s1, seq_run s2]
  simp only [exs_ret, ev_bi, evs_cs, evs_nl, ev_frz, ev_var, List.getElem?_cons_zero, List.getElem?_cons_succ, Rs.bind_ok, frz_cs, tup_lst, Rs.of_some, leave_tup, take_cs]
end Tab
namespace Tab
open PySem DL DL.En
/-! drawn growing walks -/
theorem get_cs2 {a b : Int} {rest : Store} {c d : Cell} : (cs a b (rest ++ [c, d]))[rest.length + 2]? = some d := by simp [cs]
theorem get_cs1 {a b : Int} {rest : Store} {c d : Cell} : (cs a b (rest ++ [c, d]))[rest.length + 1]? = some c := by simp [cs]
theorem set_cs2 {a b : Int} {rest : Store} {c d e : Cell} : (cs a b (rest ++ [c, d])).set (rest.length + 2) e = cs a b (rest ++ [c, e]) := by simp [cs]
theorem set_cs1 {a b : Int} {rest : Store} {c d e : Cell} : (cs a b (rest ++ [c, d])).set (rest.length + 1) e = cs a b (rest ++ [e, d]) := by simp [cs]
theorem mut_cs2 {a b : Int} {rest : Store} {c : Cell} {xs : List D} : mutOf (cs a b (rest ++ [c, ⟨0, xs⟩])) (rest.length + 2) = some xs := mutOf_some.mpr get_cs2
abbrev pE (p : Pair) : (Int × Int) × Tu Int := (p.1, ⟨p.2⟩)
theorem ne_cellN {α : Type} [DecidableEq α] [En α] {μ : Store} {k st : Nat} (h : En.dp α ≤ 63) (xs : List α) (hk : μ[k]? = some ⟨st, xs.map en⟩) : cmpD μ .NotEq (.cell k) (.lst []) = some (decide (xs ≠ [])) := ne_cell h xs [] hk
theorem ne_pairs {μ : Store} {k st : Nat} (ps : List Pair) (hk : μ[k]? = some ⟨st, ps.map pD⟩) : cmpD μ .NotEq (.cell k) (.lst []) = some (decide (ps ≠ [])) := by
  have q := ne_cellN (α := (Int × Int) × Tu Int) (μ := μ) (k := k) (st := st) (by decide) (ps.map pE) (by rw [hk, List.map_map]; rfl)
  rw [q]
  cases ps <;> simp
theorem ne_sizes {μ : Store} {k st : Nat} (Z : List (Int × Int)) (hk : μ[k]? = some ⟨st, Z.map sD⟩) : cmpD μ .NotEq (.cell k) (.lst []) = some (decide (Z ≠ [])) := ne_cellN (α := Int × Int) (by decide) Z hk
/-- a drawn step -/
structure St (l : List Int) (B : Nat) : Prop where
  len : l.length ≤ 3
  last : ∀ h : l ≠ [], l.getLast h ≠ 0
  few : ∀ c ∈ l, c.natAbs ≤ B
theorem St.up {l : List Int} {B C : Nat} (h : St l B) (hb : B ≤ C) : St l C := ⟨h.len, h.last, fun c hc => Nat.le_trans (h.few c hc) hb⟩
theorem tm_step {l : List Int} {B : Nat} {s : Int × Int} (h : St l B) (hs : 1 ≤ s.1 ∧ s.1 ≤ 6) (hl : (tmL l s).length < 4) : St (tmL l s) (B * 6) := by
  refine ⟨by omega, fun hn => ?_, fun c hc => ?_⟩
  · unfold tmL at hn ⊢
    rw [List.getLast_map]
    have hne : (if s.2 = 1 ∧ l ≠ [] then 0 :: l else l) ≠ [] := by
      intro z
      rw [z] at hn
      exact hn rfl
    have g1 : ∀ (m : List Int) (hm : m ≠ []), m = 0 :: l → l ≠ [] → m.getLast hm ≠ 0 := fun m hm e hl0 => by
      subst e
      rw [List.getLast_cons hl0]
      exact h.last hl0
    have g2 : ∀ (m : List Int) (hm : m ≠ []), m = l → m.getLast hm ≠ 0 := fun m hm e => by
      subst e
      exact h.last hm
    have h2 : (if s.2 = 1 ∧ l ≠ [] then 0 :: l else l).getLast hne ≠ 0 := by
      by_cases hc : s.2 = 1 ∧ l ≠ []
      · exact g1 _ hne (if_pos hc) hc.2
      · exact g2 _ hne (if_neg hc)
    intro z
    rcases Int.mul_eq_zero.mp z with z | z
    · exact h2 z
    · omega
  · unfold tmL at hc
    obtain ⟨o, ho, rfl⟩ := List.mem_map.mp hc
    have ho2 : o.natAbs ≤ B := by
      by_cases hc : s.2 = 1 ∧ l ≠ []
      · rw [if_pos hc] at ho
        rcases List.mem_cons.mp ho with rfl | ho
        · exact Nat.zero_le _
        · exact h.few o ho
      · rw [if_neg hc] at ho
        exact h.few o ho
    rw [Int.natAbs_mul]
    exact Nat.mul_le_mul ho2 (by omega)
abbrev gwX : SX := .seq (.set (.var 6) (.call 40 (.cs (.var 0) (.cs (.int (2)) .nl)))) (.seq (.ife (.and (.cmp .NotEq (.var 3) (.lst .nl)) (.cmp .Eq (.call 31 (.cs (.var 0) (.cs (.int (2)) .nl))) (.int (0)))) (.seq (.set (.var 7) (.call 41 (.cs (.idx (.idx (.var 3) (.neg (.int (1)))) (.int (1))) (.cs (.idx (.idx (.var 3) (.neg (.int (1)))) (.int (0))) .nl)))) (.set (.var 6) (.ife (.cmp .Lt (.bi .len (.cs (.var 7) .nl)) (.int (4))) (.var 7) (.var 6)))) .skip) (.app 3 (.tup (.cs (.var 4) (.cs (.var 6) .nl)))))
theorem idx_last {μ : Store} {k st : Nat} {xs : List D} {d : D} (hk : μ[k]? = some ⟨st, xs ++ [d]⟩) : idxD μ (.cell k) (.int (-1)) = some d := by
  unfold idxD
  rw [seqOf_cell, hk]
  exact L2.atI_last xs d
theorem pow6 (k : Nat) (h : k ≤ 5) : 12 * 6 ^ k ≤ 2 ^ 20 := by
  have : 6 ^ k ≤ 6 ^ 5 := Nat.pow_le_pow_right (by decide) h
  omega
theorem gw_turn {n : Nat} {a b : Int} {rest : Store} (Z : List (Int × Int)) (ps : List Pair) (s : Int × Int) (v1 : D) (z5 z4 z6 z7 : Option D) (hb : Gd b) (hs : 1 ≤ s.1 ∧ s.1 ≤ 6) (hlen : ps.length < 5)
    (hst : ∀ p ∈ ps, St p.2 (12 * 6 ^ ps.length)) (hsz : ∀ p ∈ ps, 1 ≤ p.1.1 ∧ p.1.1 ≤ 6) :
    ∃ l a' b' z7', loopF (run fs (n + 3)) (.var 4) gwX (sD s) [some (.cell 0), some v1, some (.cell (rest.length + 1)), some (.cell (rest.length + 2)), z4, z5, z6, z7] (cs a b (rest ++ [⟨2, Z.map sD⟩, ⟨0, ps.map pD⟩]))
      = .ok (.nx [some (.cell 0), some v1, some (.cell (rest.length + 1)), some (.cell (rest.length + 2)), some (sD s), z5, some (ti l), z7']) (cs a' b' (rest ++ [⟨2, Z.map sD⟩, ⟨0, (ps ++ [(s, l)]).map pD⟩])) ∧ Gd b' ∧ St l (12 * 6 ^ (ps.length + 1)) := by
  obtain ⟨l, a1, b1, e1, hf, g1⟩ := s_lawForm (n := n) (a := a) (b := b) (rest := rest ++ [⟨2, Z.map sD⟩, ⟨0, ps.map pD⟩]) 2 (by decide) hb
  have hl1 : St l (12 * 6 ^ (ps.length + 1)) := ⟨by have := hf.len; omega, hf.last, fun c hc => Nat.le_trans (hf.few c hc) (by have := Nat.pow_pos (n := ps.length + 1) (show 0 < 6 by decide); omega)⟩
  have app : ∀ (cl : Calls) (l : List Int) (z : Option D) (a' b' : Int), exs cl (.app 3 (.tup (.cs (.var 4) (.cs (.var 6) .nl)))) [some (.cell 0), some v1, some (.cell (rest.length + 1)), some (.cell (rest.length + 2)), some (sD s), z5, some (ti l), z] (cs a' b' (rest ++ [⟨2, Z.map sD⟩, ⟨0, ps.map pD⟩])) = .ok (.nx [some (.cell 0), some v1, some (.cell (rest.length + 1)), some (.cell (rest.length + 2)), some (sD s), z5, some (ti l), z]) (cs a' b' (rest ++ [⟨2, Z.map sD⟩, ⟨0, (ps ++ [(s, l)]).map pD⟩])) := fun cl l z a' b' => by
    have hsl : (ps.map pD).length < sizeLine := by
      have e3 : sizeLine = 16777216 := rfl
      rw [List.length_map]
      omega
    rw [exs_app]
    simp only [List.getElem?_cons_zero, List.getElem?_cons_succ, ev_tup, evs_cs, evs_nl, ev_var, Rs.bind_ok, frzs_cons, frzs_nil, frz_tup, fit2, Option.map_some, Rs.of_some, mut_cs2, if_pos hsl, set_cs2, List.map_append, List.map_cons, List.map_nil]
    rfl
  have e1' : ∀ z4 z5 z6 z7 : Option D, exs (run fs (n + 3)) (.set (.var 6) (.call 40 (.cs (.var 0) (.cs (.int (2)) .nl)))) [some (.cell 0), some v1, some (.cell (rest.length + 1)), some (.cell (rest.length + 2)), z4, z5, z6, z7] (cs a b (rest ++ [⟨2, Z.map sD⟩, ⟨0, ps.map pD⟩])) = .ok (.nx [some (.cell 0), some v1, some (.cell (rest.length + 1)), some (.cell (rest.length + 2)), z4, z5, some (ti l), z7]) (cs a1 b1 (rest ++ [⟨2, Z.map sD⟩, ⟨0, ps.map pD⟩])) := fun z4 z5 z6 z7 => by
    have e1 : run fs (n + 3) 40 [.cell 0, .int 2] _ = _ := e1
    generalize run fs (n + 3) = cl at e1 ⊢
    simp [e1]
  have c1 := ne_pairs (μ := cs a1 b1 (rest ++ [⟨2, Z.map sD⟩, ⟨0, ps.map pD⟩])) (k := rest.length + 2) ps get_cs2
  obtain ⟨r, a2, b2, e2, r0, r1, g2⟩ := s_rollI (n := n + 2) (a := a1) (b := b1) (rest := rest ++ [⟨2, Z.map sD⟩, ⟨0, ps.map pD⟩]) 2 (by decide) (by decide) g1
  by_cases hn : ps = []
  · subst hn
    refine ⟨l, a1, b1, z7, ?_, g1, hl1⟩
    rw [decide_eq_false (fun z => z rfl)] at c1
    unfold loopF
    rw [show Rs.of (asg (.var 4) (sD s) [some (.cell 0), some v1, some (.cell (rest.length + 1)), some (.cell (rest.length + 2)), z4, z5, z6, z7]) _ = .ok [some (.cell 0), some v1, some (.cell (rest.length + 1)), some (.cell (rest.length + 2)), some (sD s), z5, z6, z7] _ from rfl, Rs.bind_ok, seq_run (e1' _ _ _ _)]
    generalize run fs (n + 3) = cl
    rw [seq_run (ρ1 := [some (.cell 0), some v1, some (.cell (rest.length + 1)), some (.cell (rest.length + 2)), some (sD s), z5, some (ti l), z7]) (μ1 := cs a1 b1 (rest ++ [⟨2, Z.map sD⟩, ⟨0, List.map pD []⟩]))]
    · exact app cl l z7 a1 b1
    · simp only [exs_ife, ev_and, ev_cmp, ev_var, List.getElem?_cons_zero, List.getElem?_cons_succ, Rs.bind_ok, ev_lst, evs_nl, mkL_ok, frzs_nil, fit0, Rs.of_some, c1, Option.map_some, onB_bl, Bool.false_eq_true, if_false, exs_skip]
  · rw [decide_eq_true hn] at c1
    by_cases hr : r = 0
    · obtain ⟨qs, q, rfl⟩ : ∃ qs q, ps = qs ++ [q] := ⟨ps.dropLast, ps.getLast hn, (List.dropLast_concat_getLast hn).symm⟩
      have hq := hst q (by simp)
      have hq2 := hsz q (by simp)
      have i1 : idxD (cs a2 b2 (rest ++ [⟨2, Z.map sD⟩, ⟨0, (qs ++ [q]).map pD⟩])) (.cell (rest.length + 2)) (.int (-1)) = some (pD q) := idx_last (xs := qs.map pD) (by rw [get_cs2, List.map_append]; rfl)
      have i2 : ∀ μ : Store, idxD μ (pD q) (.int 1) = some (ti q.2) := fun μ => idx_nat (k := 1) rfl rfl
      have i3 : ∀ μ : Store, idxD μ (pD q) (.int 0) = some (sD q.1) := fun μ => idx_nat (k := 0) rfl rfl
      have t1 := s_lawTimes (n := n + 2) (μ := cs a2 b2 (rest ++ [⟨2, Z.map sD⟩, ⟨0, (qs ++ [q]).map pD⟩])) q.2 q.1 (by have := hq.len; omega) (small_6 hq2)
      subst hr
      have key : ∃ l', St l' (12 * 6 ^ ((qs ++ [q]).length + 1)) ∧ l' = (if (tmL q.2 q.1).length < 4 then tmL q.2 q.1 else l) := by
        refine ⟨_, ?_, rfl⟩
        split
        · rename_i h4
          have := tm_step hq hq2 h4
          rw [Nat.mul_assoc, ← Nat.pow_succ] at this
          exact this
        · exact hl1
      obtain ⟨l', hl', el⟩ := key
      refine ⟨l', a2, b2, some (ti (tmL q.2 q.1)), ?_, g2, hl'⟩
      unfold loopF
      rw [show Rs.of (asg (.var 4) (sD s) [some (.cell 0), some v1, some (.cell (rest.length + 1)), some (.cell (rest.length + 2)), z4, z5, z6, z7]) _ = .ok [some (.cell 0), some v1, some (.cell (rest.length + 1)), some (.cell (rest.length + 2)), some (sD s), z5, z6, z7] _ from rfl, Rs.bind_ok, seq_run (e1' _ _ _ _)]
      have e2 : run fs (n + 3) 31 [.cell 0, .int 2] _ = _ := e2
      have t1 : run fs (n + 3) 41 [ti q.2, sD q.1] _ = _ := t1
      generalize run fs (n + 3) = cl at e2 t1 ⊢
      rw [seq_run (ρ1 := [some (.cell 0), some v1, some (.cell (rest.length + 1)), some (.cell (rest.length + 2)), some (sD s), z5, some (ti l'), some (ti (tmL q.2 q.1))]) (μ1 := cs a2 b2 (rest ++ [⟨2, Z.map sD⟩, ⟨0, List.map pD (qs ++ [q])⟩]))]
      · exact app cl l' _ a2 b2
      · simp only [exs_ife, ev_and, ev_cmp, ev_var, List.getElem?_cons_zero, List.getElem?_cons_succ, Rs.bind_ok, ev_lst, evs_nl, mkL_ok, frzs_nil, fit0, Rs.of_some, c1, Option.map_some, onB_bl, if_true, ev_call, evs_cs, ev_int, e2, eq_int, decide_true, exs_seq, exs_set, ev_idx, ev_neg, i1, i2, i3, t1, asg_var, List.length_cons, List.length_nil]
        simp only [Nat.reduceAdd, Nat.reduceLT, if_true, List.set_cons_succ, List.set_cons_zero, Rs.of_some, Rs.bind_ok, ev_ife, ev_cmp, ev_bi, evs_cs, evs_nl, ev_var, List.getElem?_cons_zero, List.getElem?_cons_succ, len_tup, ev_int, lt_int, Option.map_some, onB_bl, List.length_map]
        by_cases h4 : (tmL q.2 q.1).length < 4
        · have h5 : ((tmL q.2 q.1).length : Int) < 4 := by omega
          rw [el, if_pos h4]
          simp [h5]
        · have h5 : ¬ ((tmL q.2 q.1).length : Int) < 4 := by omega
          rw [el, if_neg h4]
          simp [h5]
    · refine ⟨l, a2, b2, z7, ?_, g2, hl1⟩
      unfold loopF
      rw [show Rs.of (asg (.var 4) (sD s) [some (.cell 0), some v1, some (.cell (rest.length + 1)), some (.cell (rest.length + 2)), z4, z5, z6, z7]) _ = .ok [some (.cell 0), some v1, some (.cell (rest.length + 1)), some (.cell (rest.length + 2)), some (sD s), z5, z6, z7] _ from rfl, Rs.bind_ok, seq_run (e1' _ _ _ _)]
      have e2 : run fs (n + 3) 31 [.cell 0, .int 2] _ = _ := e2
      generalize run fs (n + 3) = cl at e2 ⊢
      rw [seq_run (ρ1 := [some (.cell 0), some v1, some (.cell (rest.length + 1)), some (.cell (rest.length + 2)), some (sD s), z5, some (ti l), z7]) (μ1 := cs a2 b2 (rest ++ [⟨2, Z.map sD⟩, ⟨0, List.map pD ps⟩]))]
      · exact app cl l z7 a2 b2
      · simp only [exs_ife, ev_and, ev_cmp, ev_var, List.getElem?_cons_zero, List.getElem?_cons_succ, Rs.bind_ok, ev_lst, evs_nl, mkL_ok, frzs_nil, fit0, Rs.of_some, c1, Option.map_some, onB_bl, if_true, ev_call, evs_cs, ev_int, e2, eq_int, decide_eq_false hr, Bool.false_eq_true, if_false, exs_skip]
end Tab
namespace Tab
open PySem DL
theorem ix_nat {n j : Nat} (h : j < n) : L2.ixN n (j : Int) = some j := by
  unfold L2.ixN
  rw [if_pos (by omega), if_pos (by omega)]
  simp
theorem set_cell {μ : Store} {k m : Nat} {xs : List D} {d : D} (h : μ[k]? = some ⟨0, xs⟩) (hm : m < xs.length) : setD μ (.cell k) (.int (m : Nat)) d = some (μ.set k ⟨0, xs.set m d⟩) := by
  show (match mutOf μ k with
    | some xs => (L2.ixN xs.length (m : Int)).map fun q => μ.set k ⟨0, xs.set q d⟩
    | none => none) = _
  rw [mutOf_some.mpr h]
  dsimp only
  rw [ix_nat hm]
  rfl
/-- drawn sizes, one of them growing perhaps -/
structure Zz (Z : List (Int × Int)) : Prop where
  len : Z.length ≤ 5
  rng : ∀ s ∈ Z, 1 ≤ s.1 ∧ s.1 ≤ 6 ∧ 0 ≤ s.2 ∧ s.2 ≤ 1
  num : prod (Z.map (·.1)) ≤ 60
  one : (Z.map (·.2)).sum ≤ 1
def zz0 (L : List Int) : List (Int × Int) := L.map fun s => (s, 0)
theorem zz_fst (L : List Int) : (zz0 L).map (·.1) = L := by
  unfold zz0
  rw [List.map_map]
  exact List.map_id _
theorem zz_snd : ∀ L : List Int, ((zz0 L).map (·.2)).sum = 0
  | [] => rfl
  | s :: L => by
    show (0 : Int) + ((zz0 L).map (·.2)).sum = 0
    rw [zz_snd L]
    rfl
theorem zz_ok {L : List Int} (h : Sz L 60) : Zz (zz0 L) := by
  refine ⟨by unfold zz0; rw [List.length_map]; exact h.len, fun s hs => ?_, by rw [zz_fst]; exact h.fit, by rw [zz_snd]; decide⟩
  unfold zz0 at hs
  obtain ⟨c, hc, rfl⟩ := List.mem_map.mp hs
  have := h.rng c hc
  exact ⟨this.1, this.2, by show (0 : Int) ≤ 0; omega, by show (0 : Int) ≤ 1; omega⟩
theorem set_fst : ∀ (L : List Int) (j : Nat) (s : Int), L[j]? = some s → ((zz0 L).set j (s, 1)).map (·.1) = L
  | [], j, s, h => by simp at h
  | c :: L, 0, s, h => by
    cases h
    show c :: (zz0 L).map (·.1) = _
    rw [zz_fst]
  | c :: L, j + 1, s, h => by
    show c :: ((zz0 L).set j (s, 1)).map (·.1) = _
    rw [set_fst L j s (by simpa using h)]
theorem set_snd : ∀ (L : List Int) (j : Nat) (s : Int), (((zz0 L).set j (s, 1)).map (·.2)).sum ≤ 1
  | [], j, s => by show (0 : Int) ≤ 1; decide
  | c :: L, 0, s => by
    show (1 : Int) + ((zz0 L).map (·.2)).sum ≤ 1
    rw [zz_snd]
    decide
  | c :: L, j + 1, s => by
    show (0 : Int) + (((zz0 L).set j (s, 1)).map (·.2)).sum ≤ 1
    rw [Int.zero_add]
    exact set_snd L j s
theorem zz_set {L : List Int} (h : Sz L 60) {j : Nat} {s : Int} (hj : L[j]? = some s) : Zz ((zz0 L).set j (s, 1)) := by
  refine ⟨by unfold zz0; rw [List.length_set, List.length_map]; exact h.len, fun t ht => ?_, by rw [set_fst L j s hj]; exact h.fit, set_snd L j s⟩
  rcases List.mem_or_eq_of_mem_set ht with ht | rfl
  · exact (zz_ok h).rng t ht
  · have := h.rng s (List.mem_of_getElem? hj)
    exact ⟨this.1, this.2, by show (0 : Int) ≤ 1; omega, by show (1 : Int) ≤ 1; omega⟩
theorem len_cell {μ : Store} {k st : Nat} {xs : List D} (h : μ[k]? = some ⟨st, xs⟩) : biD μ .len [.cell k] = some (.int xs.length) := by
  show (seqOf μ (.cell k)).map (fun xs => D.int xs.length) = _
  rw [seqOf_cell, h]
  rfl
abbrev zzX : SX := .ife (.and (.cmp .NotEq (.var 2) (.lst .nl)) (.cmp .Gt (.call 31 (.cs (.var 0) (.cs (.int (5)) .nl))) (.int (0)))) (.seq (.set (.var 5) (.call 31 (.cs (.var 0) (.cs (.bi .len (.cs (.var 2) .nl)) .nl)))) (.sub (.var 2) (.var 5) (.tup (.cs (.idx (.idx (.var 2) (.var 5)) (.int (0))) (.cs (.int (1)) .nl))))) .skip
theorem zz_run {n : Nat} {a b : Int} {rest : Store} {L : List Int} (h : Sz L 60) (v1 : D) (hb : Gd b) :
    ∃ Z a' b' z5, exs (run fs (n + 1)) zzX [some (.cell 0), some v1, some (.cell (rest.length + 1)), none, none, none, none, none] (cs a b (rest ++ [⟨0, (zz0 L).map sD⟩]))
      = .ok (.nx [some (.cell 0), some v1, some (.cell (rest.length + 1)), none, none, z5, none, none]) (cs a' b' (rest ++ [⟨0, Z.map sD⟩])) ∧ Zz Z ∧ Gd b' := by
  have c1 := ne_sizes (μ := cs a b (rest ++ [⟨0, (zz0 L).map sD⟩])) (k := rest.length + 1) (zz0 L) get_cs
  obtain ⟨r, a1, b1, e1, r0, r1, g1⟩ := s_rollI (n := n) (a := a) (b := b) (rest := rest ++ [⟨0, (zz0 L).map sD⟩]) 5 (by decide) (by decide) hb
  by_cases hn : zz0 L = []
  · refine ⟨zz0 L, a, b, none, ?_, zz_ok h, hb⟩
    rw [decide_eq_false (fun z => z hn)] at c1
    generalize run fs (n + 1) = cl at e1 ⊢
    simp only [exs_ife, ev_and, ev_cmp, ev_var, List.getElem?_cons_zero, List.getElem?_cons_succ, Rs.bind_ok, ev_lst, evs_nl, mkL_ok, frzs_nil, fit0, Rs.of_some, c1, Option.map_some, onB_bl, Bool.false_eq_true, if_false, exs_skip]
  · rw [decide_eq_true hn] at c1
    by_cases hr : 0 < r
    · have hlen : (zz0 L).length = L.length := by unfold zz0; rw [List.length_map]
      have hpos : 0 < L.length := by
        rw [← hlen]
        exact List.length_pos_iff.mpr hn
      have h5 := h.len
      obtain ⟨j, a2, b2, e2, j0, j1, g2⟩ := s_rollI (n := n) (a := a1) (b := b1) (rest := rest ++ [⟨0, (zz0 L).map sD⟩]) (L.length : Int) (by omega) (by omega) g1
      have hj : j.toNat < L.length := by omega
      have ej : j = ((j.toNat : Nat) : Int) := by omega
      generalize j.toNat = m at hj ej
      subst ej
      have l1 : biD (cs a1 b1 (rest ++ [⟨0, (zz0 L).map sD⟩])) .len [.cell (rest.length + 1)] = some (.int (L.length : Nat)) := by
        rw [len_cell get_cs, List.length_map, hlen]
      have hz : (zz0 L)[m]? = some (L[m], 0) := by
        unfold zz0
        rw [List.getElem?_map, List.getElem?_eq_getElem hj]
        rfl
      have i1 : idxD (cs a2 b2 (rest ++ [⟨0, (zz0 L).map sD⟩])) (.cell (rest.length + 1)) (.int (m : Nat)) = some (sD (L[m], 0)) := idx_nat (by rw [seqOf_cell, get_cs]; rfl) (by
        show ((zz0 L).map sD)[m]? = _
        rw [List.getElem?_map, hz]
        rfl)
      have i2 : ∀ μ : Store, idxD μ (sD (L[m], 0)) (.int 0) = some (.int L[m]) := fun μ => idx_nat (k := 0) rfl rfl
      have st1 : setD (cs a2 b2 (rest ++ [⟨0, (zz0 L).map sD⟩])) (.cell (rest.length + 1)) (.int (m : Nat)) (.tup [.int L[m], .int 1]) = some (cs a2 b2 (rest ++ [⟨0, ((zz0 L).set m (L[m], 1)).map sD⟩])) := by
        rw [set_cell get_cs (by rw [List.length_map, hlen]; exact hj), set_cs, List.map_set]
        rfl
      refine ⟨(zz0 L).set m (L[m], 1), a2, b2, some (.int (m : Nat)), ?_, zz_set h (List.getElem?_eq_getElem hj), g2⟩
      generalize run fs (n + 1) = cl at e1 e2 ⊢
      simp only [exs_ife, ev_and, ev_cmp, ev_var, List.getElem?_cons_zero, List.getElem?_cons_succ, Rs.bind_ok, ev_lst, evs_nl, mkL_ok, frzs_nil, fit0, Rs.of_some, c1, Option.map_some, onB_bl, if_true, ev_call, evs_cs, ev_int, e1, gt_int, decide_eq_true hr, exs_seq, exs_set, ev_bi, l1, e2, asg_var, List.length_cons, List.length_nil, Nat.reduceAdd, Nat.reduceLT, List.set_cons_succ, List.set_cons_zero, exs_sub, ev_tup, ev_idx, i1, i2, frzs_cons, frz_int, fit2, frz_tup, st1]
    · refine ⟨zz0 L, a1, b1, none, ?_, zz_ok h, g1⟩
      generalize run fs (n + 1) = cl at e1 ⊢
      simp only [exs_ife, ev_and, ev_cmp, ev_var, List.getElem?_cons_zero, List.getElem?_cons_succ, Rs.bind_ok, ev_lst, evs_nl, mkL_ok, frzs_nil, fit0, Rs.of_some, c1, Option.map_some, onB_bl, if_true, ev_call, evs_cs, ev_int, e1, gt_int, decide_eq_false hr, Bool.false_eq_true, if_false, exs_skip]
/-- a drawn growing walk -/
structure Gw (b0 : List Int) (ps : List Pair) : Prop where
  beg : Fo b0 2
  len : ps.length ≤ 5
  step : ∀ p ∈ ps, St p.2 (2 ^ 20)
  size : Zz (ps.map (·.1))
theorem gw_loop {n : Nat} {a b : Int} {rest : Store} (Z : List (Int × Int)) (hZ : Zz Z) (v1 : D) (z5 : Option D) (hb : Gd b) :
    ∃ (ps : List Pair) (a' b' : Int) (z4 z6 z7 : Option D), loopL (loopF (run fs (n + 3)) (.var 4) gwX) (Z.map sD) [some (.cell 0), some v1, some (.cell (rest.length + 1)), some (.cell (rest.length + 2)), none, z5, none, none] (cs a b (rest ++ [⟨2, Z.map sD⟩, ⟨0, []⟩]))
      = .ok (.nx [some (.cell 0), some v1, some (.cell (rest.length + 1)), some (.cell (rest.length + 2)), z4, z5, z6, z7]) (cs a' b' (rest ++ [⟨2, Z.map sD⟩, ⟨0, ps.map pD⟩])) ∧ Gd b' ∧ ps.map (·.1) = Z ∧ ∀ p ∈ ps, St p.2 (2 ^ 20) := by
  obtain ⟨ρ', μ', e, I⟩ := loop_inv (f := loopF (run fs (n + 3)) (.var 4) gwX)
    (fun xs ρ μ' => ∃ (ps : List Pair) (T : List (Int × Int)) (a b : Int) (z4 z6 z7 : Option D), Z = ps.map (·.1) ++ T ∧ xs = T.map sD ∧ μ' = cs a b (rest ++ [⟨2, Z.map sD⟩, ⟨0, ps.map pD⟩]) ∧ Gd b ∧ (∀ p ∈ ps, St p.2 (12 * 6 ^ ps.length)) ∧ ρ = [some (.cell 0), some v1, some (.cell (rest.length + 1)), some (.cell (rest.length + 2)), z4, z5, z6, z7])
    (xs := Z.map sD) (ρ := [some (.cell 0), some v1, some (.cell (rest.length + 1)), some (.cell (rest.length + 2)), none, z5, none, none]) (μ := cs a b (rest ++ [⟨2, Z.map sD⟩, ⟨0, []⟩])) ⟨[], Z, a, b, none, none, none, rfl, rfl, rfl, hb, by simp, rfl⟩
    (fun x r ρ μ' hI => by
      obtain ⟨ps, T, a, b, z4, z6, z7, hz, hx, rfl, g, hst, rfl⟩ := hI
      cases T with
      | nil => cases hx
      | cons s T =>
        rw [List.map_cons] at hx
        injection hx with hx1 hx2
        subst hx1
        have hlen : ps.length < 5 := by
          have h1 := hZ.len
          rw [hz, List.length_append, List.length_map, List.length_cons] at h1
          omega
        have hs := hZ.rng s (by rw [hz]; simp)
        obtain ⟨l, a', b', z7', e, g', hl⟩ := gw_turn (n := n) (a := a) (b := b) (rest := rest) Z ps s v1 z5 z4 z6 z7 g ⟨hs.1, hs.2.1⟩ hlen hst (fun p hp => by
          have := hZ.rng p.1 (by rw [hz]; exact List.mem_append_left _ (List.mem_map_of_mem hp))
          exact ⟨this.1, this.2.1⟩)
        refine ⟨_, _, e, ps ++ [(s, l)], T, a', b', some (sD s), some (ti l), z7', by rw [hz, List.map_append, List.append_assoc]; rfl, hx2, rfl, g', fun p hp => ?_, rfl⟩
        rw [List.length_append]
        rcases List.mem_append.mp hp with hp | hp
        · refine (hst p hp).up (Nat.mul_le_mul_left _ (Nat.pow_le_pow_right (by decide) ?_))
          show ps.length ≤ ps.length + 1
          omega
        · rw [List.mem_singleton.mp hp]
          exact hl)
  obtain ⟨ps, T, a', b', z4, z6, z7, hz, hx, rfl, g, hst, rfl⟩ := I
  have hT : T = [] := by cases T with
    | nil => rfl
    | cons _ _ => cases hx
  subst hT
  rw [List.append_nil] at hz
  have hlen : ps.length ≤ 5 := by
    have h1 := hZ.len
    rw [hz, List.length_map] at h1
    exact h1
  exact ⟨ps, a', b', z4, z6, z7, e, g, hz.symm, fun p hp => (hst p hp).up (pow6 _ hlen)⟩
end Tab
namespace Tab
open PySem DL
theorem lock_cs {a b : Int} {rest : Store} {c : Cell} {xs : List D} : locked (cs a b (rest ++ [⟨0, xs⟩, c])) (some (rest.length + 1)) = cs a b (rest ++ [⟨2, xs⟩, c]) := by
  rw [locked_some get_cs1, set_cs1]
theorem unlock_cs {a b : Int} {rest : Store} {c : Cell} {xs : List D} : unlocked (cs a b (rest ++ [⟨2, xs⟩, c])) (some (rest.length + 1)) = cs a b (rest ++ [⟨0, xs⟩, c]) := by
  rw [unlocked_two get_cs1, set_cs1]
theorem frz_cs2 {a b : Int} {rest : Store} {c d : Cell} : frz (.cell (rest.length + 2)) (cs a b (rest ++ [c, d])) = .ok (.lst d.xs) (cs a b (rest ++ [c, ⟨1, d.xs⟩])) := by
  unfold frz
  dsimp only
  rw [get_cs2]
  dsimp only
  rw [set_cs2]
theorem take_cs2 {a b a' b' : Int} {rest : Store} {c d : Cell} : (cs a b (rest ++ [c, d])).take (cs a' b' rest).length = cs a b rest := by
  rw [len_cs]
  simp [cs]
theorem new_cs2 {a b : Int} {rest : Store} {c d : Cell} : cs a b (rest ++ [c]) ++ [d] = cs a b (rest ++ [c, d]) := by simp [cs]
theorem len_cs1 {a b : Int} {rest : Store} {c : Cell} : (cs a b (rest ++ [c])).length = rest.length + 2 := by simp [cs]
theorem s_lawGrowing {n : Nat} {a b : Int} {rest : Store} (hb : Gd b) :
    ∃ b0 ps a' b', run fs (n + 4) 42 [.cell 0, .int 60] (cs a b rest) = .ok (gD b0 ps) (cs a' b' rest) ∧ Gw b0 ps ∧ Gd b' := by
  obtain ⟨L, a1, b1, e1, hL, g1⟩ := s_lawSizes (n := n) (a := a) (b := b) (rest := rest) 60 (by decide) hb
  obtain ⟨Z, a2, b2, z5, e2, hZ, g2⟩ := zz_run (n := n + 2) (a := a1) (b := b1) (rest := rest) hL (.int 60) g1
  obtain ⟨ps, a3, b3, z4, z6, z7, e3, g3, hps, hst⟩ := gw_loop (n := n) (a := a2) (b := b2) (rest := rest) Z hZ (.int 60) z5 g2
  obtain ⟨b0, a4, b4, e4, hf, g4⟩ := s_lawForm (n := n) (a := a3) (b := b3) (rest := rest ++ [⟨0, Z.map sD⟩, ⟨0, ps.map pD⟩]) 2 (by decide) g3
  have hlen : ps.length ≤ 5 := by
    have := hZ.len
    rw [← hps, List.length_map] at this
    exact this
  refine ⟨b0, ps, a4, b4, ?_, ⟨hf, hlen, hst, by rw [hps]; exact hZ⟩, g4⟩
  have e2 : exs (run fs (n + 3)) zzX _ _ = _ := e2
  have e4 : run fs (n + 3) 40 [.cell 0, .int 2] _ = _ := e4
  have q1 : compR (.ok (L.map D.int, none) (cs a1 b1 rest)) (turn (run fs (n + 3)) [4] (.tup (.cs (.var 4) (.cs (.int 0) .nl))) (.var 4) .nl [some (.cell 0), some (.int 60), none, none, none, none, none, none]) = .ok ((zz0 L).map sD) (cs a1 b1 rest) := by
    rw [compR_map (g := fun d => .tup [d, .int 0]) (fun x hx => by
      obtain ⟨s, _, rfl⟩ := List.mem_map.mp hx
      simp [turn, fit2]) (line_big (by rw [List.length_map]; have := hL.len; omega)), List.map_map]
    unfold zz0
    rw [List.map_map]
    rfl
  rw [r_42]
  simp only [f_42]
  generalize run fs (n + 3) = cl at e1 e2 e3 e4 q1 ⊢
  have s1 : exs cl (.set (.var 2) (.new (.comp [4] (.tup (.cs (.var 4) (.cs (.int 0) .nl))) (.var 4) (.one (.call 36 (.cs (.var 0) (.cs (.var 1) .nl)))) .nl))) [some (.cell 0), some (.int 60), none, none, none, none, none, none] (cs a b rest) = .ok (.nx [some (.cell 0), some (.int 60), some (.cell (rest.length + 1)), none, none, none, none, none]) (cs a1 b1 (rest ++ [⟨0, (zz0 L).map sD⟩])) := by
    simp only [exs_set, ev_new, evL_comp, evI_one, ev_call, evs_cs, evs_nl, ev_var, List.getElem?_cons_zero, List.getElem?_cons_succ, Rs.bind_ok, e1, seqOf_tup, lockOf_tup, q1, asg_var, List.length_cons, List.length_nil, Nat.reduceAdd, Nat.reduceLT, if_true, Rs.of_some, List.set_cons_succ, List.set_cons_zero, new_cs, len_cs]
  have s3 : exs cl (.set (.var 3) (.new (.lst .nl))) [some (.cell 0), some (.int 60), some (.cell (rest.length + 1)), none, none, z5, none, none] (cs a2 b2 (rest ++ [⟨0, Z.map sD⟩])) = .ok (.nx [some (.cell 0), some (.int 60), some (.cell (rest.length + 1)), some (.cell (rest.length + 2)), none, z5, none, none]) (cs a2 b2 (rest ++ [⟨0, Z.map sD⟩, ⟨0, []⟩])) := by
    simp only [exs_set, ev_new, evL_lst, evs_nl, mkL_ok, frzs_nil, fit0, Rs.of_some, Rs.bind_ok, asg_var, List.length_cons, List.length_nil, Nat.reduceAdd, Nat.reduceLT, if_true, List.set_cons_succ, List.set_cons_zero, new_cs2, len_cs1]
  have s4 : exs cl (.loop (.var 4) (.one (.var 2)) gwX) [some (.cell 0), some (.int 60), some (.cell (rest.length + 1)), some (.cell (rest.length + 2)), none, z5, none, none] (cs a2 b2 (rest ++ [⟨0, Z.map sD⟩, ⟨0, []⟩])) = .ok (.nx [some (.cell 0), some (.int 60), some (.cell (rest.length + 1)), some (.cell (rest.length + 2)), z4, z5, z6, z7]) (cs a3 b3 (rest ++ [⟨0, Z.map sD⟩, ⟨0, ps.map pD⟩])) := by
    rw [exs_loop, evI_cell (k := rest.length + 1) (xs := Z.map sD) rfl get_cs1, Rs.bind_ok]
    show (loopL (loopF cl (.var 4) gwX) (Z.map sD) _ (locked _ (some (rest.length + 1)))).un (some (rest.length + 1)) = _
    rw [lock_cs, e3]
    show Rs.ok _ (unlocked _ (some (rest.length + 1))) = _
    rw [unlock_cs]
  rw [seq_run s1, seq_run e2, seq_run s3, seq_run s4]
  simp only [exs_ret, ev_tup, evs_cs, evs_nl, ev_call, ev_var, ev_int, ev_bi, ev_frz, List.getElem?_cons_zero, List.getElem?_cons_succ, Rs.bind_ok, e4, frz_cs2, tup_lst, Rs.of_some, frzs_cons, frzs_nil, frz_tup, fit2, Option.map_some, leave_tup, take_cs2]
end Tab
namespace Tab
open PySem DL
theorem val_few {n : Nat} {μ : Store} (l : List Int) (m : Int) (hl : l.length ≤ 5) (hb : ∀ a ∈ l, a.natAbs ≤ 2 ^ 20) (hm : m.natAbs ≤ 2 ^ 40) : run fs (n + 2) 37 [ti l, .int m] μ = .ok (.int (pv l m)) μ := s_lawValueG (B := 20) (M := 40) l m hl hb hm (by decide)
theorem val_size {m : Int} (h : 1 ≤ m ∧ m ≤ 1000000000) : m.natAbs ≤ 2 ^ 40 := by
  have : (1000000000 : Nat) ≤ 2 ^ 40 := by decide
  omega
theorem fo_bd {l : List Int} {k : Nat} (h : Fo l k) : ∀ a ∈ l, a.natAbs ≤ 2 ^ 20 := fun a ha => Nat.le_trans (h.few a ha) (by decide)
theorem s_lawAt {n : Nat} {μ : Store} (b0 : List Int) (ps : List Pair) (m : Int) (hg : Gw b0 ps) (h : 1 ≤ m ∧ m ≤ 1000000000) : run fs (n + 3) 43 [gD b0 ps, .int m] μ = .ok (walkN b0 ps m) μ := by
  have v1 := val_few (n := n) (μ := μ) b0 m (by have := hg.beg.len; omega) (fo_bd hg.beg) (val_size h)
  have i0 : idxD μ (gD b0 ps) (.int 0) = some (ti b0) := idx_nat (k := 0) rfl rfl
  have i1 : idxD μ (gD b0 ps) (.int 1) = some (.tup (ps.map pD)) := idx_nat (k := 1) rfl rfl
  have q : compR (.ok (ps.map pD, none) μ) (turn (run fs (n + 2)) [3, 4] (.tup (.cs (.ife (.cmp .Eq (.idx (.var 3) (.int 1)) (.int 1)) (.bin .Mult (.idx (.var 3) (.int 0)) (.var 1)) (.idx (.var 3) (.int 0))) (.cs (.call 37 (.cs (.var 4) (.cs (.var 1) .nl))) .nl))) (.tup (.cs (.var 3) (.cs (.var 4) .nl))) .nl [some (gD b0 ps), some (.int m), none, none, none])
      = .ok (ps.map fun p => .tup [.int (if p.1.2 = 1 then p.1.1 * m else p.1.1), .int (pv p.2 m)]) μ := by
    rw [compR_map (g := fun d => match d with
      | .tup [.tup [.int a, .int f], .tup xs] => .tup [.int (if f = 1 then a * m else a), .int (pv ((intsOf xs).getD []) m)]
      | d => d) (fun x hx => by
        obtain ⟨p, hp, rfl⟩ := List.mem_map.mp hx
        have s2 := val_few (n := n) (μ := μ) p.2 m (by have := (hg.step p hp).len; omega) (hg.step p hp).few (val_size h)
        have j0 : idxD μ (sD p.1) (.int 0) = some (.int p.1.1) := idx_nat (k := 0) rfl rfl
        have j1 : idxD μ (sD p.1) (.int 1) = some (.int p.1.2) := idx_nat (k := 1) rfl rfl
        have e3 : (intsOf (p.2.map D.int)).getD [] = p.2 := by rw [intsOf_map]; rfl
        have hm : binD μ .Mult (.int p.1.1) (.int m) = some (.int (p.1.1 * m)) := mul_int (mul_small2 (small_val h))
        rw [turn0 (ρ1 := [some (gD b0 ps), some (.int m), none, some (sD p.1), some (ti p.2)]) rfl]
        generalize run fs (n + 2) = cl at s2 ⊢
        have e4 : ev cl (.ife (.cmp .Eq (.idx (.var 3) (.int 1)) (.int 1)) (.bin .Mult (.idx (.var 3) (.int 0)) (.var 1)) (.idx (.var 3) (.int 0))) [some (gD b0 ps), some (.int m), none, some (sD p.1), some (ti p.2)] μ = .ok (.int (if p.1.2 = 1 then p.1.1 * m else p.1.1)) μ := by
          simp only [ev_ife, ev_cmp, ev_idx, ev_var, List.getElem?_cons_zero, List.getElem?_cons_succ, Rs.bind_ok, ev_int, j0, j1, Rs.of_some, eq_int, Option.map_some, onB_bl, ev_bin, hm]
          by_cases h1 : p.1.2 = 1 <;> simp [h1]
        rw [ev_tup, evs_cs, e4]
        simp only [Rs.bind_ok, evs_cs, evs_nl, ev_call, ev_var, List.getElem?_cons_zero, List.getElem?_cons_succ, s2, frzs_cons, frzs_nil, frz_int, fit2, Option.map_some, Rs.of_some, keepE_ok, frz_tup]
        show _ = Rs.ok (some (D.tup [.int (if p.1.2 = 1 then p.1.1 * m else p.1.1), .int (pv ((intsOf (p.2.map D.int)).getD []) m)])) μ
        rw [e3]) (line_big (by rw [List.length_map]; have := hg.len; omega)), List.map_map]
    congr 1
    apply List.map_congr_left
    intro p _
    show D.tup [.int _, .int (pv ((intsOf (p.2.map D.int)).getD []) m)] = _
    rw [intsOf_map]
    rfl
  rw [r_43]
  simp only [f_43]
  generalize run fs (n + 2) = cl at v1 q ⊢
  simp only [exs_seq, exs_set, ev_comp, evI_one, ev_idx, ev_var, ev_int, List.getElem?_cons_zero, List.getElem?_cons_succ, Rs.bind_ok, i0, i1, Rs.of_some, seqOf_tup, lockOf_tup, q, asg_var, List.length_cons, List.length_nil, Nat.reduceAdd, Nat.reduceLT, if_true, List.set_cons_succ, List.set_cons_zero, exs_ret, ev_tup, evs_cs, evs_nl, ev_call, v1, ev_bi, tup_lst, frzs_cons, frzs_nil, frz_int, frz_tup, fit2, Option.map_some, leave_tup, List.take_length]
  rfl
theorem Zz.gs {Z : List (Int × Int)} (h : Zz Z) : ∀ s ∈ Z, GS s := fun s hs => by
  have := h.rng s hs
  exact ⟨this.1, by omega, this.2.2.1, this.2.2.2⟩
theorem sizes_ok {Z : List (Int × Int)} (h : ∀ s ∈ Z, GS s) : (Z.map sD).all sizeD = true := by
  rw [List.all_eq_true]
  intro x hx
  obtain ⟨s, hs, rfl⟩ := List.mem_map.mp hx
  have g := h s hs
  show (numD (.int s.1) 1 5000 && numD (.int s.2) 0 1) = true
  show (decide (1 ≤ s.1 ∧ s.1 ≤ 5000) && decide (0 ≤ s.2 ∧ s.2 ≤ 1)) = true
  rw [decide_eq_true (show 1 ≤ s.1 ∧ s.1 ≤ 5000 from ⟨g.1, g.2.1⟩), decide_eq_true (show 0 ≤ s.2 ∧ s.2 ≤ 1 from ⟨g.2.2.1, g.2.2.2⟩)]
  rfl
/-- what a shape of sizes is -/
theorem shape_sizes {Z : List (Int × Int)} (h : ∀ s ∈ Z, GS s) : shapeD (.tup (Z.map sD)) = (decide (Z.length ≤ 16) && (decide ((Z.map (·.2)).sum ≤ 1) && decide (prod (Z.map (·.1)) ≤ 5000))) := by
  have e1 : (Z.map sD).map flD = Z.map (·.2) := by rw [List.map_map]; rfl
  have e2 : (Z.map sD).map nuD = Z.map (·.1) := by rw [List.map_map]; rfl
  show (decide ((Z.map sD).length ≤ 16) && ((Z.map sD).all sizeD && (decide (((Z.map sD).map flD).sum ≤ 1) && decide (prod ((Z.map sD).map nuD) ≤ 5000)))) = _
  rw [sizes_ok h, e1, e2, List.length_map, Bool.true_and]
theorem Zz.shape {Z : List (Int × Int)} (h : Zz Z) : shapeD (.tup (Z.map sD)) = true := by
  rw [shape_sizes h.gs, decide_eq_true (show Z.length ≤ 16 by have := h.len; omega), decide_eq_true h.one, decide_eq_true (show prod (Z.map (·.1)) ≤ 5000 by have := h.num; omega)]
  rfl
theorem Fo.gf {l : List Int} {k : Nat} (h : Fo l k) (hk : k ≤ 4) : GF l := ⟨Nat.le_trans h.len hk, h.last⟩
theorem St.gf {l : List Int} {B : Nat} (h : St l B) : GF l := ⟨by have := h.len; omega, h.last⟩
theorem Gw.grow {b0 : List Int} {ps : List Pair} (h : Gw b0 ps) : growD (gD b0 ps) = true :=
  grow_ok (h.beg.gf (by decide)) (by have := h.len; omega) (fun p hp => (h.step p hp).gf) (by
    have := h.size.shape
    rw [List.map_map] at this
    exact this)
theorem s_growing_number {n : Nat} {μ : Store} (b0 : List Int) (ps : List Pair) (h : Gw b0 ps) : run fs (n + 7) 26 [gD b0 ps] μ = .ok (ti [prod (ps.map (·.1.1)), (ps.map (·.1.2)).sum]) μ := by
  have q1 := s_needg (n := n) (μ := μ) _ (data_gD b0 ps) h.grow
  have i1 : idxD μ (gD b0 ps) (.int 1) = some (.tup (ps.map pD)) := idx_nat (k := 1) rfl rfl
  have q2 : compR (.ok (ps.map pD, none) μ) (turn (run fs (n + 6)) [1, 2] (.var 1) (.tup (.cs (.var 1) (.cs (.var 2) .nl))) .nl [some (gD b0 ps), none, none]) = .ok ((ps.map (·.1)).map sD) μ := by
    rw [compR_map (g := fstD) (fun x hx => by
      obtain ⟨p, _, rfl⟩ := List.mem_map.mp hx
      simp [turn]
      rfl) (line_big (by rw [List.length_map]; have := h.len; omega)), List.map_map, List.map_map]
    rfl
  have q3 := s_product (n := n + 4) (μ := μ) (.lst ((ps.map (·.1)).map sD)) (ps.map (·.1)) (.inl rfl) (by rw [List.length_map]; have := h.len; omega) h.size.gs
  have e1 : (ps.map (·.1)).map (·.1) = ps.map (·.1.1) := by rw [List.map_map]; rfl
  have e2 : (ps.map (·.1)).map (·.2) = ps.map (·.1.2) := by rw [List.map_map]; rfl
  rw [e1, e2] at q3
  have q3 : run fs (n + 6) 14 _ μ = _ := q3
  rw [r_26]
  simp only [f_26]
  generalize run fs (n + 6) = cl at q1 q2 q3 ⊢
  simp only [exs_seq, exs_exp, ev_call, evs_cs, evs_nl, ev_var, List.getElem?_cons_zero, Rs.bind_ok, q1, exs_ret, ev_comp, evI_one, ev_idx, ev_int, i1, Rs.of_some, seqOf_tup, lockOf_tup, q2, q3, leave_tup, List.take_length]
end Tab
namespace Tab
open PySem DL
/-! forms with told roots -/
def prS (l : List Int) (r : Int) : List Int := List.zipWith (· + ·) (0 :: l) (l.map (· * -r) ++ [0])
def prL (R : List Int) (l : List Int) : List Int := R.foldl prS l
theorem pv_zw : ∀ (a b : List Int) (m : Int), a.length = b.length → pv (List.zipWith (· + ·) a b) m = pv a m + pv b m
  | [], [], m, _ => rfl
  | [], _ :: _, m, h => by simp at h
  | _ :: _, [], m, h => by simp at h
  | x :: a, y :: b, m, h => by
    rw [List.zipWith_cons_cons, pv_cons, pv_cons, pv_cons, pv_zw a b m (by simpa using h), Int.add_mul]
    omega
theorem prS_pv (l : List Int) (r m : Int) : pv (prS l r) m = pv l m * (m - r) := by
  unfold prS
  rw [pv_zw _ _ _ (by simp), pv_cons, pv_snoc, pv_map, Int.mul_sub, Int.mul_neg]
  omega
theorem prS_len (l : List Int) (r : Int) : (prS l r).length = l.length + 1 := by
  unfold prS
  simp
theorem prS_last (s : List Int) (f r : Int) : ∃ s', prS (s ++ [f]) r = s' ++ [f] := by
  refine ⟨List.zipWith (· + ·) (0 :: s) ((s ++ [f]).map (· * -r)), ?_⟩
  unfold prS
  rw [← List.cons_append, List.zipWith_append (by simp)]
  simp
theorem prS_bd {l : List Int} {r : Int} {B : Nat} (h : ∀ a ∈ l, a.natAbs ≤ B) (hr : r.natAbs ≤ 2 ^ 30) : ∀ a ∈ prS l r, a.natAbs ≤ B * 2 ^ 31 := fun a ha => by
  unfold prS at ha
  obtain ⟨i, hi, rfl⟩ := List.getElem_of_mem ha
  rw [List.getElem_zipWith]
  have h1 : ∀ x ∈ (0 :: l), x.natAbs ≤ B := fun x hx => by
    rcases List.mem_cons.mp hx with rfl | hx
    · exact Nat.zero_le _
    · exact h x hx
  have h2 : ∀ x ∈ (l.map (· * -r) ++ [0]), x.natAbs ≤ B * 2 ^ 30 := fun x hx => by
    rcases List.mem_append.mp hx with hx | hx
    · obtain ⟨y, hy, rfl⟩ := List.mem_map.mp hx
      rw [Int.natAbs_mul, Int.natAbs_neg]
      exact Nat.mul_le_mul (h y hy) hr
    · rw [List.mem_singleton.mp hx]
      exact Nat.zero_le _
  have q1 := h1 _ (List.getElem_mem (l := 0 :: l) (n := i) (by simp at hi ⊢; omega))
  have q2 := h2 _ (List.getElem_mem (l := l.map (· * -r) ++ [0]) (n := i) (by simp at hi ⊢; omega))
  have q3 := Int.natAbs_add_le ((0 :: l)[i]'(by simp at hi ⊢; omega)) ((l.map (· * -r) ++ [0])[i]'(by simp at hi ⊢; omega))
  have e31 : B * 2 ^ 31 = B * 2 ^ 30 + B * 2 ^ 30 := by omega
  have e30 : B ≤ B * 2 ^ 30 := Nat.le_mul_of_pos_right _ (by decide)
  omega
theorem prL_props : ∀ (R l : List Int), (∀ m, pv (prL R l) m = pv l m * (R.map (m - ·)).prod) ∧ (prL R l).length = l.length + R.length
  | [], l => ⟨fun m => by show pv l m = pv l m * 1; omega, rfl⟩
  | r :: R, l => by
    obtain ⟨h1, h2⟩ := prL_props R (prS l r)
    refine ⟨fun m => ?_, ?_⟩
    · show pv (prL R (prS l r)) m = _
      rw [h1, prS_pv, List.map_cons, List.prod_cons, Int.mul_assoc]
    · show (prL R (prS l r)).length = _
      rw [h2, prS_len, List.length_cons]
      omega
theorem prL_last : ∀ (R s : List Int) (f : Int), ∃ s', prL R (s ++ [f]) = s' ++ [f]
  | [], s, f => ⟨s, rfl⟩
  | r :: R, s, f => by
    obtain ⟨s1, e⟩ := prS_last s f r
    obtain ⟨s2, e2⟩ := prL_last R s1 f
    exact ⟨s2, by show prL R (prS (s ++ [f]) r) = _; rw [e, e2]⟩
theorem prL_bd : ∀ (R l : List Int) (B : Nat), (∀ a ∈ l, a.natAbs ≤ B) → (∀ r ∈ R, r.natAbs ≤ 2 ^ 30) → ∀ a ∈ prL R l, a.natAbs ≤ B * 2 ^ (31 * R.length)
  | [], l, B, h, _, a, ha => by
    have := h a ha
    simpa using this
  | r :: R, l, B, h, hr, a, ha => by
    have q := prL_bd R (prS l r) (B * 2 ^ 31) (prS_bd h (hr r (List.mem_cons_self ..))) (fun x hx => hr x (List.mem_cons_of_mem _ hx)) a ha
    rw [Nat.mul_assoc, ← Nat.pow_add] at q
    rw [List.length_cons]
    refine Nat.le_trans q (Nat.mul_le_mul_left _ (Nat.pow_le_pow_right (by decide) ?_))
    omega
theorem zipL_ti (a b : List Int) : zipL (a.map D.int) (b.map D.int) = List.zipWith (fun x y => D.tup [.int x, .int y]) a b := zipL_map a b
abbrev prX : SX := .seq (.par [4, 5] (.cs (.bin .Add (.tup (.cs (.int (0)) .nl)) (.var 2)) (.cs (.bin .Add (.bi .tuple (.cs (.comp [6] (.bin .Mult (.var 6) (.neg (.var 3))) (.var 6) (.one (.var 2)) .nl) .nl)) (.tup (.cs (.int (0)) .nl))) .nl))) (.set (.var 2) (.bi .tuple (.cs (.comp [6, 7] (.bin .Add (.var 6) (.var 7)) (.tup (.cs (.var 6) (.cs (.var 7) .nl))) (.zp (.var 4) (.var 5)) .nl) .nl)))
theorem small_30 {r : Int} (h : r.natAbs ≤ 2 ^ 30) : small (-r) = true := small_of (k := 30) (by rw [Int.natAbs_neg]; exact h) (by decide)
theorem pr_turn {cl : Calls} {μ : Store} (l : List Int) (r : Int) (v0 v1 : D) (z3 z4 z5 : Option D) (hl : l.length ≤ 1000) (hr : r.natAbs ≤ 2 ^ 30) :
    ∃ z4' z5', loopF cl (.var 3) prX (.int r) [some v0, some v1, some (ti l), z3, z4, z5, none, none] μ = .ok (.nx [some v0, some v1, some (ti (prS l r)), some (.int r), z4', z5', none, none]) μ := by
  refine ⟨some (ti (0 :: l)), some (ti (l.map (· * -r) ++ [0])), ?_⟩
  have c1 : binD μ .Add (.tup [.int 0]) (ti l) = some (ti (0 :: l)) := by
    rw [cat_tup (by rw [List.length_map]; show 1 + l.length ≤ _; omega)]
    rfl
  have c2 : binD μ .Add (ti (l.map (· * -r))) (.tup [.int 0]) = some (ti (l.map (· * -r) ++ [0])) := by
    rw [cat_tup (by rw [List.length_map, List.length_map]; show l.length + 1 ≤ _; omega), ← List.map_singleton (f := D.int), ← List.map_append]
  have q1 : compR (.ok (l.map D.int, none) μ) (turn cl [6] (.bin .Mult (.var 6) (.neg (.var 3))) (.var 6) .nl [some v0, some v1, some (ti l), some (.int r), z4, z5, none, none]) = .ok ((l.map (· * -r)).map D.int) μ := by
    rw [compR_map (g := fun d => match d with
      | .int o => .int (o * -r)
      | d => d) (fun x hx => by
        obtain ⟨o, _, rfl⟩ := List.mem_map.mp hx
        have m1 : binD μ .Mult (.int o) (.int (-r)) = some (.int (o * -r)) := mul_int (mul_small2 (small_30 hr))
        rw [turn0 (ρ1 := [some v0, some v1, some (ti l), some (.int r), z4, z5, some (.int o), none]) rfl]
        simp only [ev_bin, ev_var, ev_neg, List.getElem?_cons_zero, List.getElem?_cons_succ, Rs.bind_ok, m1, Rs.of_some, keepE_ok, frz_int]) (line_big (by rw [List.length_map]; omega)), List.map_map, List.map_map]
    rfl
  have q2 : compR (.ok (zipL ((0 :: l).map D.int) ((l.map (· * -r) ++ [0]).map D.int), none) μ) (turn cl [6, 7] (.bin .Add (.var 6) (.var 7)) (.tup (.cs (.var 6) (.cs (.var 7) .nl))) .nl [some v0, some v1, some (ti l), some (.int r), some (ti (0 :: l)), some (ti (l.map (· * -r) ++ [0])), none, none]) = .ok ((prS l r).map D.int) μ := by
    rw [compR_map (g := fun d => match d with
      | .tup [.int a, .int b] => .int (a + b)
      | d => d) (fun x hx => by
        rw [zipL_ti] at hx
        obtain ⟨a, b, rfl⟩ := mem_zw hx
        rw [turn0 (ρ1 := [some v0, some v1, some (ti l), some (.int r), some (ti (0 :: l)), some (ti (l.map (· * -r) ++ [0])), some (.int a), some (.int b)]) rfl]
        simp only [ev_bin, ev_var, List.getElem?_cons_zero, List.getElem?_cons_succ, Rs.bind_ok, add_int, Rs.of_some, keepE_ok, frz_int]) (line_big (by
          rw [zipL_ti, List.length_zipWith, List.length_cons]; omega)), zipL_ti, List.map_zipWith]
    unfold prS
    rw [List.map_zipWith]
  unfold loopF
  rw [show Rs.of (asg (.var 3) (.int r) [some v0, some v1, some (ti l), z3, z4, z5, none, none]) μ = .ok [some v0, some v1, some (ti l), some (.int r), z4, z5, none, none] μ from rfl, Rs.bind_ok]
  have s1 : exs cl (.par [4, 5] (.cs (.bin .Add (.tup (.cs (.int (0)) .nl)) (.var 2)) (.cs (.bin .Add (.bi .tuple (.cs (.comp [6] (.bin .Mult (.var 6) (.neg (.var 3))) (.var 6) (.one (.var 2)) .nl) .nl)) (.tup (.cs (.int (0)) .nl))) .nl))) [some v0, some v1, some (ti l), some (.int r), z4, z5, none, none] μ = .ok (.nx [some v0, some v1, some (ti l), some (.int r), some (ti (0 :: l)), some (ti (l.map (· * -r) ++ [0])), none, none]) μ := by
    simp only [exs_par, evs_cs, evs_nl, ev_bin, ev_tup, ev_int, ev_var, List.getElem?_cons_zero, List.getElem?_cons_succ, Rs.bind_ok, frzs_cons, frzs_nil, frz_int, fit1, Option.map_some, Rs.of_some, c1, ev_bi, ev_comp, evI_one, seqOf_tup, lockOf_tup, q1, tup_lst, c2]
    rfl
  rw [seq_run s1]
  simp only [exs_set, ev_bi, evs_cs, evs_nl, ev_comp, evI_zp, ev_var, List.getElem?_cons_zero, List.getElem?_cons_succ, Rs.bind_ok, q2, tup_lst, Rs.of_some]
  rfl
theorem s_lawProduct {n : Nat} {μ : Store} (R : List Int) (f : Int) (hR : R.length ≤ 100) (hr : ∀ r ∈ R, r.natAbs ≤ 2 ^ 30) : run fs (n + 1) 44 [.lst (R.map D.int), .int f] μ = .ok (ti (prL R [f])) μ := by
  obtain ⟨ρ', μ', e, I⟩ := loop_inv (f := loopF (run fs n) (.var 3) prX)
    (fun xs ρ μ' => μ' = μ ∧ ∃ (s t : List Int) (z3 z4 z5 : Option D), R = s ++ t ∧ xs = t.map D.int ∧ ρ = [some (.lst (R.map D.int)), some (.int f), some (ti (prL s [f])), z3, z4, z5, none, none])
    (xs := R.map D.int) (ρ := [some (.lst (R.map D.int)), some (.int f), some (ti [f]), none, none, none, none, none]) (μ := μ) ⟨rfl, [], R, none, none, none, rfl, rfl, rfl⟩
    (fun y r ρ μ' hI => by
      obtain ⟨rfl, s, t, z3, z4, z5, e1, e2, rfl⟩ := hI
      cases t with
      | nil => cases e2
      | cons o t =>
        cases e2
        have hlen : (prL s [f]).length ≤ 1000 := by
          rw [(prL_props s [f]).2]
          rw [e1, List.length_append] at hR
          simp at hR ⊢
          omega
        obtain ⟨z4', z5', e⟩ := pr_turn (cl := run fs n) (μ := μ') (prL s [f]) o (.lst (R.map D.int)) (.int f) z3 z4 z5 hlen (hr o (by rw [e1]; simp))
        refine ⟨_, _, e, rfl, s ++ [o], t, some (.int o), z4', z5', by rw [e1, List.append_assoc]; rfl, rfl, ?_⟩
        have ep : prL (s ++ [o]) [f] = prS (prL s [f]) o := by unfold prL; rw [List.foldl_append]; rfl
        rw [ep])
  obtain ⟨rfl, s, t, z3, z4, z5, e1, e2, rfl⟩ := I
  have ht : t = [] := by cases t with
    | nil => rfl
    | cons _ _ => cases e2
  subst ht
  rw [List.append_nil] at e1
  subst e1
  rw [r_44]
  simp only [f_44]
  generalize run fs n = cl at e ⊢
  rw [seq_run (ρ1 := [some (.lst (R.map D.int)), some (.int f), some (ti [f]), none, none, none, none, none]) (μ1 := μ') (by
    simp only [exs_set, ev_tup, evs_cs, evs_nl, ev_var, List.getElem?_cons_zero, List.getElem?_cons_succ, Rs.bind_ok, frzs_cons, frzs_nil, frz_int, fit1, Option.map_some, Rs.of_some]
    rfl)]
  rw [seq_run (ρ1 := [some (.lst (R.map D.int)), some (.int f), some (ti (prL R [f])), z3, z4, z5, none, none]) (μ1 := μ') (by
    rw [exs_loop, evI_one, ev_var]
    simp only [List.getElem?_cons_zero, Rs.bind_ok, seqOf_lst, lockOf_lst, un_none, locked_none]
    exact e)]
  simp only [exs_ret, ev_var, List.getElem?_cons_zero, List.getElem?_cons_succ, Rs.bind_ok, leave_tup, List.take_length]
end Tab
namespace Tab
open PySem DL
/-! few roots; sorted rows -/
def quo (r : Int) : List Int → List Int
  | [] => []
  | [_] => []
  | _ :: b :: l => pv (b :: l) r :: quo r (b :: l)
theorem quo_len (r : Int) : ∀ l : List Int, (quo r l).length = l.length - 1
  | [] => rfl
  | [_] => rfl
  | _ :: b :: l => by rw [quo, List.length_cons, quo_len r (b :: l)]; simp
theorem quo_pv (r x : Int) : ∀ l : List Int, pv l x = (x - r) * pv (quo r l) x + pv l r
  | [] => by rw [quo]; simp
  | [a] => by rw [quo]; simp
  | a :: b :: l => by
    have ih := quo_pv r x (b :: l)
    rw [quo, pv_cons a, pv_cons (pv (b :: l) r), pv_cons a (b :: l) r]
    generalize pv (b :: l) x = p at ih ⊢
    generalize pv (b :: l) r = v at ih ⊢
    generalize pv (quo r (b :: l)) x = q at ih ⊢
    subst ih
    rw [Int.add_mul, Int.mul_add, Int.sub_mul x r v, Int.mul_assoc, Int.mul_comm v x, Int.mul_comm v r]
    omega
theorem quo_last (r : Int) : ∀ (l : List Int) (a b : Int), Fm (a :: b :: l) → Fm (quo r (a :: b :: l))
  | [], a, b, h => by
    refine ⟨by rw [quo]; simp, ?_⟩
    have h2 : b ≠ 0 := h.2
    show (quo r [a, b]).getLast _ ≠ 0
    have e : quo r [a, b] = [b] := by
      rw [quo, quo, pv_cons, pv_nil]
      simp
    intro z
    apply h2
    have : (quo r [a, b]).getLast? = some 0 := by rw [List.getLast?_eq_some_getLast (by rw [e]; simp), z]
    rw [e] at this
    simpa using this
  | c :: l, a, b, h => by
    have ih := quo_last r l b c (fm_tail h)
    obtain ⟨h1, h2⟩ := ih
    refine ⟨by rw [quo]; simp, ?_⟩
    show (pv (b :: c :: l) r :: quo r (b :: c :: l)).getLast _ ≠ 0
    rw [List.getLast_cons h1]
    exact h2
theorem few_roots : ∀ (k : Nat) (l R : List Int), l.length ≤ k → Fm l → R.Pairwise (· < ·) → (∀ x ∈ R, pv l x = 0) → R.length < l.length
  | 0, l, R, hk, h, _, _ => absurd (List.length_eq_zero_iff.mp (by omega)) h.1
  | k + 1, l, [], hk, h, _, _ => List.length_pos_iff.mpr h.1
  | k + 1, [], r :: R, hk, h, _, _ => absurd rfl h.1
  | k + 1, [a], r :: R, hk, h, _, hz => by
    have h2 : a ≠ 0 := h.2
    have := hz r (List.mem_cons_self ..)
    rw [pv_cons, pv_nil] at this
    omega
  | k + 1, a :: b :: l, r :: R, hk, h, hs, hz => by
    rw [List.pairwise_cons] at hs
    have hr := hz r (List.mem_cons_self ..)
    have ih := few_roots k (quo r (a :: b :: l)) R (by rw [quo_len]; simp at hk ⊢; omega) (quo_last r l a b h) hs.2 (fun x hx => by
      have h1 := hz x (List.mem_cons_of_mem _ hx)
      have h2 := hs.1 x hx
      rw [quo_pv r x, hr, Int.add_zero] at h1
      rcases Int.mul_eq_zero.mp h1 with h1 | h1
      · omega
      · exact h1)
    rw [quo_len] at ih
    simp at ih ⊢
    omega
theorem sorted_one : ∀ {a b : List Int}, a.Pairwise (· < ·) → b.Pairwise (· < ·) → (∀ x, x ∈ a ↔ x ∈ b) → a = b
  | [], [], _, _, _ => rfl
  | [], y :: b, _, _, h => by
    have := (h y).mpr (List.mem_cons_self ..)
    simp at this
  | x :: a, [], _, _, h => by
    have := (h x).mp (List.mem_cons_self ..)
    simp at this
  | x :: a, y :: b, ha, hb, h => by
    rw [List.pairwise_cons] at ha hb
    have hxy : x = y := by
      have h1 := (h x).mp (List.mem_cons_self ..)
      have h2 := (h y).mpr (List.mem_cons_self ..)
      rcases List.mem_cons.mp h1 with h1 | h1
      · exact h1
      · rcases List.mem_cons.mp h2 with h2 | h2
        · exact h2.symm
        · have q1 := hb.1 x h1
          have q2 := ha.1 y h2
          omega
    subst hxy
    have := sorted_one ha.2 hb.2 (fun z => by
      constructor
      · intro hz
        have q1 := ha.1 z hz
        rcases List.mem_cons.mp ((h z).mp (List.mem_cons_of_mem _ hz)) with e | e
        · omega
        · exact e
      · intro hz
        have q1 := hb.1 z hz
        rcases List.mem_cons.mp ((h z).mpr (List.mem_cons_of_mem _ hz)) with e | e
        · omega
        · exact e)
    rw [this]
theorem insU_mem (i x : Int) : ∀ l : List Int, x ∈ insU i l ↔ x = i ∨ x ∈ l
  | [] => by simp [insU]
  | j :: r => by
    rw [insU]
    split
    · simp
    · split
      · rename_i h
        subst h
        simp
      · rw [List.mem_cons, insU_mem i x r, List.mem_cons]
        constructor
        · rintro (h | h | h)
          · exact .inr (.inl h)
          · exact .inl h
          · exact .inr (.inr h)
        · rintro (h | h | h)
          · exact .inr (.inl h)
          · exact .inl h
          · exact .inr (.inr h)
theorem insU_sorted (i : Int) : ∀ l : List Int, l.Pairwise (· < ·) → (insU i l).Pairwise (· < ·)
  | [], _ => by simp [insU]
  | j :: r, h => by
    rw [insU]
    split
    · rename_i h1
      rw [List.pairwise_cons]
      refine ⟨fun x hx => ?_, h⟩
      rcases List.mem_cons.mp hx with rfl | hx
      · exact h1
      · have := (List.pairwise_cons.mp h).1 x hx
        omega
    · split
      · exact h
      · rw [List.pairwise_cons] at h ⊢
        refine ⟨fun x hx => ?_, insU_sorted i r h.2⟩
        rcases (insU_mem i x r).mp hx with rfl | hx
        · omega
        · exact h.1 x hx
theorem srtU_mem (x : Int) : ∀ l : List Int, x ∈ srtU l ↔ x ∈ l
  | [] => by simp [srtU]
  | i :: r => by rw [srtU, insU_mem, srtU_mem x r, List.mem_cons]
theorem srtU_sorted : ∀ l : List Int, (srtU l).Pairwise (· < ·)
  | [] => by simp [srtU]
  | i :: r => by rw [srtU]; exact insU_sorted i _ (srtU_sorted r)
theorem insU_len (i : Int) : ∀ l : List Int, (insU i l).length ≤ l.length + 1
  | [] => by simp [insU]
  | j :: r => by
    rw [insU]
    split
    · simp
    · split
      · simp
      · have := insU_len i r
        simp
        omega
theorem srtU_len : ∀ l : List Int, (srtU l).length ≤ l.length
  | [] => by simp [srtU]
  | i :: r => by
    rw [srtU, List.length_cons]
    have := insU_len i (srtU r)
    have := srtU_len r
    omega
theorem srtU_self {l : List Int} (h : l.Pairwise (· < ·)) : srtU l = l := sorted_one (srtU_sorted l) h fun x => srtU_mem x l
/-- drawn roots are small -/
theorem root_small {x : Int} (hx : 1 ≤ x) : ∀ {l : List Int} {B : Nat}, Fm l → (∀ a ∈ l, a.natAbs ≤ B) → pv l x = 0 → x ≤ B
  | [], B, h, _, _ => absurd rfl h.1
  | [a], B, h, _, hz => by
    have h2 : a ≠ 0 := h.2
    rw [pv_cons, pv_nil] at hz
    omega
  | a :: b :: l, B, h, hb, hz => by
    rw [pv_cons] at hz
    have ha := hb a (List.mem_cons_self ..)
    by_cases h0 : pv (b :: l) x = 0
    · exact root_small hx (fm_tail h) (fun c hc => hb c (List.mem_cons_of_mem _ hc)) h0
    · have e : a.natAbs = (pv (b :: l) x).natAbs * x.natAbs := by
        rw [← Int.natAbs_mul]
        omega
      have h1 : 1 ≤ (pv (b :: l) x).natAbs := by omega
      have h2 : 1 * x.natAbs ≤ (pv (b :: l) x).natAbs * x.natAbs := Nat.mul_le_mul_right _ h1
      omega
theorem root_far {x : Int} {l : List Int} {B : Nat} (h : Fm l) (hb : ∀ a ∈ l, a.natAbs ≤ B) (hx : 1 ≤ x) (hz : pv l x = 0) : x.natAbs ≤ B := by
  have := root_small hx h hb hz
  omega
theorem prod_zero (m : Int) : ∀ R : List Int, (R.map (m - ·)).prod = 0 ↔ m ∈ R
  | [] => by simp
  | r :: R => by
    rw [List.map_cons, List.prod_cons, Int.mul_eq_zero, prod_zero m R, List.mem_cons]
    constructor
    · rintro (h | h)
      · exact .inl (by omega)
      · exact .inr h
    · rintro (h | h)
      · exact .inl (by omega)
      · exact .inr h
theorem any_int (m : Int) (R : List Int) : ((R.map D.int).any fun z => PyData.eqv (toP z) (toP (.int m))) = decide (m ∈ R) := by
  induction R with
  | nil => simp
  | cons r R ih =>
    rw [List.map_cons, List.any_cons, ih]
    have e : PyData.eqv (toP (.int r)) (toP (.int m)) = decide (r = m) := by
      show PyData.eqv (.int r) (.int m) = _
      rw [PyData.eqv]
      rfl
    rw [e]
    by_cases h : r = m
    · simp [h]
    · have h2 : ¬ m = r := fun z => h z.symm
      simp [h, h2]
theorem not_in {μ : Store} (m : Int) (R : List Int) : cmpD μ .NotIn (.int m) (ti R) = some (decide (m ∉ R)) := by
  show (inD μ (.int m) (ti R)).map (!·) = _
  have hf : (R.map D.int).all flatD = true := by
    rw [List.all_eq_true]
    intro x hx
    obtain ⟨a, _, rfl⟩ := List.mem_map.mp hx
    rfl
  have e : inD μ (.int m) (ti R) = some (decide (m ∈ R)) := by
    show (if flatD (.int m) && (R.map D.int).all flatD then some ((R.map D.int).any fun z => PyData.eqv (toP z) (toP (.int m))) else none) = _
    rw [hf, any_int]
    rfl
  rw [e]
  by_cases h : m ∈ R <;> simp [h]
end Tab
namespace Tab
open PySem DL
theorem shl_int {μ : Store} {j : Int} (h : 0 ≤ j) (h2 : j ≤ 1000000) : binD μ .LShift (.int 1) (.int j) = some (.int (1 * 2 ^ j.toNat)) := by
  show (if powOk 1 j then some (D.int (1 * 2 ^ j.toNat)) else none) = _
  have e : powOk 1 j = true := by
    unfold powOk
    rw [decide_eq_true h, decide_eq_true h2, small_lit (by decide) (by decide)]
    rfl
  rw [if_pos e]
abbrev rrX : PX := .call 32 (.cs (.var 0) (.cs (.lst (.cs (.int (1)) (.cs (.int (2)) (.cs (.int (3)) (.cs (.int (7)) (.cs (.int (0)) (.cs (.neg (.int (1))) (.cs (.neg (.int (4))) (.cs (.bin .Add (.call 31 (.cs (.var 0) (.cs (.int (1000)) .nl))) (.int (1))) (.cs (.bin .LShift (.int (1)) (.call 31 (.cs (.var 0) (.cs (.int (30)) .nl)))) .nl)))))))))) .nl))
theorem rr_turn {n : Nat} {a b : Int} {rest : Store} (x : D) (hb : Gd b) (y1 y2 y3 y4 y5 z7 z8 : Option D) :
    ∃ y a' b', turn (run fs (n + 2)) [6] rrX (.var 6) .nl [some (.cell 0), y1, y2, y3, y4, y5, none, z7, z8] x (cs a b rest) = .ok (some y) (cs a' b' rest) ∧ (∃ c : Int, y = .int c ∧ c.natAbs ≤ 2 ^ 30) ∧ Gd b' := by
  obtain ⟨r1, a1, b1, e1, p1, p2, g1⟩ := s_rollI (n := n + 1) (a := a) (b := b) (rest := rest) 1000 (by decide) (by decide) hb
  obtain ⟨r2, a2, b2, e2, p3, p4, g2⟩ := s_rollI (n := n + 1) (a := a1) (b := b1) (rest := rest) 30 (by decide) (by decide) g1
  obtain ⟨c, a3, b3, e3, hc, g3⟩ := s_someI (n := n) (a := a2) (b := b2) (rest := rest) [1, 2, 3, 7, 0, -1, -4, r1 + 1, 1 * 2 ^ r2.toNat] (by simp) (by simp) g2
  have e1 : run fs (n + 2) 31 _ _ = _ := e1
  have e2 : run fs (n + 2) 31 _ _ = _ := e2
  refine ⟨.int c, a3, b3, ?_, ⟨c, rfl, ?_⟩, g3⟩
  · simp only [List.map_cons, List.map_nil] at e3
    rw [turn0 (ρ1 := [some (.cell 0), y1, y2, y3, y4, y5, some x, z7, z8]) rfl]
    have sh : ∀ ν : Store, binD ν .LShift (.int 1) (.int r2) = some (.int (1 * 2 ^ r2.toNat)) := fun ν => shl_int p3 (by omega)
    generalize (1 * 2 ^ r2.toNat : Int) = w at e3 sh
    generalize run fs (n + 2) = cl at e1 e2 e3 ⊢
    simp only [ev_call, evs_cs, evs_nl, ev_var, List.getElem?_cons_zero, List.getElem?_cons_succ, Rs.bind_ok, ev_lst, ev_int, ev_neg, ev_bin, e1, e2, add_int, sh, Rs.of_some, mkL_ok, frzs_cons, frzs_nil, frz_int, fit_ok (show [D.int 1, D.int 2, D.int 3, D.int 7, D.int 0, D.int (-1), D.int (-4), D.int (r1 + 1), D.int w].length ≤ 1000000 by show 9 ≤ 1000000; decide), e3, keepE_ok]
  · have hp : (2 : Nat) ^ r2.toNat ≤ 2 ^ 30 := Nat.pow_le_pow_right (by decide) (by omega)
    have hp2 : (1 * 2 ^ r2.toNat : Int).natAbs = 2 ^ r2.toNat := by rw [Int.one_mul, Int.natAbs_pow]; rfl
    have h30 : (2 : Nat) ^ 30 = 1073741824 := by decide
    simp only [List.mem_cons, List.not_mem_nil, or_false] at hc
    rcases hc with h | h | h | h | h | h | h | h | h
    · subst h; decide
    · subst h; decide
    · subst h; decide
    · subst h; decide
    · subst h; decide
    · subst h; decide
    · subst h; decide
    · omega
    · rw [h, hp2]; exact hp
end Tab
namespace Tab
open PySem DL
theorem like_ti {n : Nat} {μ : Store} (l : List Int) (hl : l.length ≤ 1000) : run fs (n + 3) 34 [ti l, ti l] μ = .ok (.bl true) μ := like_self 1 n μ (ti l) (Lv.ti hl 0)
theorem sortedset_ints {μ : Store} (x : D) (l : List Int) (hx : x = .lst (l.map D.int) ∨ x = ti l) (hl : l.length < 64) : biD μ .sortedset [x] = some (.lst ((srtU l).map D.int)) := by
  show ((intsSq μ x).map fun is => (srtU is).map D.int).map D.lst = _
  have e : intsSq μ x = some l := by
    unfold intsSq
    rcases hx with rfl | rfl
    · rw [seqOf_lst]
      dsimp only
      rw [intsOf_map]
      dsimp only
      rw [if_pos hl]
    · rw [seqOf_tup]
      dsimp only
      rw [intsOf_map]
      dsimp only
      rw [if_pos hl]
  rw [e]
  rfl
theorem list_ti {μ : Store} (l : List Int) : biD μ .list [ti l] = some (.lst (l.map D.int)) := rfl
theorem filter_ints {cl : Calls} {own : List Nat} {elt tg : PX} {cnd : PX} {ρ : DL.Env} {μ : Store} (p : Int → Bool) (l : List Int) (hl : l.length ≤ 1000000) (h : ∀ a ∈ l, turn cl own elt tg cnd ρ (.int a) μ = .ok (if p a then some (.int a) else none) μ) :
    compR (.ok (l.map D.int, none) μ) (turn cl own elt tg cnd ρ) = .ok ((l.filter p).map D.int) μ := by
  rw [compR_ok (g := fun d => match d with
      | .int a => if p a then some (D.int a) else none
      | _ => none) (fun x hx => by
        obtain ⟨a, ha, rfl⟩ := List.mem_map.mp hx
        exact h a ha) (line_big (by rw [List.length_map]; exact hl))]
  exact congrArg (fun z => Rs.ok z μ) (keep_ints l p)
/-- whole numbers from one to another -/
def upL (lo : Int) (k : Nat) : List Int := (List.range k).map fun i => lo + (i : Nat)
theorem rng2_go {cl : Calls} {ρ : DL.Env} {μ : Store} (lo hi : Int) (h : rngOk lo hi = true) : evI cl (.rng2 (.int lo) (.int hi)) ρ μ = .ok ((upL lo (hi - lo).toNat).map D.int, none) μ := by
  rw [evI_rng2, ev_int, Rs.bind_ok, ev_int, Rs.bind_ok]
  dsimp only
  rw [if_pos h]
  unfold rngL upL
  rw [List.map_map]
  rfl
theorem upL_mem {lo x : Int} {k : Nat} : x ∈ upL lo k ↔ lo ≤ x ∧ x < lo + k := by
  unfold upL
  rw [List.mem_map]
  constructor
  · rintro ⟨i, hi, rfl⟩
    rw [List.mem_range] at hi
    omega
  · rintro ⟨h1, h2⟩
    exact ⟨(x - lo).toNat, List.mem_range.mpr (by omega), by omega⟩
theorem upL_sorted (lo : Int) (k : Nat) : (upL lo k).Pairwise (· < ·) := by
  unfold upL
  rw [List.pairwise_map]
  have := List.pairwise_lt_range (n := k)
  exact this.imp fun h => by omega
theorem upL_len (lo : Int) (k : Nat) : (upL lo k).length = k := by unfold upL; simp
/-- told roots -/
theorem told_roots {n : Nat} {μ : Store} (R : List Int) (f : Int) (hR : R.length ≤ 3) (hr : ∀ r ∈ R, r.natAbs ≤ 2 ^ 30) (hf : f ≠ 0) (hf2 : f.natAbs ≤ 12) :
    run fs (n + 11) 29 [ti (prL R [f])] μ = .ok (ti (srtU (R.filter fun a => decide (0 < a)))) μ := by
  obtain ⟨s, es⟩ := prL_last R [] f
  have hfm : Fm (prL R [f]) := by
    rw [show [f] = [] ++ [f] from rfl, es]
    exact ⟨by simp, by simpa using hf⟩
  have hlen : (prL R [f]).length = 1 + R.length := (prL_props R [f]).2
  have hb : Bd (2 ^ 200) (prL R [f]) := bd_of fun a ha => by
    have h1 := prL_bd R [f] 12 (fun x hx => by rw [List.mem_singleton.mp hx]; exact hf2) hr a ha
    have h2 : (2 : Nat) ^ (31 * R.length) ≤ 2 ^ 93 := Nat.pow_le_pow_right (by decide) (by omega)
    have h3 : 12 * (2 : Nat) ^ 93 ≤ 2 ^ 200 := by decide
    omega
  obtain ⟨Q, e, hs, hm, _⟩ := s_roots_of (n := n) (μ := μ) (prL R [f]) ⟨by omega, fun h => hfm.2⟩ hfm.1 hb
  have eq : Q = srtU (R.filter fun a => decide (0 < a)) := sorted_one hs (srtU_sorted _) fun x => by
    rw [hm, srtU_mem, List.mem_filter, (prL_props R [f]).1 x, Int.mul_eq_zero, prod_zero, decide_eq_true_eq]
    have hf3 : pv [f] x = f := by rw [pv_cons, pv_nil]; omega
    rw [hf3]
    constructor
    · rintro ⟨h1, h2 | h2⟩
      · exact absurd h2 hf
      · exact ⟨h2, by omega⟩
    · rintro ⟨h1, h2⟩
      exact ⟨by omega, .inr h1⟩
  rw [e, eq]
/-- drawn roots -/
theorem drawn_roots {n : Nat} {μ : Store} (l : List Int) (hl : Fo l 4) (hn : l ≠ []) :
    run fs (n + 11) 29 [ti l] μ = .ok (ti ((upL 1 39).filter fun m => decide (pv l m = 0))) μ := by
  have hfm : Fm l := ⟨hn, hl.last hn⟩
  have hb : Bd (2 ^ 200) l := bd_of fun a ha => Nat.le_trans (hl.few a ha) (by decide)
  obtain ⟨Q, e, hs, hm, _⟩ := s_roots_of (n := n) (μ := μ) l (hl.gf (by decide)) hn hb
  have eq : Q = (upL 1 39).filter fun m => decide (pv l m = 0) := sorted_one hs ((upL_sorted _ _).filter _) fun x => by
    rw [hm, List.mem_filter, upL_mem, decide_eq_true_eq]
    constructor
    · rintro ⟨h1, h2⟩
      have := root_small h1 hfm hl.few h2
      exact ⟨⟨h1, by omega⟩, h2⟩
    · rintro ⟨h1, h2⟩
      exact ⟨h1.1, h2⟩
  rw [e, eq]
/-- any roots -/
theorem bent_roots {n : Nat} {μ : Store} (l : List Int) (hfm : Fm l) (hlen : l.length ≤ 4) (hb : ∀ a ∈ l, a.natAbs ≤ 2 ^ 100) :
    ∃ Q : List Int, run fs (n + 11) 29 [ti l] μ = .ok (ti Q) μ ∧ Q.Pairwise (· < ·) ∧ (∀ x, x ∈ Q ↔ 1 ≤ x ∧ pv l x = 0) ∧ Q.length < 4 ∧ ∀ x ∈ Q, x.natAbs ≤ 2 ^ 100 := by
  obtain ⟨Q, e, hs, hm, _⟩ := s_roots_of (n := n) (μ := μ) l ⟨hlen, fun h => hfm.2⟩ hfm.1 (bd_of fun a ha => Nat.le_trans (hb a ha) (by decide))
  have := few_roots 4 l Q hlen hfm hs fun x hx => ((hm x).mp hx).2
  exact ⟨Q, e, hs, hm, by omega, fun x hx => root_far hfm hb ((hm x).mp hx).1 ((hm x).mp hx).2⟩
end Tab
set_option maxHeartbeats 2000000
namespace Tab
open PySem DL
theorem ne_nil0 {μ : Store} : cmpD μ .NotEq (.lst []) (.lst []) = some false := ne_nil_ints (μ := μ) []
theorem filt_none (l : List Int) : l.filter (fun _ => false) = [] := by simp
theorem ln_mem {l : List Int} {B : Nat} (h : ∀ a ∈ l, a.natAbs ≤ B) : ∀ a ∈ ln l, a.natAbs ≤ B := fun a ha => by
  rw [ln_take] at ha
  exact h a (List.mem_of_mem_take ha)
/-- bent: no root is left out, none is told that is none -/
abbrev bnX : SX := .seq (.set (.var 5) (.call 29 (.cs (.var 3) .nl))) (.seq (.ife (.or (.cmp .NotEq (.call 33 (.cs (.var 5) .nl)) (.int (4))) (.or (.cmp .NotEq (.bi .list (.cs (.var 5) .nl)) (.bi .sortedset (.cs (.var 5) .nl))) (.cmp .NotEq (.comp [8] (.var 8) (.var 8) (.one (.var 5)) (.one (.or (.cmp .Lt (.var 8) (.int (1))) (.cmp .NotEq (.call 37 (.cs (.var 3) (.cs (.var 8) .nl))) (.int (0)))))) (.lst .nl)))) (.ret (.bl false)) .skip) (.ife (.cmp .NotEq (.comp [7] (.var 7) (.var 7) (.rng2 (.int (1)) (.int (50))) (.one (.and (.cmp .Eq (.call 37 (.cs (.var 3) (.cs (.var 7) .nl))) (.int (0))) (.cmp .NotIn (.var 7) (.var 5))))) (.lst .nl)) (.ret (.bl false)) .skip))
theorem val_100 {n : Nat} {μ : Store} (l : List Int) (m : Int) (hl : l.length ≤ 5) (hb : ∀ a ∈ l, a.natAbs ≤ 2 ^ 100) (hm : m.natAbs ≤ 2 ^ 100) : run fs (n + 2) 37 [ti l, .int m] μ = .ok (.int (pv l m)) μ := s_lawValueG (B := 100) (M := 100) l m hl hb hm (by decide)
theorem bent_run {n : Nat} {μ : Store} (l : List Int) (hfm : Fm l) (hlen : l.length ≤ 4) (hb : ∀ a ∈ l, a.natAbs ≤ 2 ^ 100) (v0 v1 v2 : D) :
    ∃ z5, exs (run fs (n + 11)) bnX [some v0, some v1, some v2, some (ti l), none, none, none, none, none] μ = .ok (.nx [some v0, some v1, some v2, some (ti l), none, z5, none, none, none]) μ := by
  obtain ⟨Q, e, hs, hm, hq, hqb⟩ := bent_roots (n := n) (μ := μ) l hfm hlen hb
  refine ⟨some (ti Q), ?_⟩
  have e1 : run fs (n + 11) 33 [ti Q] μ = .ok (.int 4) μ := sort_tup (n := n + 10) _
  have e2 : ∀ m : Int, m.natAbs ≤ 2 ^ 100 → run fs (n + 11) 37 [ti l, .int m] μ = .ok (.int (pv l m)) μ := fun m hm => val_100 (n := n + 9) l m (by omega) hb hm
  have c1 := sortedset_ints (μ := μ) (ti Q) Q (.inr rfl) (by omega)
  rw [srtU_self hs] at c1
  have c2 := ne_ints (μ := μ) Q Q
  rw [decide_eq_false (fun z => z rfl)] at c2
  have k1 : rngOk 1 50 = true := by decide +kernel
  generalize run fs (n + 11) = cl at e e1 e2 ⊢
  have q1 : compR (.ok (Q.map D.int, none) μ) (turn cl [8] (.var 8) (.var 8) (.one (.or (.cmp .Lt (.var 8) (.int (1))) (.cmp .NotEq (.call 37 (.cs (.var 3) (.cs (.var 8) .nl))) (.int (0))))) [some v0, some v1, some v2, some (ti l), none, some (ti Q), none, none, none]) = .ok [] μ := by
    rw [filter_ints (fun _ => false) Q (by omega) fun x hx => by
      have hx1 := (hm x).mp hx
      rw [turn1 (ρ1 := [some v0, some v1, some v2, some (ti l), none, some (ti Q), none, none, some (.int x)]) rfl]
      simp only [evC_one, ev_or, ev_cmp, ev_var, ev_int, ev_call, evs_cs, evs_nl, List.getElem?_cons_zero, List.getElem?_cons_succ, Rs.bind_ok, lt_int, decide_eq_false (show ¬ x < 1 by omega), Option.map_some, Rs.of_some, onB_bl, Bool.false_eq_true, if_false, e2 x (hqb x hx), ne_int, hx1.2]
      rfl, filt_none]
    rfl
  have q2 : compR (.ok ((upL 1 (50 - 1 : Int).toNat).map D.int, none) μ) (turn cl [7] (.var 7) (.var 7) (.one (.and (.cmp .Eq (.call 37 (.cs (.var 3) (.cs (.var 7) .nl))) (.int (0))) (.cmp .NotIn (.var 7) (.var 5)))) [some v0, some v1, some v2, some (ti l), none, some (ti Q), none, none, none]) = .ok [] μ := by
    rw [filter_ints (fun _ => false) _ (by rw [upL_len]; decide) fun x hx => by
      rw [upL_mem] at hx
      have hx2 : x < 50 := by have := hx.2; omega
      have hxb : x.natAbs ≤ 2 ^ 100 := by
        have : (50 : Nat) ≤ 2 ^ 100 := by decide
        omega
      have c3 := not_in (μ := μ) x Q
      rw [turn1 (ρ1 := [some v0, some v1, some v2, some (ti l), none, some (ti Q), none, some (.int x), none]) rfl]
      simp only [evC_one, ev_and, ev_cmp, ev_var, ev_int, ev_call, evs_cs, evs_nl, List.getElem?_cons_zero, List.getElem?_cons_succ, Rs.bind_ok, Option.map_some, Rs.of_some, e2 x hxb, eq_int, c3]
      by_cases h0 : pv l x = 0
      · have hin : x ∈ Q := (hm x).mpr ⟨hx.1, h0⟩
        rw [decide_eq_false (fun z => z hin)] at c3
        simp [h0, c3]
      · simp [h0], filt_none]
    rfl
  have s1 : exs cl (.set (.var 5) (.call 29 (.cs (.var 3) .nl))) [some v0, some v1, some v2, some (ti l), none, none, none, none, none] μ = .ok (.nx [some v0, some v1, some v2, some (ti l), none, some (ti Q), none, none, none]) μ := by
    simp only [exs_set, ev_call, evs_cs, evs_nl, ev_var, List.getElem?_cons_zero, List.getElem?_cons_succ, Rs.bind_ok, e]
    rfl
  rw [seq_run s1, seq_run (ρ1 := [some v0, some v1, some v2, some (ti l), none, some (ti Q), none, none, none]) (μ1 := μ) (by
    simp only [exs_ife, ev_or, ev_cmp, ev_call, evs_cs, evs_nl, ev_var, List.getElem?_cons_zero, List.getElem?_cons_succ, Rs.bind_ok, e1, ev_int, ne_int, Option.map_some, Rs.of_some, onB_bl, ev_bi, list_ti, c1, c2, ev_comp, evI_one, seqOf_tup, lockOf_tup, q1, ev_lst, mkL_ok, frzs_nil, fit0, ne_nil0, Bool.false_eq_true, if_false, exs_skip, decide_eq_false (show ¬ ((4 : Int) ≠ 4) from fun z => z rfl)])]
  simp only [exs_ife, ev_cmp, ev_comp, rng2_go 1 50 k1, q2, Rs.bind_ok, ev_lst, evs_nl, mkL_ok, frzs_nil, fit0, Rs.of_some, ne_nil0, Option.map_some, onB_bl, Bool.false_eq_true, if_false, exs_skip]
end Tab
namespace Tab
open PySem DL
theorem s_rootsRight {n : Nat} {a b : Int} {rest : Store} (hb : Gd b) : ∃ a' b', run fs (n + 12) 45 [.cell 0] (cs a b rest) = .ok (.bl true) (cs a' b' rest) ∧ Gd b' := by
  obtain ⟨r, a1, b1, e1, r0, r1, g1⟩ := s_rollI (n := n + 10) (a := a) (b := b) (rest := rest) 4 (by decide) (by decide) hb
  obtain ⟨ys, a2, b2, e2, hl, hp, g2⟩ := compR_draw (rest := rest) (f := turn (run fs (n + 11)) [6] rrX (.var 6) .nl [some (.cell 0), none, none, none, none, none, none, none, none]) (P := fun y => ∃ c : Int, y = .int c ∧ c.natAbs ≤ 2 ^ 30)
    (fun x a b hb => rr_turn (n := n + 9) x hb none none none none none none none) (rngL 0 r) a1 b1 g1 (by rw [rng_len]; omega)
  obtain ⟨R, rfl, hR⟩ := ints_of hp
  rw [rng_len, List.length_map] at hl
  obtain ⟨f, a3, b3, e3, hf, g3⟩ := s_someI (n := n + 9) (a := a2) (b := b2) (rest := rest) [1, -1, 3, 12] (by simp) (by simp) g2
  have hf0 : ∀ c ∈ ([1, -1, 3, 12] : List Int), c ≠ 0 ∧ c.natAbs ≤ 12 := by decide
  have hf1 := hf0 f hf
  have hR3 : R.length ≤ 3 := by omega
  have e4 : run fs (n + 11) 44 [.lst (R.map D.int), .int f] (cs a3 b3 rest) = _ := s_lawProduct (n := n + 10) R f (by omega) hR
  have e5 := told_roots (n := n) (μ := cs a3 b3 rest) R f hR3 hR hf1.1 hf1.2
  have hT : (srtU (R.filter fun a => decide (0 < a))).length ≤ 3 := by
    have h1 := srtU_len (R.filter fun a => decide (0 < a))
    have h2 := List.length_filter_le (fun a => decide (0 < a)) R
    omega
  have e6 : run fs (n + 11) 34 _ (cs a3 b3 rest) = _ := like_ti (n := n + 8) (srtU (R.filter fun a => decide (0 < a))) (by omega)
  have e7 : evI (run fs (n + 11)) (.rng1 (.call 31 (.cs (.var 0) (.cs (.int (4)) .nl)))) [some (.cell 0), none, none, none, none, none, none, none, none] (cs a b rest) = .ok (rngL 0 r, none) (cs a1 b1 rest) := rng1_go (by
    have e1 : run fs (n + 11) 31 _ _ = _ := e1
    generalize run fs (n + 11) = cl at e1 ⊢
    simp only [ev_call, evs_cs, evs_nl, ev_var, ev_int, List.getElem?_cons_zero, Rs.bind_ok, e1]) r0 (by omega)
  -- the form, its first and the rest
  obtain ⟨p0, pt, ep⟩ : ∃ p0 pt, prL R [f] = p0 :: pt := by
    cases h : prL R [f] with
    | nil =>
      have : (prL R [f]).length = 1 + R.length := (prL_props R [f]).2
      rw [h, List.length_nil] at this
      omega
    | cons p0 pt => exact ⟨p0, pt, rfl⟩
  have hplen : (p0 :: pt).length = 1 + R.length := by
    rw [← ep]
    exact (prL_props R [f]).2
  rw [ep] at e4 e5
  have hpb : ∀ x ∈ (p0 + 1) :: pt, x.natAbs ≤ 2 ^ 100 := fun x hx => by
    have h1 : ∀ x ∈ p0 :: pt, x.natAbs ≤ 12 * 2 ^ (31 * R.length) := fun x hx => by
      rw [← ep] at hx
      exact prL_bd R [f] 12 (fun x hx => by rw [List.mem_singleton.mp hx]; exact hf1.2) hR x hx
    have h2 : (2 : Nat) ^ (31 * R.length) ≤ 2 ^ 93 := Nat.pow_le_pow_right (by decide) (by omega)
    have h3 : 12 * (2 : Nat) ^ 93 + 1 ≤ 2 ^ 100 := by decide
    rcases List.mem_cons.mp hx with rfl | hx
    · have := h1 p0 (List.mem_cons_self ..)
      omega
    · have := h1 x (List.mem_cons_of_mem _ hx)
      omega
  have hplen2 : pt.length ≤ 3 := by rw [List.length_cons] at hplen; omega
  have e8 : run fs (n + 11) 39 [.lst (((p0 + 1) :: pt).map D.int)] (cs a3 b3 rest) = _ := s_lawLean (n := n + 10) ((p0 + 1) :: pt) (by rw [List.length_cons]; omega)
  have hlnl : (ln ((p0 + 1) :: pt)).length ≤ 4 := by
    have := ln_len ((p0 + 1) :: pt)
    rw [List.length_cons] at this
    omega
  have hlnb := ln_mem hpb
  obtain ⟨d, a4, b4, e9, hd, g4⟩ := s_lawForm (n := n + 8) (a := a3) (b := b3) (rest := rest) 4 (by decide) g3
  have e9 : run fs (n + 11) 40 [.cell 0, .int 4] _ = _ := e9
  refine ⟨a4, b4, ?_, g4⟩
  have bent : ∃ z5, exs (run fs (n + 11)) (.ife (.cmp .NotEq (.var 3) (.tup .nl)) bnX .skip) [some (.cell 0), some (.lst (R.map D.int)), some (ti (p0 :: pt)), some (ti (ln ((p0 + 1) :: pt))), none, none, none, none, none] (cs a3 b3 rest) = .ok (.nx [some (.cell 0), some (.lst (R.map D.int)), some (ti (p0 :: pt)), some (ti (ln ((p0 + 1) :: pt))), none, z5, none, none, none]) (cs a3 b3 rest) := by
    have c1 := ne_nil_ti (μ := cs a3 b3 rest) (ln ((p0 + 1) :: pt))
    by_cases h0 : ln ((p0 + 1) :: pt) = []
    · rw [h0] at c1 ⊢
      refine ⟨none, ?_⟩
      generalize run fs (n + 11) = cl
      simp only [exs_ife, ev_cmp, ev_var, List.getElem?_cons_zero, List.getElem?_cons_succ, Rs.bind_ok, ev_tup, evs_nl, frzs_nil, fit0, Option.map_some, Rs.of_some, c1, onB_bl, List.isEmpty_nil, Bool.not_true, Bool.false_eq_true, if_false, exs_skip]
    · obtain ⟨z5, e⟩ := bent_run (n := n) (μ := cs a3 b3 rest) _ (fm_ln h0) hlnl hlnb (.cell 0) (.lst (R.map D.int)) (ti (p0 :: pt))
      have h1 : (ln ((p0 + 1) :: pt)).isEmpty = false := by
        cases h : ln ((p0 + 1) :: pt) with
        | nil => exact absurd h h0
        | cons _ _ => rfl
      rw [h1] at c1
      refine ⟨z5, ?_⟩
      generalize run fs (n + 11) = cl at e ⊢
      simp only [exs_ife, ev_cmp, ev_var, List.getElem?_cons_zero, List.getElem?_cons_succ, Rs.bind_ok, ev_tup, evs_nl, frzs_nil, fit0, Option.map_some, Rs.of_some, c1, onB_bl, Bool.not_false, if_true]
      exact e
  obtain ⟨z5, bent⟩ := bent
  -- the drawn form
  have dr : d ≠ [] → run fs (n + 11) 29 [ti d] (cs a4 b4 rest) = _ := fun h => drawn_roots (n := n) (μ := cs a4 b4 rest) d hd h
  have dl : run fs (n + 11) 34 _ (cs a4 b4 rest) = _ := like_ti (n := n + 8) ((upL 1 39).filter fun m => decide (pv d m = 0)) (by
    have h2 := List.length_filter_le (fun m => decide (pv d m = 0)) (upL 1 39)
    rw [upL_len] at h2
    omega)
  have dv : ∀ m : Int, m.natAbs ≤ 2 ^ 40 → run fs (n + 11) 37 [ti d, .int m] (cs a4 b4 rest) = _ := fun m hm => val_few (n := n + 9) d m (by have := hd.len; omega) (fo_bd hd) hm
  have k2 : rngOk 1 40 = true := by decide +kernel
  have e3 : run fs (n + 11) 32 _ _ = _ := e3
  simp only [List.map_cons, List.map_nil] at e3
  rw [r_45]
  simp only [f_45]
  generalize run fs (n + 11) = cl at e2 e3 e4 e5 e6 e7 e8 e9 bent dr dl dv ⊢
  have q1 : compR (.ok (R.map D.int, none) (cs a3 b3 rest)) (turn cl [8] (.var 8) (.var 8) (.one (.cmp .Gt (.var 8) (.int (0)))) [some (.cell 0), some (.lst (R.map D.int)), some (ti (p0 :: pt)), none, none, none, none, none, none]) = .ok ((R.filter fun a => decide (0 < a)).map D.int) (cs a3 b3 rest) :=
    filter_ints (fun a => decide (0 < a)) R (by omega) fun x hx => by
      rw [turn1 (ρ1 := [some (.cell 0), some (.lst (R.map D.int)), some (ti (p0 :: pt)), none, none, none, none, none, some (.int x)]) rfl]
      simp only [evC_one, ev_cmp, ev_var, ev_int, List.getElem?_cons_zero, List.getElem?_cons_succ, Rs.bind_ok, gt_int, Option.map_some, Rs.of_some, asB_bl, keepE_ok, frz_int]
      by_cases h : 0 < x <;> simp [h]
  have q2 := sortedset_ints (μ := cs a3 b3 rest) (.lst ((R.filter fun a => decide (0 < a)).map D.int)) (R.filter fun a => decide (0 < a)) (.inl rfl) (by
    have h2 := List.length_filter_le (fun a => decide (0 < a)) R
    omega)
  have i0 : idxD (cs a3 b3 rest) (ti (p0 :: pt)) (.int 0) = some (.int p0) := idx_nat (k := 0) rfl rfl
  have c1 : slcD (cs a3 b3 rest) (ti (p0 :: pt)) (some 1) none = some (ti pt) := by
    show some (D.tup (cutD ((p0 :: pt).map D.int) (some ((1 : Nat) : Int)) none)) = _
    rw [cut_from (by simp)]
    rfl
  have c2 : binD (cs a3 b3 rest) .Add (.lst [.int (p0 + 1)]) (.lst (pt.map D.int)) = some (.lst (((p0 + 1) :: pt).map D.int)) := by
    rw [cat_lst (by rw [List.length_map]; show 1 + pt.length ≤ _; omega)]
    rfl
  have s1 : exs cl (.set (.var 1) (.comp [6] rrX (.var 6) (.rng1 (.call 31 (.cs (.var 0) (.cs (.int (4)) .nl)))) .nl)) [some (.cell 0), none, none, none, none, none, none, none, none] (cs a b rest) = .ok (.nx [some (.cell 0), some (.lst (R.map D.int)), none, none, none, none, none, none, none]) (cs a2 b2 rest) := by
    simp only [exs_set, ev_comp, e7, e2, Rs.bind_ok]
    rfl
  have s2 : exs cl (.set (.var 2) (.call 44 (.cs (.var 1) (.cs (.call 32 (.cs (.var 0) (.cs (.lst (.cs (.int (1)) (.cs (.neg (.int (1))) (.cs (.int (3)) (.cs (.int (12)) .nl))))) .nl))) .nl)))) [some (.cell 0), some (.lst (R.map D.int)), none, none, none, none, none, none, none] (cs a2 b2 rest) = .ok (.nx [some (.cell 0), some (.lst (R.map D.int)), some (ti (p0 :: pt)), none, none, none, none, none, none]) (cs a3 b3 rest) := by
    simp only [exs_set, ev_call, evs_cs, evs_nl, ev_var, List.getElem?_cons_zero, List.getElem?_cons_succ, Rs.bind_ok, ev_lst, ev_int, ev_neg, mkL_ok, frzs_cons, frzs_nil, frz_int, fit_ok (show [D.int 1, D.int (-1), D.int 3, D.int 12].length ≤ 1000000 by show 4 ≤ 1000000; decide), Rs.of_some, e3, e4]
    rfl
  rw [seq_run s1, seq_run s2, seq_run (ρ1 := [some (.cell 0), some (.lst (R.map D.int)), some (ti (p0 :: pt)), none, none, none, none, none, none]) (μ1 := cs a3 b3 rest) (by
    simp only [exs_ife, ev_not, ev_call, evs_cs, evs_nl, ev_var, List.getElem?_cons_zero, List.getElem?_cons_succ, Rs.bind_ok, e5, ev_bi, ev_comp, evI_one, seqOf_lst, lockOf_lst, q1, q2, Rs.of_some, tup_lst, e6, onB_bl, Bool.not_true, Bool.false_eq_true, if_false, exs_skip])]
  rw [seq_run (ρ1 := [some (.cell 0), some (.lst (R.map D.int)), some (ti (p0 :: pt)), some (ti (ln ((p0 + 1) :: pt))), none, none, none, none, none]) (μ1 := cs a3 b3 rest) (by
    simp only [exs_set, ev_call, evs_cs, evs_nl, ev_var, List.getElem?_cons_zero, List.getElem?_cons_succ, Rs.bind_ok, ev_bin, ev_lst, ev_idx, ev_int, i0, Rs.of_some, add_int, mkL_ok, frzs_cons, frzs_nil, frz_int, fit1, ev_bi, ev_slc, evO_one, evO_nl, c1, list_ti, c2, e8]
    rfl)]
  rw [seq_run bent, seq_run (ρ1 := [some (.cell 0), some (.lst (R.map D.int)), some (ti (p0 :: pt)), some (ti (ln ((p0 + 1) :: pt))), some (ti d), z5, none, none, none]) (μ1 := cs a4 b4 rest) (by
    simp only [exs_set, ev_call, evs_cs, evs_nl, ev_var, ev_int, List.getElem?_cons_zero, List.getElem?_cons_succ, Rs.bind_ok, e9]
    rfl)]
  have c5 := eq_nil (μ := cs a4 b4 rest) d
  cases d with
  | nil =>
    have c5 : cmpD (cs a4 b4 rest) .Eq (ti []) (.tup []) = some true := c5
    simp only [exs_seq, exs_ife, ev_cmp, ev_var, List.getElem?_cons_zero, List.getElem?_cons_succ, Rs.bind_ok, ev_tup, evs_nl, frzs_nil, fit0, Option.map_some, Rs.of_some, c5, onB_bl, if_true, exs_ret, ev_bl, leave_bl, cs_take2]
  | cons d0 dt =>
    have c5 : cmpD (cs a4 b4 rest) .Eq (ti (d0 :: dt)) (.tup []) = some false := c5
    have dr := dr (by simp)
    have q3 : compR (.ok ((upL 1 (40 - 1 : Int).toNat).map D.int, none) (cs a4 b4 rest)) (turn cl [7] (.var 7) (.var 7) (.one (.cmp .Eq (.call 37 (.cs (.var 4) (.cs (.var 7) .nl))) (.int (0)))) [some (.cell 0), some (.lst (R.map D.int)), some (ti (p0 :: pt)), some (ti (ln ((p0 + 1) :: pt))), some (ti (d0 :: dt)), z5, none, none, none]) = .ok (((upL 1 39).filter fun m => decide (pv (d0 :: dt) m = 0)).map D.int) (cs a4 b4 rest) :=
      filter_ints (fun m => decide (pv (d0 :: dt) m = 0)) _ (by rw [upL_len]; decide) fun x hx => by
        rw [upL_mem] at hx
        have hx2 : x < 40 := by have := hx.2; omega
        have hxb : x.natAbs ≤ 2 ^ 40 := by
          have : (50 : Nat) ≤ 2 ^ 40 := by decide
          omega
        have dv := dv x hxb
        rw [turn1 (ρ1 := [some (.cell 0), some (.lst (R.map D.int)), some (ti (p0 :: pt)), some (ti (ln ((p0 + 1) :: pt))), some (ti (d0 :: dt)), z5, none, some (.int x), none]) rfl]
        simp only [evC_one, ev_cmp, ev_var, ev_int, ev_call, evs_cs, evs_nl, List.getElem?_cons_zero, List.getElem?_cons_succ, Rs.bind_ok, dv, eq_int, Option.map_some, Rs.of_some, asB_bl, keepE_ok, frz_int]
        by_cases h : pv (d0 :: dt) x = 0
        · rw [decide_eq_true h]
          rfl
        · rw [decide_eq_false h]
          rfl
    simp only [exs_seq, exs_ife, ev_cmp, ev_var, List.getElem?_cons_zero, List.getElem?_cons_succ, Rs.bind_ok, ev_tup, evs_nl, frzs_nil, fit0, Option.map_some, Rs.of_some, c5, onB_bl, Bool.false_eq_true, if_false, exs_skip, exs_ret, ev_call, evs_cs, dr, ev_bi, ev_comp, rng2_go 1 40 k2, q3, tup_lst, dl, leave_bl, cs_take2]
end Tab
namespace Tab
open PySem DL
theorem isg_run {n : Nat} {μ : Store} (d : D) (h : dataD d = true) : run fs (n + 6) 25 [d] μ = .ok (.bl (growD d)) μ := by
  have q := grow_run (n := n) (μ := μ) d h
  rw [r_25]
  simp only [f_25]
  generalize run fs (n + 5) = cl at q ⊢
  simp only [exs_ret, ev_call, evs_cs, evs_nl, ev_var, List.getElem?_cons_zero, Rs.bind_ok, q, leave_bl, List.take_length]
theorem iss_run {n : Nat} {μ : Store} (d : D) (h : dataD d = true) : run fs (n + 5) 24 [d] μ = .ok (.bl (shapeD d)) μ := by
  have q := shape_run (n := n) (μ := μ) d h
  rw [r_24]
  simp only [f_24]
  generalize run fs (n + 4) = cl at q ⊢
  simp only [exs_ret, ev_call, evs_cs, evs_nl, ev_var, List.getElem?_cons_zero, Rs.bind_ok, q, leave_bl, List.take_length]
theorem growD_two (b : D) (ps : List D) : growD (.tup [b, .tup ps]) = (formD b && (decide (ps.length ≤ 16) && (ps.all pOk && shapeD (.tup (ps.map fstD))))) := rfl
theorem grow_off {b : D} {ps : List D} (h : shapeD (.tup (ps.map fstD)) = false) : growD (.tup [b, .tup ps]) = false := by
  rw [growD_two, h, Bool.and_false, Bool.and_false, Bool.and_false]
theorem shape_off {xs : List D} {d : D} (h : d ∈ xs) (hd : sizeD d = false) : shapeD (.tup xs) = false := by
  have : xs.all sizeD = false := by
    rw [List.all_eq_false]
    exact ⟨d, h, by rw [hd]; simp⟩
  show (decide (xs.length ≤ 16) && (xs.all sizeD && _)) = false
  rw [this, Bool.false_and, Bool.and_false]
/-- one pair more with an odd size -/
theorem odd_size (b : D) (ps : List D) (s st : D) (h : sizeD s = false) : growD (.tup [b, .tup (ps ++ [.tup [s, st]])]) = false :=
  grow_off (shape_off (d := s) (by rw [List.map_append]; exact List.mem_append_right _ (List.mem_singleton.mpr rfl)) h)
theorem odd_step (b : D) (ps : List D) (s st : D) (h : formD st = false) : growD (.tup [b, .tup (ps ++ [.tup [s, st]])]) = false := by
  have : (ps ++ [D.tup [s, st]]).all pOk = false := by
    rw [List.all_eq_false]
    refine ⟨D.tup [s, st], List.mem_append_right _ (List.mem_singleton.mpr rfl), ?_⟩
    show ¬ formD st = true
    rw [h]
    simp
  rw [growD_two, this, Bool.false_and, Bool.and_false, Bool.and_false]
theorem odd_beg (b : D) (p : D) (h : formD b = false) : growD (.tup [b, p]) = false := by
  cases p with
  | tup ps => rw [growD_two, h, Bool.false_and]
  | _ => rfl
theorem sum_nonneg {Z : List (Int × Int)} (h : ∀ s ∈ Z, GS s) : 0 ≤ (Z.map (·.2)).sum := by
  induction Z with
  | nil => exact Int.le_refl _
  | cons s Z ih =>
    rw [List.map_cons, List.sum_cons]
    have h1 := ih fun t ht => h t (List.mem_cons_of_mem _ ht)
    have h2 := (h s (List.mem_cons_self ..)).2.2.1
    omega
theorem sum_app (a b : List Int) : (a ++ b).sum = a.sum + b.sum := by
  induction a with
  | nil => simp
  | cons x a ih => rw [List.cons_append, List.sum_cons, ih, List.sum_cons]; omega
theorem fst_pD (ps : List Pair) : (ps.map pD).map fstD = (ps.map (·.1)).map sD := by
  rw [List.map_map, List.map_map]
  rfl
theorem gs_app {Z : List (Int × Int)} {s : Int × Int} (h : ∀ s ∈ Z, GS s) (hs : GS s) : ∀ t ∈ Z ++ [s], GS t := fun t ht => by
  rcases List.mem_append.mp ht with ht | ht
  · exact h t ht
  · rw [List.mem_singleton.mp ht]
    exact hs
theorem odd_two {b0 : List Int} {ps : List Pair} (h : Gw b0 ps) : growD (gD b0 (ps ++ [((1, 1), []), ((2, 1), [])])) = false := by
  refine grow_off ?_
  rw [fst_pD, shape_sizes (fun s hs => by
    rw [List.map_append] at hs
    rcases List.mem_append.mp hs with hs | hs
    · exact h.size.gs s hs
    · simp at hs
      rcases hs with rfl | rfl
      · exact ⟨by decide, by decide, by decide, by decide⟩
      · exact ⟨by decide, by decide, by decide, by decide⟩)]
  have h0 := sum_nonneg h.size.gs
  have e : ((ps ++ [((1, 1), []), ((2, 1), [])] : List Pair).map (·.1)).map (·.2) = (ps.map (·.1)).map (·.2) ++ [1, 1] := by
    rw [List.map_append, List.map_append]
    rfl
  rw [e, sum_app]
  have h3 : ([1, 1] : List Int).sum = 2 := rfl
  rw [h3, decide_eq_false (show ¬ ((ps.map (·.1)).map (·.2)).sum + 2 ≤ 1 by omega), Bool.false_and, Bool.and_false]
theorem more_one {b0 : List Int} {ps : List Pair} (h : Gw b0 ps) : growD (gD b0 (ps ++ [((1, 1), [1])])) = decide ((ps.map (·.1.2)).sum = 0) := by
  have h0 := sum_nonneg h.size.gs
  have e : ((ps ++ [((1, 1), [1])] : List Pair).map (·.1)).map (·.2) = (ps.map (·.1)).map (·.2) ++ [1] := by
    rw [List.map_append, List.map_append]
    rfl
  have e2 : ((ps ++ [((1, 1), [1])] : List Pair).map (·.1)).map (·.1) = (ps.map (·.1)).map (·.1) ++ [1] := by
    rw [List.map_append, List.map_append]
    rfl
  have e3 : (ps.map (·.1)).map (·.2) = ps.map (·.1.2) := by rw [List.map_map]; rfl
  have hall : ((ps ++ [((1, 1), [1])] : List Pair).map pD).all pOk = true := by
    rw [List.all_eq_true]
    intro x hx
    obtain ⟨p, hp, rfl⟩ := List.mem_map.mp hx
    rcases List.mem_append.mp hp with hp | hp
    · exact (h.step p hp).gf.form
    · rw [List.mem_singleton.mp hp]
      rfl
  have hlen := h.len
  show growD (.tup [ti b0, .tup ((ps ++ [((1, 1), [1])] : List Pair).map pD)]) = _
  rw [growD_two, fst_pD, shape_sizes (by
    rw [List.map_append]
    exact gs_app h.size.gs ⟨by decide, by decide, by decide, by decide⟩), e, e2, (h.beg.gf (by decide)).form, hall, sum_app, prod_snoc, Int.mul_one, e3]
  rw [e3] at h0
  have hn := h.size.num
  rw [decide_eq_true (show ((ps ++ [((1, 1), [1])] : List Pair).map pD).length ≤ 16 by rw [List.length_map, List.length_append]; show ps.length + 1 ≤ 16; omega),
    decide_eq_true (show ((ps ++ [((1, 1), [1])] : List Pair).map (·.1)).length ≤ 16 by rw [List.length_map, List.length_append]; show ps.length + 1 ≤ 16; omega),
    decide_eq_true (show prod ((ps.map (·.1)).map (·.1)) ≤ 5000 by omega)]
  have h3 : ([1] : List Int).sum = 1 := rfl
  rw [h3]
  simp only [Bool.true_and, Bool.and_true]
  apply decide_eq_decide.mpr
  omega
theorem odd_last (b0 : List Int) : formD (ti (b0 ++ [0])) = false := by
  rw [formD_ti]
  have : decide (∀ h : b0 ++ [0] ≠ [], (b0 ++ [0]).getLast h ≠ 0) = false := by
    apply decide_eq_false
    intro h
    exact h (by simp) (by simp)
  rw [this, Bool.and_false]
end Tab
namespace Tab
open PySem DL
abbrev wkB : SX := .seq (.set (.var 7) (.call 40 (.cs (.var 0) (.cs (.int (4)) .nl)))) (.ife (.not (.call 34 (.cs (.lst (.cs (.call 27 (.cs (.var 1) (.cs (.var 2) .nl))) (.cs (.call 28 (.cs (.var 7) (.cs (.var 2) .nl))) .nl))) (.cs (.lst (.cs (.call 43 (.cs (.var 1) (.cs (.var 2) .nl))) (.cs (.call 37 (.cs (.var 7) (.cs (.var 2) .nl))) .nl))) .nl)))) (.ret (.bl false)) .skip)
theorem lv_walk (b0 : List Int) (ps : List Pair) (m v : Int) (hl : ps.length ≤ 1000) : Lv 4 (.lst [walkN b0 ps m, .int v]) := by
  refine Lv.lst (by show 2 ≤ 1000; decide) fun x hx => ?_
  rcases List.mem_cons.mp hx with rfl | hx
  · refine Lv.tup (by show 2 ≤ 1000; decide) fun y hy => ?_
    rcases List.mem_cons.mp hy with rfl | hy
    · exact Lv.int _ _
    · rw [List.mem_singleton.mp hy]
      refine Lv.tup (by rw [List.length_map]; exact hl) fun z hz => ?_
      obtain ⟨p, _, rfl⟩ := List.mem_map.mp hz
      exact Lv.tup (by show 2 ≤ 1000; decide) fun w hw => by
        rcases List.mem_cons.mp hw with rfl | hw
        · exact Lv.int _ _
        · rw [List.mem_singleton.mp hw]
          exact Lv.int _ _
  · rw [List.mem_singleton.mp hx]
    exact Lv.int _ _
theorem frz_walk (b0 : List Int) (ps : List Pair) (m : Int) (μ : Store) : frz (walkN b0 ps m) μ = .ok (walkN b0 ps m) μ := rfl
theorem wk_turn {n : Nat} {a b : Int} {rest : Store} (b0 : List Int) (ps : List Pair) (hg : Gw b0 ps) (m : Int) (hm : 1 ≤ m ∧ m ≤ 1000000000) (z2 z7 : Option D) (hb : Gd b) :
    ∃ z7' a' b', loopF (run fs (n + 11)) (.var 2) wkB (.int m) [some (.cell 0), some (gD b0 ps), z2, none, none, none, none, z7, none, none, none, none, none] (cs a b rest) = .ok (.nx [some (.cell 0), some (gD b0 ps), some (.int m), none, none, none, none, z7', none, none, none, none, none]) (cs a' b' rest) ∧ Gd b' := by
  obtain ⟨l, a1, b1, e1, hl, g1⟩ := s_lawForm (n := n + 8) (a := a) (b := b) (rest := rest) 4 (by decide) hb
  have e1 : run fs (n + 11) 40 [.cell 0, .int 4] _ = _ := e1
  have hlen := hg.len
  have e2 : run fs (n + 11) 27 [gD b0 ps, .int m] (cs a1 b1 rest) = _ := s_growing_at (n := n + 4) b0 ps hg.grow (by omega) m hm
  have e3 : run fs (n + 11) 28 [ti l, .int m] (cs a1 b1 rest) = _ := s_form_at (n := n + 6) l (hl.gf (by decide)) m hm
  have e4 : run fs (n + 11) 43 [gD b0 ps, .int m] (cs a1 b1 rest) = _ := s_lawAt (n := n + 8) b0 ps m hg hm
  have e5 : run fs (n + 11) 37 [ti l, .int m] (cs a1 b1 rest) = _ := val_few (n := n + 9) l m (by have := hl.len; omega) (fo_bd hl) (val_size hm)
  have e6 : run fs (n + 11) 34 _ (cs a1 b1 rest) = _ := like_self 4 (n + 5) (cs a1 b1 rest) _ (lv_walk b0 ps m (pv l m) (by omega))
  refine ⟨some (ti l), a1, b1, ?_, g1⟩
  generalize run fs (n + 11) = cl at e1 e2 e3 e4 e5 e6 ⊢
  unfold loopF
  rw [show Rs.of (asg (.var 2) (.int m) [some (.cell 0), some (gD b0 ps), z2, none, none, none, none, z7, none, none, none, none, none]) (cs a b rest) = .ok [some (.cell 0), some (gD b0 ps), some (.int m), none, none, none, none, z7, none, none, none, none, none] (cs a b rest) from rfl, Rs.bind_ok]
  rw [seq_run (ρ1 := [some (.cell 0), some (gD b0 ps), some (.int m), none, none, none, none, some (ti l), none, none, none, none, none]) (μ1 := cs a1 b1 rest) (by
    simp only [exs_set, ev_call, evs_cs, evs_nl, ev_var, ev_int, List.getElem?_cons_zero, List.getElem?_cons_succ, Rs.bind_ok, e1]
    rfl)]
  simp only [exs_ife, ev_not, ev_call, evs_cs, evs_nl, ev_var, List.getElem?_cons_zero, List.getElem?_cons_succ, Rs.bind_ok, ev_lst, e2, e3, e4, e5, mkL_ok, frzs_cons, frzs_nil, frz_walk, frz_int, fit2, Rs.of_some, e6, onB_bl, Bool.not_true, Bool.false_eq_true, if_false, exs_skip]
theorem wk_loop {n : Nat} {rest : Store} (b0 : List Int) (ps : List Pair) (hg : Gw b0 ps) : ∀ (ms : List Int) (a b : Int) (z2 z7 : Option D), (∀ m ∈ ms, 1 ≤ m ∧ m ≤ 1000000000) → Gd b →
    ∃ z2' z7' a' b', loopL (loopF (run fs (n + 11)) (.var 2) wkB) (ms.map D.int) [some (.cell 0), some (gD b0 ps), z2, none, none, none, none, z7, none, none, none, none, none] (cs a b rest) = .ok (.nx [some (.cell 0), some (gD b0 ps), z2', none, none, none, none, z7', none, none, none, none, none]) (cs a' b' rest) ∧ Gd b'
  | [], a, b, z2, z7, _, hb => ⟨z2, z7, a, b, rfl, hb⟩
  | m :: ms, a, b, z2, z7, hm, hb => by
    obtain ⟨z7', a1, b1, e1, g1⟩ := wk_turn (n := n) (a := a) (b := b) (rest := rest) b0 ps hg m (hm m (List.mem_cons_self ..)) z2 z7 hb
    obtain ⟨z2'', z7'', a2, b2, e2, g2⟩ := wk_loop (n := n) b0 ps hg ms a1 b1 (some (.int m)) z7' (fun x hx => hm x (List.mem_cons_of_mem _ hx)) g1
    refine ⟨z2'', z7'', a2, b2, ?_, g2⟩
    rw [List.map_cons, loopL, e1, Rs.bind_ok]
    exact e2
theorem pow_9 {μ : Store} : binD μ .Pow (.int 10) (.int 9) = some (.int 1000000000) := by
  show (if powOk 10 9 then some (D.int ((10 : Int) ^ (9 : Int).toNat)) else none) = _
  have e : powOk 10 9 = true := by decide +kernel
  rw [if_pos e]
  rfl
/-- the odd ones -/
def oddL (b0 : List Int) (P : List D) : List D := [.tup [ti b0, .tup (P ++ [.tup [.tup [.int 1, .int 1], .tup []], .tup [.tup [.int 2, .int 1], .tup []]])], .tup [ti b0, .tup (P ++ [.tup [.tup [.int 0, .int 0], .tup []]])],
  .tup [ti b0, .tup (P ++ [.tup [.tup [.int 5001, .int 0], .tup []]])], .tup [ti b0, .tup (P ++ [.tup [.tup [.int 2, .int 0], .int 1]])]] ++
  [.tup [.int 0, .tup P], .tup [ti b0, .lst P], .lst [ti b0, .tup P], .tup [ti (b0 ++ [0]), .tup P], .tup [ti b0, .tup P, .tup []], .non, .tup [ti b0, .tup (P ++ [.tup [.tup [.int 2, .int 2], .tup []]])]]
theorem odd_all {b0 : List Int} {ps : List Pair} (h : Gw b0 ps) : ∀ d ∈ oddL b0 (ps.map pD), growD d = false := fun d hd => by
  simp only [oddL, List.cons_append, List.nil_append, List.mem_cons, List.not_mem_nil, or_false] at hd
  rcases hd with rfl | rfl | rfl | rfl | rfl | rfl | rfl | rfl | rfl | rfl | rfl
  · have := odd_two h
    show growD (.tup [ti b0, .tup (ps.map pD ++ [pD ((1, 1), []), pD ((2, 1), [])])]) = false
    rw [show ps.map pD ++ [pD ((1, 1), []), pD ((2, 1), [])] = (ps ++ [((1, 1), []), ((2, 1), [])]).map pD by rw [List.map_append]; rfl]
    exact this
  · exact odd_size _ _ _ _ rfl
  · exact odd_size _ _ _ _ rfl
  · exact odd_step _ _ _ _ rfl
  · exact odd_beg _ _ rfl
  · rfl
  · rfl
  · exact odd_beg _ _ (odd_last b0)
  · rfl
  · rfl
  · exact odd_size _ _ _ _ rfl
theorem data_ps (ps : List Pair) : ∀ x ∈ ps.map pD, dataD x = true := fun x hx => by
  obtain ⟨p, _, rfl⟩ := List.mem_map.mp hx
  exact data_pD p
theorem data_cons {x : D} {xs : List D} (h : dataD x = true) (h2 : ∀ y ∈ xs, dataD y = true) : ∀ y ∈ x :: xs, dataD y = true := fun y hy => by
  rcases List.mem_cons.mp hy with rfl | hy
  · exact h
  · exact h2 y hy
theorem data_app {xs ys : List D} (h : ∀ y ∈ xs, dataD y = true) (h2 : ∀ y ∈ ys, dataD y = true) : ∀ y ∈ xs ++ ys, dataD y = true := fun y hy => by
  rcases List.mem_append.mp hy with hy | hy
  · exact h y hy
  · exact h2 y hy
theorem data_none : ∀ y ∈ ([] : List D), dataD y = true := fun y hy => by simp at hy
theorem data_lst {xs : List D} (h : ∀ x ∈ xs, dataD x = true) : dataD (.lst xs) = true := by
  rw [dataD]
  exact dataL_of h
theorem odd_data (b0 : List Int) (ps : List Pair) : ∀ d ∈ oddL b0 (ps.map pD), dataD d = true := by
  have hp := data_ps ps
  have h2 : ∀ s, (∀ y ∈ s, dataD y = true) → dataD (.tup [ti b0, .tup (ps.map pD ++ s)]) = true := fun s hs => data_of (data_cons (data_ti _) (data_cons (data_of (data_app hp hs)) data_none))
  unfold oddL
  refine data_app (data_cons ?_ (data_cons ?_ (data_cons ?_ (data_cons ?_ data_none)))) (data_cons ?_ (data_cons ?_ (data_cons ?_ (data_cons ?_ (data_cons ?_ (data_cons ?_ (data_cons ?_ data_none)))))))
  · exact h2 _ (data_cons rfl (data_cons rfl data_none))
  · exact h2 _ (data_cons rfl data_none)
  · exact h2 _ (data_cons rfl data_none)
  · exact h2 _ (data_cons rfl data_none)
  · exact data_of (data_cons rfl (data_cons (data_of hp) data_none))
  · exact data_of (data_cons (data_ti _) (data_cons (data_lst hp) data_none))
  · exact data_lst (data_cons (data_ti _) (data_cons (data_of hp) data_none))
  · exact data_of (data_cons (data_ti _) (data_cons (data_of hp) data_none))
  · exact data_of (data_cons (data_ti _) (data_cons (data_of hp) (data_cons rfl data_none)))
  · rfl
  · exact h2 _ (data_cons rfl data_none)
end Tab
namespace Tab
open PySem DL
abbrev E13 (b0 : List Int) (ps : List Pair) (z2 z3 z4 z5 z6 z7 z8 z9 : Option D) : DL.Env := [some (.cell 0), some (gD b0 ps), z2, z3, z4, z5, z6, z7, z8, z9, none, none, none]
theorem frz_gD (b0 : List Int) (ps : List Pair) (μ : Store) : frz (gD b0 ps) μ = .ok (gD b0 ps) μ := rfl
theorem s_walkRight {n : Nat} {a b : Int} {rest : Store} (hb : Gd b) : ∃ a' b', run fs (n + 12) 46 [.cell 0] (cs a b rest) = .ok (.bl true) (cs a' b' rest) ∧ Gd b' := by
  obtain ⟨b0, ps, a1, b1, e1, hg, g1⟩ := s_lawGrowing (n := n + 7) (a := a) (b := b) (rest := rest) hb
  have e1 : run fs (n + 11) 42 [.cell 0, .int 60] _ = _ := e1
  obtain ⟨r1, a2, b2, e2, p1, p2, g2⟩ := s_rollI (n := n + 10) (a := a1) (b := b1) (rest := rest) 50 (by decide) (by decide) g1
  obtain ⟨r2, a3, b3, e3, p3, p4, g3⟩ := s_rollI (n := n + 10) (a := a2) (b := b2) (rest := rest) 50 (by decide) (by decide) g2
  have e2 : run fs (n + 11) 31 _ _ = _ := e2
  have e3 : run fs (n + 11) 31 _ _ = _ := e3
  obtain ⟨z2, z7, a4, b4, e4, g4⟩ := wk_loop (n := n) (rest := rest) b0 ps hg [1, 2, 1 + r1, 1000000000 - r2] a3 b3 none none (fun m hm => by
    simp only [List.mem_cons, List.not_mem_nil, or_false] at hm
    rcases hm with rfl | rfl | rfl | rfl
    · decide
    · decide
    · omega
    · omega) g3
  simp only [List.map_cons, List.map_nil] at e4
  refine ⟨a4, b4, ?_, g4⟩
  have hlen := hg.len
  have e5 : run fs (n + 11) 26 [gD b0 ps] (cs a4 b4 rest) = _ := s_growing_number (n := n + 4) b0 ps hg
  have e6 : ∀ d, dataD d = true → run fs (n + 11) 25 [d] (cs a4 b4 rest) = _ := fun d hd => isg_run (n := n + 5) d hd
  have hsh : dataD (.tup ((ps.map (·.1)).map sD)) = true := data_of fun x hx => by
    obtain ⟨s, _, rfl⟩ := List.mem_map.mp hx
    exact data_ti _
  have e7 : run fs (n + 11) 24 [.tup ((ps.map (·.1)).map sD)] (cs a4 b4 rest) = _ := iss_run (n := n + 6) _ hsh
  rw [hg.size.shape] at e7
  have e8 : run fs (n + 11) 35 [.lst ((ps.map (·.1.1)).map D.int)] (cs a4 b4 rest) = _ := s_lawNumber (n := n + 10) _ (ps.map (·.1.1)) (.inl rfl) fun s hs => by
    obtain ⟨p, hp, rfl⟩ := List.mem_map.mp hs
    have := hg.size.rng p.1 (List.mem_map_of_mem hp)
    exact small_6 ⟨this.1, this.2.1⟩
  have e9 : run fs (n + 11) 34 _ (cs a4 b4 rest) = _ := like_self 2 (n + 7) (cs a4 b4 rest) (.lst [ti [prod (ps.map (·.1.1)), (ps.map (·.1.2)).sum], .bl true, .bl true]) (Lv.lst (by show 3 ≤ 1000; decide) fun x hx => by
    simp only [List.mem_cons, List.not_mem_nil, or_false] at hx
    rcases hx with rfl | rfl | rfl
    · exact Lv.ti (by show 2 ≤ 1000; decide) 0
    · exact Lv.bl _ _
    · exact Lv.bl _ _)
  have e10 : run fs (n + 11) 34 _ (cs a4 b4 rest) = _ := like_self 0 (n + 9) (cs a4 b4 rest) (.bl (decide ((ps.map (·.1.2)).sum = 0))) (Lv.bl _ 0)
  have e11 := e6 (gD b0 ps) (data_gD b0 ps)
  rw [hg.grow] at e11
  have e12 : run fs (n + 11) 25 [.tup [ti b0, .tup (ps.map pD ++ [.tup [.tup [.int 1, .int 1], .tup [.int 1]]])]] (cs a4 b4 rest) = .ok (.bl (decide ((ps.map (·.1.2)).sum = 0))) (cs a4 b4 rest) := by
    have q := e6 (gD b0 (ps ++ [((1, 1), [1])])) (data_gD _ _)
    rw [more_one hg] at q
    rw [show ps.map pD ++ [.tup [.tup [.int 1, .int 1], .tup [.int 1]]] = (ps ++ [((1, 1), [1])]).map pD by rw [List.map_append]; rfl]
    exact q
  have e13 : ∀ d ∈ oddL b0 (ps.map pD), run fs (n + 11) 25 [d] (cs a4 b4 rest) = .ok (.bl false) (cs a4 b4 rest) := fun d hd => by
    rw [e6 d (odd_data b0 ps d hd), odd_all hg d hd]
  have c9 : ∀ μ : Store, binD μ .Pow (.int 10) (.int 9) = some (.int 1000000000) := fun μ => pow_9
  rw [r_46]
  simp only [f_46]
  generalize run fs (n + 11) = cl at e1 e2 e3 e4 e5 e7 e8 e9 e10 e11 e12 e13 ⊢
  generalize hμ : cs a4 b4 rest = μ at e4 e5 e7 e8 e9 e10 e11 e12 e13 ⊢
  have s1 : exs cl (.set (.var 1) (.call 42 (.cs (.var 0) (.cs (.int (60)) .nl)))) [some (.cell 0), none, none, none, none, none, none, none, none, none, none, none, none] (cs a b rest) = .ok (.nx (E13 b0 ps none none none none none none none none)) (cs a1 b1 rest) := by
    simp only [exs_set, ev_call, evs_cs, evs_nl, ev_var, ev_int, List.getElem?_cons_zero, Rs.bind_ok, e1]
    rfl
  have s2 : exs cl (.loop (.var 2) (.one (.tup (.cs (.int (1)) (.cs (.int (2)) (.cs (.bin .Add (.int (1)) (.call 31 (.cs (.var 0) (.cs (.int (50)) .nl)))) (.cs (.bin .Sub (.bin .Pow (.int (10)) (.int (9))) (.call 31 (.cs (.var 0) (.cs (.int (50)) .nl)))) .nl)))))) wkB) (E13 b0 ps none none none none none none none none) (cs a1 b1 rest) = .ok (.nx (E13 b0 ps z2 none none none none z7 none none)) μ := by
    simp only [exs_loop, evI_one, ev_tup, evs_cs, evs_nl, ev_int, ev_bin, ev_call, ev_var, List.getElem?_cons_zero, Rs.bind_ok, e2, e3, add_int, sub_int, c9, Rs.of_some, frzs_cons, frzs_nil, frz_int, fit_ok (show [D.int 1, D.int 2, D.int (1 + r1), D.int (1000000000 - r2)].length ≤ 1000000 by show 4 ≤ 1000000; decide), Option.map_some, seqOf_tup, lockOf_tup, locked_none, un_none]
    exact e4
  have s3 : exs cl (.set (.tup (.cs (.var 8) (.cs (.var 9) .nl))) (.var 1)) (E13 b0 ps z2 none none none none z7 none none) μ = .ok (.nx (E13 b0 ps z2 none none none none z7 (some (ti b0)) (some (.tup (ps.map pD))))) μ := rfl
  have i0 : ∀ p : Pair, idxD μ (sD p.1) (.int 0) = some (.int p.1.1) := fun p => idx_nat (k := 0) rfl rfl
  have i1 : ∀ p : Pair, idxD μ (sD p.1) (.int 1) = some (.int p.1.2) := fun p => idx_nat (k := 1) rfl rfl
  have q1 : ∀ z3 z4, compR (.ok (ps.map pD, none) μ) (turn cl [11, 12] (.idx (.var 11) (.int 0)) (.tup (.cs (.var 11) (.cs (.var 12) .nl))) .nl (E13 b0 ps z2 z3 z4 none none z7 (some (ti b0)) (some (.tup (ps.map pD))))) = .ok ((ps.map (·.1.1)).map D.int) μ := fun z3 z4 => by
    rw [compR_map (g := fun d => .int (nuD (fstD d))) (fun x hx => by
      obtain ⟨p, _, rfl⟩ := List.mem_map.mp hx
      rw [turn0 (ρ1 := [some (.cell 0), some (gD b0 ps), z2, z3, z4, none, none, z7, some (ti b0), some (.tup (ps.map pD)), none, some (sD p.1), some (ti p.2)]) rfl]
      simp only [ev_idx, ev_var, ev_int, List.getElem?_cons_zero, List.getElem?_cons_succ, Rs.bind_ok, i0, Rs.of_some, keepE_ok, frz_int]
      rfl) (line_big (by rw [List.length_map]; omega)), List.map_map, List.map_map]
    rfl
  have q2 : ∀ z3 z4, compR (.ok (ps.map pD, none) μ) (turn cl [11, 12] (.idx (.var 11) (.int 1)) (.tup (.cs (.var 11) (.cs (.var 12) .nl))) .nl (E13 b0 ps z2 z3 z4 none none z7 (some (ti b0)) (some (.tup (ps.map pD))))) = .ok ((ps.map (·.1.2)).map D.int) μ := fun z3 z4 => by
    rw [compR_map (g := fun d => .int (flD (fstD d))) (fun x hx => by
      obtain ⟨p, _, rfl⟩ := List.mem_map.mp hx
      rw [turn0 (ρ1 := [some (.cell 0), some (gD b0 ps), z2, z3, z4, none, none, z7, some (ti b0), some (.tup (ps.map pD)), none, some (sD p.1), some (ti p.2)]) rfl]
      simp only [ev_idx, ev_var, ev_int, List.getElem?_cons_zero, List.getElem?_cons_succ, Rs.bind_ok, i1, Rs.of_some, keepE_ok, frz_int]
      rfl) (line_big (by rw [List.length_map]; omega)), List.map_map, List.map_map]
    rfl
  have q3 : ∀ z3 z4, compR (.ok (ps.map pD, none) μ) (turn cl [11, 12] (.var 11) (.tup (.cs (.var 11) (.cs (.var 12) .nl))) .nl (E13 b0 ps z2 z3 z4 none none z7 (some (ti b0)) (some (.tup (ps.map pD))))) = .ok ((ps.map (·.1)).map sD) μ := fun z3 z4 => by
    rw [compR_map (g := fstD) (fun x hx => by
      obtain ⟨p, _, rfl⟩ := List.mem_map.mp hx
      rw [turn0 (ρ1 := [some (.cell 0), some (gD b0 ps), z2, z3, z4, none, none, z7, some (ti b0), some (.tup (ps.map pD)), none, some (sD p.1), some (ti p.2)]) rfl]
      simp only [ev_var, List.getElem?_cons_zero, List.getElem?_cons_succ, keepE_ok, frz_tup, Rs.bind_ok]
      rfl) (line_big (by rw [List.length_map]; omega)), List.map_map, List.map_map]
    rfl
  have q4 := sum_ints (μ := μ) (ps.map (·.1.2))
  have s4 : exs cl (.set (.var 3) (.tup (.cs (.call 35 (.cs (.comp [11, 12] (.idx (.var 11) (.int (0))) (.tup (.cs (.var 11) (.cs (.var 12) .nl))) (.one (.var 9)) .nl) .nl)) (.cs (.bi .sum (.cs (.comp [11, 12] (.idx (.var 11) (.int (1))) (.tup (.cs (.var 11) (.cs (.var 12) .nl))) (.one (.var 9)) .nl) .nl)) .nl)))) (E13 b0 ps z2 none none none none z7 (some (ti b0)) (some (.tup (ps.map pD)))) μ
      = .ok (.nx (E13 b0 ps z2 (some (ti [prod (ps.map (·.1.1)), (ps.map (·.1.2)).sum])) none none none z7 (some (ti b0)) (some (.tup (ps.map pD))))) μ := by
    simp only [exs_set, ev_tup, evs_cs, evs_nl, ev_call, ev_comp, evI_one, ev_var, List.getElem?_cons_zero, List.getElem?_cons_succ, Rs.bind_ok, seqOf_tup, lockOf_tup, q1, q2, e8, ev_bi, q4, Rs.of_some, frzs_cons, frzs_nil, frz_int, fit2, Option.map_some]
    rfl
  have s5 : exs cl (.set (.var 4) (.bi .tuple (.cs (.comp [11, 12] (.var 11) (.tup (.cs (.var 11) (.cs (.var 12) .nl))) (.one (.var 9)) .nl) .nl))) (E13 b0 ps z2 (some (ti [prod (ps.map (·.1.1)), (ps.map (·.1.2)).sum])) none none none z7 (some (ti b0)) (some (.tup (ps.map pD)))) μ
      = .ok (.nx (E13 b0 ps z2 (some (ti [prod (ps.map (·.1.1)), (ps.map (·.1.2)).sum])) (some (.tup ((ps.map (·.1)).map sD))) none none z7 (some (ti b0)) (some (.tup (ps.map pD))))) μ := by
    simp only [exs_set, ev_bi, evs_cs, evs_nl, ev_comp, evI_one, ev_var, List.getElem?_cons_zero, List.getElem?_cons_succ, Rs.bind_ok, seqOf_tup, lockOf_tup, q3, tup_lst, Rs.of_some]
    rfl
  rw [seq_run s1, seq_run s2, seq_run s3, seq_run s4, seq_run s5]
  generalize hN : [prod (ps.map (·.1.1)), (ps.map (·.1.2)).sum] = N at e5 e9 ⊢
  generalize hS : (D.tup ((ps.map (·.1)).map sD)) = S at e7 ⊢
  have fS : True := trivial
  rw [seq_run (ρ1 := E13 b0 ps z2 (some (ti N)) (some S) none none z7 (some (ti b0)) (some (.tup (ps.map pD)))) (μ1 := μ) (by
    simp only [exs_ife, ev_not, ev_call, evs_cs, evs_nl, ev_lst, ev_var, ev_bl, List.getElem?_cons_zero, List.getElem?_cons_succ, Rs.bind_ok, e5, e11, e7, mkL_ok, frzs_cons, frzs_nil, frz_tup, frz_bl, fit_ok (show [ti N, D.bl true, D.bl true].length ≤ 1000000 by show 3 ≤ 1000000; decide), Rs.of_some, e9, onB_bl, Bool.not_true, Bool.false_eq_true, if_false, exs_skip])]
  have hcat : ∀ xs : List D, xs.length ≤ 10 → binD μ .Add (.tup (ps.map pD)) (.tup xs) = some (.tup (ps.map pD ++ xs)) := fun xs hx => cat_tup (by rw [List.length_map]; omega)
  have h1 := fun x => hcat [x] (by show 1 ≤ 10; decide)
  have h2 := fun x y => hcat [x, y] (by show 2 ≤ 10; decide)
  have hb0 : binD μ .Add (ti b0) (.tup [.int 0]) = some (ti (b0 ++ [0])) := by
    rw [cat_tup (by rw [List.length_map]; have := hg.beg.len; show b0.length + 1 ≤ _; omega), ← List.map_singleton (f := D.int), ← List.map_append]
  have hfit : ∀ xs : List D, xs.length ≤ 20 → fitL xs = some xs := fun xs hx => fit_ok (by omega)
  have f3 := fun x y z : D => hfit [x, y, z] (by show 3 ≤ 20; decide)
  have f4 := fun x y z w : D => hfit [x, y, z, w] (by show 4 ≤ 20; decide)
  have f7 := fun x y z w p q r : D => hfit [x, y, z, w, p, q, r] (by show 7 ≤ 20; decide)
  have hlist : biD μ .list [.tup (ps.map pD)] = some (.lst (ps.map pD)) := rfl
  generalize hP : ps.map pD = P at h1 h2 e12 e13 hlist ⊢
  rw [seq_run (ρ1 := E13 b0 ps z2 (some (ti N)) (some S) (some (.tup (P ++ [.tup [.tup [.int 1, .int 1], .tup [.int 1]]]))) none z7 (some (ti b0)) (some (.tup P))) (μ1 := μ) (by
    simp only [exs_set, ev_bin, ev_tup, evs_cs, evs_nl, ev_int, ev_var, List.getElem?_cons_zero, List.getElem?_cons_succ, Rs.bind_ok, frzs_cons, frzs_nil, frz_int, frz_tup, fit0, fit1, fit2, Option.map_some, Rs.of_some, h1]
    rfl)]
  rw [seq_run (ρ1 := E13 b0 ps z2 (some (ti N)) (some S) (some (.tup (P ++ [.tup [.tup [.int 1, .int 1], .tup [.int 1]]]))) (some (.lst [.tup [ti b0, .tup (P ++ [.tup [.tup [.int 1, .int 1], .tup []], .tup [.tup [.int 2, .int 1], .tup []]])], .tup [ti b0, .tup (P ++ [.tup [.tup [.int 0, .int 0], .tup []]])],
      .tup [ti b0, .tup (P ++ [.tup [.tup [.int 5001, .int 0], .tup []]])], .tup [ti b0, .tup (P ++ [.tup [.tup [.int 2, .int 0], .int 1]])]])) z7 (some (ti b0)) (some (.tup P))) (μ1 := μ) (by
    simp only [exs_set, ev_lst, ev_bin, ev_tup, evs_cs, evs_nl, ev_int, ev_var, List.getElem?_cons_zero, List.getElem?_cons_succ, Rs.bind_ok, frzs_cons, frzs_nil, frz_int, frz_tup, fit0, fit1, fit2, Option.map_some, Rs.of_some, h1, h2, mkL_ok, f4]
    rfl)]
  rw [seq_run (ρ1 := E13 b0 ps z2 (some (ti N)) (some S) (some (.tup (P ++ [.tup [.tup [.int 1, .int 1], .tup [.int 1]]]))) (some (.lst (oddL b0 P))) z7 (some (ti b0)) (some (.tup P))) (μ1 := μ) (by
    have hc : ∀ xs ys : List D, xs.length + ys.length ≤ 20 → binD μ .Add (.lst xs) (.lst ys) = some (.lst (xs ++ ys)) := fun xs ys h => cat_lst (by omega)
    have hc2 := fun x y z w p q r s t u v : D => hc [x, y, z, w] [p, q, r, s, t, u, v] (by show 4 + 7 ≤ 20; decide)
    simp only [exs_set, ev_lst, ev_bin, ev_tup, ev_bi, ev_non, evs_cs, evs_nl, ev_int, ev_var, List.getElem?_cons_zero, List.getElem?_cons_succ, Rs.bind_ok, frzs_cons, frzs_nil, frz_int, frz_tup, frz_lst, frz_non, fit0, fit1, fit2, f3, Option.map_some, Rs.of_some, h1, hb0, hlist, mkL_ok, f7, hc2]
    rfl)]
  have q9 : compR (.ok (oddL b0 P, none) μ) (turn cl [10] (.var 10) (.var 10) (.one (.cmp .IsNot (.call 25 (.cs (.var 10) .nl)) (.bl false))) (E13 b0 ps z2 (some (ti N)) (some S) (some (.tup (P ++ [.tup [.tup [.int 1, .int 1], .tup [.int 1]]]))) (some (.lst (oddL b0 P))) z7 (some (ti b0)) (some (.tup P)))) = .ok [] μ := by
    rw [compR_ok (g := fun _ => none) (fun x hx => by
      have e := e13 x hx
      rw [turn1 (ρ1 := [some (.cell 0), some (gD b0 ps), z2, some (ti N), some S, some (.tup (P ++ [.tup [.tup [.int 1, .int 1], .tup [.int 1]]])), some (.lst (oddL b0 P)), z7, some (ti b0), some (.tup P), some x, none, none]) rfl]
      simp only [evC_one, ev_cmp, ev_call, evs_cs, evs_nl, ev_var, ev_bl, List.getElem?_cons_zero, List.getElem?_cons_succ, Rs.bind_ok, e]
      rfl) (line_big (by show 11 ≤ 1000000; decide))]
    have : ∀ l : List D, l.filterMap (fun _ => (none : Option D)) = [] := fun l => by induction l <;> simp_all
    rw [this]
  rw [seq_run (ρ1 := E13 b0 ps z2 (some (ti N)) (some S) (some (.tup (P ++ [.tup [.tup [.int 1, .int 1], .tup [.int 1]]]))) (some (.lst (oddL b0 P))) z7 (some (ti b0)) (some (.tup P))) (μ1 := μ) (by
    simp only [exs_ife, ev_cmp, ev_comp, evI_one, ev_var, List.getElem?_cons_zero, List.getElem?_cons_succ, Rs.bind_ok, seqOf_lst, lockOf_lst, q9, ev_lst, evs_nl, mkL_ok, frzs_nil, fit0, Rs.of_some, ne_nil0, Option.map_some, onB_bl, Bool.false_eq_true, if_false, exs_skip])]
  have i9 : idxD μ (ti N) (.int 1) = some (.int (ps.map (·.1.2)).sum) := by
    rw [← hN]
    exact idx_nat (k := 1) rfl rfl
  simp only [exs_ret, ev_call, evs_cs, evs_nl, ev_tup, ev_var, List.getElem?_cons_zero, List.getElem?_cons_succ, Rs.bind_ok, frzs_cons, frzs_nil, frz_tup, fit2, Option.map_some, Rs.of_some, e12, ev_cmp, ev_idx, ev_int, i9, eq_int, e10, leave_bl]
  rw [← hμ, cs_take2]
end Tab
set_option maxHeartbeats 0
namespace Tab
open PySem DL
theorem written (a b : Int) : run fs 59 47 [] [⟨0, [.int a, .int b]⟩] = .ok (.bl true) [⟨0, [.int a, .int b]⟩] := by kernel_rfl
end Tab
set_option maxHeartbeats 2000000
namespace Tab
open PySem DL
theorem s_cup {n : Nat} (ns : List Int) (h : ns.length ≤ 63) : ∃ a b, run fs (n + 1) 30 [.scr ns] [] = .ok (.cell 0) (cs a b []) ∧ Gd b := by
  obtain ⟨c, hc⟩ : ∃ c, idxD [] (.lst ((ns ++ [0]).map D.int)) (.int 0) = some (.int c) := by
    cases ns with
    | nil => exact ⟨0, idx_nat (k := 0) rfl rfl⟩
    | cons x ns => exact ⟨x, idx_nat (k := 0) rfl rfl⟩
  have b1 : biD [] .list [.scr ns] = some (.lst (ns.map D.int)) := rfl
  have b2 : binD [] .Add (.lst (ns.map D.int)) (.lst [.int 0]) = some (.lst ((ns ++ [0]).map D.int)) := by
    rw [cat_lst (by rw [List.length_map]; show ns.length + 1 ≤ _; omega), List.map_append]
    rfl
  have b3 : biD [] .abs [.int c] = some (.int (if c < 0 then -c else c)) := rfl
  generalize (if c < 0 then -c else c) = d at b3
  have b4 : binD [] .Pow (.int 10) (.int 18) = some (.int (10 ^ 18)) := by
    show (if powOk 10 18 then some (D.int ((10 : Int) ^ (18 : Int).toNat)) else none) = _
    have e : powOk 10 18 = true := by decide +kernel
    rw [if_pos e]
    rfl
  have b5 : ∀ x : Int, binD [] .FloorDiv (.int x) (.int 83) = some (.int (x / 83)) := fun x => div_int (by decide) (by decide)
  have b6 : binD [] .Mult (.int d) (.int 311) = some (.int (d * 311)) := mul_int (mul_small2 (by decide))
  have b7 : ∀ x : Int, binD [] .Mod (.int x) (.int 2077503221) = some (.int (x % 2077503221)) := fun x => mod_int (by decide)
  have b8 : cmpD [] .GtE (.int d) (.int (10 ^ 18)) = some (decide (10 ^ 18 ≤ d)) := rfl
  have h1 := Int.emod_nonneg (d * 311 + 11667) (show (2077503221 : Int) ≠ 0 by decide)
  have h2 := Int.emod_lt_of_pos (d * 311 + 11667) (show (0 : Int) < 2077503221 by decide)
  refine ⟨if 10 ^ 18 ≤ d then d / 83 else 0, (d * 311 + 11667) % 2077503221 + 181, ?_, by omega, by omega⟩
  rw [r_30]
  simp only [f_30]
  generalize run fs n = cl
  rw [seq_run (ρ1 := [some (.scr ns), some (.int d)]) (μ1 := []) (by
    simp only [exs_set, ev_bi, evs_cs, evs_nl, ev_idx, ev_bin, ev_lst, ev_int, ev_var, List.getElem?_cons_zero, List.getElem?_cons_succ, Rs.bind_ok, mkL_ok, frzs_cons, frzs_nil, frz_int, fit1, Rs.of_some, b1, b2, hc, b3]
    rfl)]
  have e1 : ev cl (.ife (.cmp .GtE (.var 1) (.bin .Pow (.int (10)) (.int (18)))) (.bin .FloorDiv (.var 1) (.int (83))) (.int (0))) [some (.scr ns), some (.int d)] [] = .ok (.int (if 10 ^ 18 ≤ d then d / 83 else 0)) [] := by
    simp only [ev_ife, ev_cmp, ev_var, ev_bin, ev_int, List.getElem?_cons_zero, List.getElem?_cons_succ, Rs.bind_ok, b4, Rs.of_some, b8, Option.map_some, onB_bl, b5]
    by_cases hd : (10 : Int) ^ 18 ≤ d
    · rw [decide_eq_true hd, if_pos rfl, if_pos hd]
    · rw [decide_eq_false hd, if_neg hd]
      rfl
  generalize (if (10 : Int) ^ 18 ≤ d then d / 83 else 0) = q at e1
  rw [exs_ret, ev_new, evL_lst, evs_cs, e1]
  simp only [Rs.bind_ok, evs_cs, evs_nl, ev_bin, ev_bi, ev_int, ev_var, List.getElem?_cons_zero, List.getElem?_cons_succ, b6, Rs.of_some, add_int, int_int, b7, mkL_ok, frzs_cons, frzs_nil, frz_int, fit2]
  rfl
theorem law_loop {n : Nat} (v0 : D) : ∀ (xs : List D) (a b : Int) (z : Option D), Gd b → ∃ z' a' b', loopL (loopF (run fs (n + 12)) (.var 2) (.ife (.or (.not (.call 45 (.cs (.var 1) .nl))) (.not (.call 46 (.cs (.var 1) .nl)))) (.ret (.bl false)) .skip)) xs [some v0, some (.cell 0), z] (cs a b [])
      = .ok (.nx [some v0, some (.cell 0), z']) (cs a' b' []) ∧ Gd b'
  | [], a, b, z, hb => ⟨z, a, b, rfl, hb⟩
  | x :: xs, a, b, z, hb => by
    obtain ⟨a1, b1, e1, g1⟩ := s_rootsRight (n := n) (a := a) (b := b) (rest := []) hb
    obtain ⟨a2, b2, e2, g2⟩ := s_walkRight (n := n) (a := a1) (b := b1) (rest := []) g1
    obtain ⟨z', a3, b3, e3, g3⟩ := law_loop (n := n) v0 xs a2 b2 (some x) g2
    refine ⟨z', a3, b3, ?_, g3⟩
    generalize run fs (n + 12) = cl at e1 e2 e3 ⊢
    rw [loopL]
    unfold loopF at e3 ⊢
    rw [show Rs.of (asg (.var 2) x [some v0, some (.cell 0), z]) (cs a b []) = .ok [some v0, some (.cell 0), some x] (cs a b []) from rfl, Rs.bind_ok]
    simp only [exs_ife, ev_or, ev_not, ev_call, evs_cs, evs_nl, ev_var, List.getElem?_cons_zero, List.getElem?_cons_succ, Rs.bind_ok, e1, onB_bl, Bool.not_true, Bool.false_eq_true, if_false, e2, exs_skip]
    exact e3
theorem plain (ns : List Int) (h : ns.length ≤ 63) (_ : ∀ k ∈ ns, Builtin.Int.intBits k ≤ 1048576) : DL.isTrueR (DL.run Tab.fs 60 48 [.scr ns] []) = true := by
  obtain ⟨a, b, e1, g1⟩ := s_cup (n := 58) ns h
  have e2 : run fs 59 47 [] (cs a b []) = .ok (.bl true) (cs a b []) := written a b
  obtain ⟨z, a2, b2, e3, g2⟩ := law_loop (n := 47) (.scr ns) (rngL 0 16) a b none g1
  have e4 : run fs 60 48 [.scr ns] [] = .ok (.bl true) [] := by
    rw [r_48]
    simp only [f_48]
    have e1 : run fs 59 30 [.scr ns] [] = _ := e1
    have e3 : loopL (loopF (run fs 59) (.var 2) (.ife (.or (.not (.call 45 (.cs (.var 1) .nl))) (.not (.call 46 (.cs (.var 1) .nl)))) (.ret (.bl false)) .skip)) (rngL 0 16) [some (.scr ns), some (.cell 0), none] (cs a b []) = _ := e3
    have k : evI (run fs 59) (.rng1 (.int 16)) [some (.scr ns), some (.cell 0), none] (cs a b []) = .ok (rngL 0 16, none) (cs a b []) := rng1_go rfl (by decide) (by decide)
    generalize run fs 59 = cl at e1 e2 e3 k ⊢
    rw [seq_run (ρ1 := [some (.scr ns), some (.cell 0), none]) (μ1 := cs a b []) (by
      simp only [exs_set, ev_call, evs_cs, evs_nl, ev_var, List.getElem?_cons_zero, Rs.bind_ok, e1]
      rfl)]
    rw [seq_run (ρ1 := [some (.scr ns), some (.cell 0), none]) (μ1 := cs a b []) (by
      simp only [exs_ife, ev_not, ev_call, evs_nl, Rs.bind_ok, e2, onB_bl, Bool.not_true, Bool.false_eq_true, if_false, exs_skip])]
    rw [seq_run (ρ1 := [some (.scr ns), some (.cell 0), z]) (μ1 := cs a2 b2 []) (by
      rw [exs_loop, k, Rs.bind_ok, un_none, locked_none]
      exact e3)]
    rfl
  rw [e4]
  rfl
end Tab
set_option maxHeartbeats 0
open PySem PySem.W PySem.Calls PyProof.Rows
theorem Tab.holds (plain : ∀ ns : List Int, ns.length ≤ 63 → (∀ k ∈ ns, Builtin.Int.intBits k ≤ 1048576) → DL.isTrueR (DL.run Tab.fs 60 48 [.scr ns] []) = true) : PySem.Challenge.rw_walkstrides_k80_whole_growing_walks.Holds := by
  w_on; o_law
  refine HandSHeadRun.head_any (r := OpenLaw.row PySem.Challenge.rw_walkstrides_k80_whole_growing_walks) (q := view (OpenLaw.row PySem.Challenge.rw_walkstrides_k80_whole_growing_walks).prog [60]) (H := Tab.hk) (ob := Tab.ob) (M := 4060) (loose := Tab.loose) (d := HandSHeadRun.topDef (OpenLaw.row PySem.Challenge.rw_walkstrides_k80_whole_growing_walks).prog 60) (kwd := []) Tab.ob_eq
    (by kernel_rfl) (fun s => by kernel_rfl) Tab.headRun (by kernel_rfl) (by kernel_rfl) (by kernel_rfl) (by rfl) (by first | assumption | decide +kernel) (by decide +kernel) ⟨rfl, rfl, rfl, rfl, rfl, by decide +kernel⟩ ?hw ?hc
  case hw => w_witness2
  case hc =>
    exact DL.walk_dl (l := PySem.Challenge.rw_walkstrides_k80_whole_growing_walks) (n := 63) (k := 60) (li := 48) (x := "script") (t := Tab.t_48) (ts := Tab.ts) (fs := Tab.fs) (nums := Tab.nums) (excs := Tab.excs) rfl (by decide) (by kernel_rfl) ⟨rfl, by decide, by decide⟩ Tab.plain_ok Tab.cmp_ok rfl rfl (by kernel_rfl) plain
theorem PySem.Challenge.cw_walkstrides_k80_whole_growing_walks_holds : PySem.Challenge.rw_walkstrides_k80_whole_growing_walks.Holds := by
  exact Tab.holds Tab.plain
