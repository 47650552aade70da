import PyProof.Rows.All
import Wide.All
import OpenK.AllK
import Wide.FinOn
import HandS.ForMost
import HandS.Evl
import HandS.Conv
import HandS.Exc
import HandS.TryOnly
import HandS.ExcOwn
import HandS.ExcIs
import HandS.ExcValue
import HandS.SortInts
import HandS.Flow
import HandS.Style
import HandS.TupAny
import HandS.IsInst
import HandS.SortKw
import HandS.ForSpec
import HandS.Defaults
import HandS.Head0
import HandS.Head1
import HandS.Head2
import HandS.HeadEnd
import HandS.HeadHook1
import HandS.HeadHook2
import HandS.WordsExc
import KE.SortData
import KE.DataEq
import KE.DataMinMax
import KE.DataFind
import KE.GoesComp
import PySem.Challenge.RW_rowlay_k40_texts
set_option Elab.async false
set_option linter.all false
set_option maxRecDepth 100000
/-! Rwl, part A: the pure side. Values are PyData; an expression's and a statement's meaning as plain functions. No program, no heap. -/
namespace Rwl
open PySem

abbrev D := PyData
/-- what comes of something: a value, an exception of the class with that number, or nothing that this text speaks of -/
inductive Res (α : Type) where
  | ok (a : α) | exc (c : Nat) | bad
def Res.bind {α β : Type} : Res α → (α → Res β) → Res β
  | .ok a, f => f a
  | .exc c, _ => .exc c
  | .bad, _ => .bad
@[simp] theorem bind_ok {α β : Type} (a : α) (f : α → Res β) : (Res.ok a).bind f = f a := rfl
@[simp] theorem bind_exc {α β : Type} (c : Nat) (f : α → Res β) : (Res.exc c : Res α).bind f = .exc c := rfl
@[simp] theorem bind_bad {α β : Type} (f : α → Res β) : (Res.bad : Res α).bind f = .bad := rfl
/-- under a condition -/
def req {α : Type} (b : Bool) (r : Res α) : Res α := match b with
  | true => r
  | false => .bad
@[simp] theorem req_true {α : Type} (r : Res α) : req true r = r := rfl
@[simp] theorem req_false {α : Type} (r : Res α) : req false r = .bad := rfl
theorem req_of {α : Type} {b : Bool} (h : b = true) (r : Res α) : req b r = r := by rw [h]; rfl
def ofO {α : Type} : Option α → Res α
  | some a => .ok a
  | none => .bad
@[simp] theorem ofO_some {α : Type} (a : α) : ofO (some a) = .ok a := rfl
@[simp] theorem ofO_none {α : Type} : ofO (none : Option α) = .bad := rfl

def lim : Nat := 100000
/-- no dict within, at most n deep -/
def dep : Nat → D → Bool
  | _, .none => true
  | _, .bool _ => true
  | _, .int _ => true
  | _, .str _ => true
  | n + 1, .list xs => xs.all (dep n)
  | n + 1, .tuple xs => xs.all (dep n)
  | _, _ => false

/-! ### lists of one kind -/
def intL : List D → Option (List Int)
  | [] => some []
  | .int n :: r => (intL r).map (n :: ·)
  | _ :: _ => none
@[simp] theorem intL_map (ns : List Int) : intL (ns.map .int) = some ns := by
  induction ns with
  | nil => rfl
  | cons n r ih => simp [intL, ih]
theorem intL_of : ∀ {xs : List D} {ns : List Int}, intL xs = some ns → xs = ns.map .int
  | [], ns, h => by
    have e : [] = ns := Option.some.inj h
    subst e
    rfl
  | .int n :: r, ns, h => by
    simp only [intL, Option.map_eq_some_iff] at h
    obtain ⟨m, h1, rfl⟩ := h
    rw [intL_of h1]
    rfl
  | .none :: _, _, h => nomatch h
  | .bool _ :: _, _, h => nomatch h
  | .str _ :: _, _, h => nomatch h
  | .list _ :: _, _, h => nomatch h
  | .tuple _ :: _, _, h => nomatch h
  | .dict _ :: _, _, h => nomatch h
def bolL : List D → Option (List Bool)
  | [] => some []
  | .bool n :: r => (bolL r).map (n :: ·)
  | _ :: _ => none
@[simp] theorem bolL_map (ns : List Bool) : bolL (ns.map .bool) = some ns := by
  induction ns with
  | nil => rfl
  | cons n r ih => simp [bolL, ih]
theorem bolL_of : ∀ {xs : List D} {ns : List Bool}, bolL xs = some ns → xs = ns.map .bool
  | [], ns, h => by
    have e : [] = ns := Option.some.inj h
    subst e
    rfl
  | .bool n :: r, ns, h => by
    simp only [bolL, Option.map_eq_some_iff] at h
    obtain ⟨m, h1, rfl⟩ := h
    rw [bolL_of h1]
    rfl
  | .none :: _, _, h => nomatch h
  | .int _ :: _, _, h => nomatch h
  | .str _ :: _, _, h => nomatch h
  | .list _ :: _, _, h => nomatch h
  | .tuple _ :: _, _, h => nomatch h
  | .dict _ :: _, _, h => nomatch h
def strL : List D → Option (List Str)
  | [] => some []
  | .str n :: r => (strL r).map (n :: ·)
  | _ :: _ => none
@[simp] theorem strL_map (ns : List Str) : strL (ns.map .str) = some ns := by
  induction ns with
  | nil => rfl
  | cons n r ih => simp [strL, ih]
theorem strL_of : ∀ {xs : List D} {ns : List Str}, strL xs = some ns → xs = ns.map .str
  | [], ns, h => by
    have e : [] = ns := Option.some.inj h
    subst e
    rfl
  | .str n :: r, ns, h => by
    simp only [strL, Option.map_eq_some_iff] at h
    obtain ⟨m, h1, rfl⟩ := h
    rw [strL_of h1]
    rfl
  | .none :: _, _, h => nomatch h
  | .int _ :: _, _, h => nomatch h
  | .bool _ :: _, _, h => nomatch h
  | .list _ :: _, _, h => nomatch h
  | .tuple _ :: _, _, h => nomatch h
  | .dict _ :: _, _, h => nomatch h

/-! ### the operations -/
/-- the script: a list of intL that is read alone -/
def scr (ns : List Int) : D := .dict [(.bool true, .list (ns.map .int))]
/-- an exception of a class -/
def exn (c : Nat) : D := .dict [(.none, .int c)]
/-- the script's items; an exception's class -/
def scrOf : List (D × D) → Option (List D)
  | [(.bool true, .list xs)] => some xs
  | _ => none
theorem scrOf_of {kvs : List (D × D)} {xs : List D} (h : scrOf kvs = some xs) : kvs = [(.bool true, .list xs)] := by
  unfold scrOf at h
  split at h
  · cases h; rfl
  · cases h
def exnOf : List (D × D) → Option Nat
  | [(.none, .int (.ofNat c))] => some c
  | _ => none
theorem exnOf_of {kvs : List (D × D)} {c : Nat} (h : exnOf kvs = some c) : kvs = [(.none, .int c)] := by
  unfold exnOf at h
  split at h
  · cases h; rfl
  · cases h
def tru : D → Res Bool
  | .none => .ok false
  | .bool b => .ok b
  | .int i => .ok (i != 0)
  | .str s => req (decide (s.length ≤ lim)) (.ok ((s.length : Int) != 0))
  | .list xs => .ok (!xs.isEmpty)
  | .tuple xs => .ok (!xs.isEmpty)
  | .dict kvs => (ofO (scrOf kvs)).bind fun xs => req (intL xs).isSome (.ok (!xs.isEmpty))
inductive O2 where
  | add | sub | mul | fdiv | mod
def addD : D → D → Res D
  | .int a, .int b => .ok (.int (a + b))
  | .str a, .str b => req (decide (a.length + b.length ≤ lim)) (.ok (.str (a ++ b)))
  | .list a, .list b => req (decide (a.length + b.length ≤ lim)) (.ok (.list (a ++ b)))
  | .tuple a, .tuple b => req (decide (a.length + b.length ≤ lim)) (.ok (.tuple (a ++ b)))
  | _, _ => .bad
def subD : D → D → Res D
  | .int a, .int b => .ok (.int (a - b))
  | _, _ => .bad
def near64 (a : Int) : Bool := decide (-(2 ^ 64) < a) && decide (a < 2 ^ 64)
def mulD : D → D → Res D
  | .int a, .int b => req (near64 a || near64 b) (.ok (.int (a * b)))
  | .list xs, .int k => req (decide (-100000 ≤ k) && decide (k ≤ 100000) && decide (xs.length * k.toNat ≤ lim)) (.ok (.list (List.replicate k.toNat xs).flatten))
  | _, _ => .bad
def fdivD : D → D → Res D
  | .int a, .int b => req (decide (0 < b) && decide (b < 1073741824)) (.ok (.int (a / b)))
  | _, _ => .bad
def modD : D → D → Res D
  | .int a, .int b => req (decide (0 < b)) (.ok (.int (a % b)))
  | _, _ => .bad
def O2.run : O2 → D → D → Res D
  | .add => addD
  | .sub => subD
  | .mul => mulD
  | .fdiv => fdivD
  | .mod => modD
def lexLt : List Int → List Int → Bool
  | [], [] => false
  | [], _ :: _ => true
  | _ :: _, [] => false
  | x :: xs, y :: ys => if x = y then lexLt xs ys else decide (x < y)
inductive Cm where
  | lt | le | gt | ge | eq | ne | inn | nin | isn | ntn
def ltD : D → D → Res Bool
  | .int a, .int b => .ok (decide (a < b))
  | .tuple xs, .tuple ys => (ofO (intL xs)).bind fun ns => (ofO (intL ys)).bind fun ms => .ok (lexLt ns ms)
  | _, _ => .bad
def leD : D → D → Res Bool
  | .int a, .int b => .ok (decide (a ≤ b))
  | _, _ => .bad
def gtD : D → D → Res Bool
  | .int a, .int b => .ok (decide (b < a))
  | _, _ => .bad
def geD : D → D → Res Bool
  | .int a, .int b => .ok (decide (b ≤ a))
  | _, _ => .bad
def eqD (x y : D) : Res Bool := req (dep 8 x && dep 8 y) (.ok (PyData.eqv x y))
def inD (x : D) : D → Res Bool
  | .list ds => req (dep 8 x && ds.all (dep 8)) (.ok (ds.any fun z => PyData.eqv z x))
  | .tuple ds => req (dep 8 x && ds.all (dep 8)) (.ok (ds.any fun z => PyData.eqv z x))
  | .str s => match x with
    | .str ⟨a⟩ => match a.toList with
      | [c] => .ok (decide (c ∈ s.cps.toList))
      | _ => .bad
    | _ => .bad
  | _ => .bad
def nonD : D → Bool
  | .none => true
  | _ => false
def Res.nott (r : Res Bool) : Res Bool := r.bind fun b => .ok (!b)
def Cm.run : Cm → D → D → Res Bool
  | .lt, x, y => ltD x y
  | .le, x, y => leD x y
  | .gt, x, y => gtD x y
  | .ge, x, y => geD x y
  | .eq, x, y => eqD x y
  | .ne, x, y => (eqD x y).nott
  | .inn, x, y => inD x y
  | .nin, x, y => (inD x y).nott
  | .isn, x, y => req (nonD y) (.ok (nonD x))
  | .ntn, x, y => req (nonD y) (.ok (!nonD x))
def negD : D → Res D
  | .int i => .ok (.int (-i))
  | _ => .bad
/-- an index of any sign -/
def pix {α : Type} (xs : List α) (i : Int) : Option α := if 0 ≤ i then xs[i.toNat]? else if -(xs.length : Int) ≤ i then xs[(i + xs.length).toNat]? else none
def ixD : D → D → Res D
  | .list xs, .int i => ofO (pix xs i)
  | .tuple xs, .int i => ofO (pix xs i)
  | .str s, .int i => req (decide (s.length ≤ lim)) ((ofO (pix s.cps.toList i)).bind fun c => .ok (.str ⟨#[c]⟩))
  | .dict kvs, .int i => (ofO (scrOf kvs)).bind fun xs => req (intL xs).isSome (ofO (pix xs i))
  | _, _ => .bad
/-- a slice's bound as a place among n -/
def sI (n d : Nat) : Option Int → Nat
  | none => d
  | some v => if v < 0 then (v + (n : Int)).toNat else min v.toNat n
def cut {α : Type} (xs : List α) (lo hi : Option Int) : List α := (xs.drop (sI xs.length 0 lo)).take (sI xs.length xs.length hi - sI xs.length 0 lo)
def slD (lo hi : Option Int) : D → Res D
  | .list xs => .ok (.list (cut xs lo hi))
  | .tuple xs => .ok (.tuple (cut xs lo hi))
  | .str s => req (decide (s.length ≤ lim)) (.ok (.str ⟨(cut s.cps.toList lo hi).toArray⟩))
  | _ => .bad
def revD : D → Res D
  | .list xs => .ok (.list xs.reverse)
  | _ => .bad
/-- sorted -/
def ins (x : Int) : List Int → List Int
  | [] => [x]
  | y :: r => if x ≤ y then x :: y :: r else y :: ins x r
def srt : List Int → List Int
  | [] => []
  | x :: r => ins x (srt r)
theorem ins_perm (x : Int) : ∀ l : List Int, (ins x l).Perm (x :: l)
  | [] => .refl _
  | y :: r => by
    unfold ins
    split
    · exact .refl _
    · exact ((ins_perm x r).cons y).trans (.swap x y r)
theorem srt_perm : ∀ l : List Int, (srt l).Perm l
  | [] => .refl _
  | x :: r => (ins_perm x (srt r)).trans ((srt_perm r).cons x)
theorem ins_sorted (x : Int) : ∀ {l : List Int}, l.Pairwise (· ≤ ·) → (ins x l).Pairwise (· ≤ ·)
  | [], _ => List.pairwise_singleton _ _
  | y :: r, h => by
    rw [List.pairwise_cons] at h
    unfold ins
    split
    · rename_i hxy
      refine List.pairwise_cons.mpr ⟨fun z hz => ?_, List.pairwise_cons.mpr h⟩
      rcases List.mem_cons.mp hz with rfl | hz
      · exact hxy
      · exact Int.le_trans hxy (h.1 z hz)
    · rename_i hxy
      refine List.pairwise_cons.mpr ⟨fun z hz => ?_, ins_sorted x h.2⟩
      rcases List.mem_cons.mp ((ins_perm x r).mem_iff.mp hz) with rfl | hz
      · omega
      · exact h.1 z hz
theorem srt_sorted : ∀ l : List Int, (srt l).Pairwise (· ≤ ·)
  | [] => .nil
  | x :: r => ins_sorted x (srt_sorted r)
theorem srt_is {ns ms : List Int} (p : ms.Perm ns) (r : ms.Pairwise (· ≤ ·)) : ms = srt ns :=
  List.Perm.eq_of_pairwise (fun x y _ _ h1 h2 => Int.le_antisymm h1 h2) r (srt_sorted ns) (p.trans (srt_perm ns).symm)
/-- built-in functions -/
inductive Bi where
  | len | abs | sum | max | min | max2 | min2 | sorted | list | int | str | all | any | tuple
def bi : Bi → List D → Res D
  | .len, [.list xs] => .ok (.int xs.length)
  | .len, [.tuple xs] => .ok (.int xs.length)
  | .len, [.str s] => req (decide (s.length ≤ lim)) (.ok (.int s.length))
  | .len, [.dict kvs] => (ofO (scrOf kvs)).bind fun xs => req (intL xs).isSome (.ok (.int xs.length))
  | .abs, [.int i] => .ok (.int (if i < 0 then -i else i))
  | .sum, [.list xs] => (ofO (intL xs)).bind fun ns => .ok (.int ns.sum)
  | .max, [.list xs] => (ofO (intL xs)).bind fun ns => match ns with
    | [] => .bad
    | n :: r => .ok (.int (r.foldl max n))
  | .min, [.list xs] => (ofO (intL xs)).bind fun ns => match ns with
    | [] => .bad
    | n :: r => .ok (.int (r.foldl min n))
  | .max2, [.int i, .int j] => .ok (.int (if j > i then j else i))
  | .min2, [.int i, .int j] => .ok (.int (if j < i then j else i))
  | .sorted, [.list xs] => (ofO (intL xs)).bind fun ns => .ok (.list ((srt ns).map .int))
  | .list, [.list xs] => .ok (.list xs)
  | .list, [.tuple xs] => .ok (.list xs)
  | .tuple, [.list xs] => .ok (.tuple xs)
  | .int, [.int i] => .ok (.int i)
  | .int, [.bool k] => .ok (.int (if k then 1 else 0))
  | .int, [.str x] => req (decide (x.length ≤ 640)) ((ofO (PySem.intText? x)).bind fun n => .ok (.int n))
  | .str, [.int i] => req (decide (i.natAbs < 2 ^ 1000)) (.ok (.str (toString i)))
  | .all, [.list xs] => (ofO (bolL xs)).bind fun bs => .ok (.bool (bs.all id))
  | .any, [.list xs] => (ofO (bolL xs)).bind fun bs => .ok (.bool (bs.any id))
  | _, _ => .bad
/-- what isinstance asks: a built-in type, a class of exceptions with those numbers below it -/
inductive Ty where
  | int | bool | tuple | cls (k : Nat)
/-- the classes of exceptions: c is k, or below it -/
def below (c k : Nat) : Bool := c == k || decide (5 ≤ k)
def isiD (x : D) : Ty → Res Bool
  | .int => match x with
    | .int _ => .ok true
    | .bool _ => .ok true
    | .none => .ok false
    | .str _ => .ok false
    | .list _ => .ok false
    | .tuple _ => .ok false
    | _ => .bad
  | .bool => match x with
    | .int _ => .ok false
    | .bool _ => .ok true
    | .none => .ok false
    | .str _ => .ok false
    | .list _ => .ok false
    | .tuple _ => .ok false
    | _ => .bad
  | .tuple => match x with
    | .int _ => .ok false
    | .bool _ => .ok false
    | .none => .ok false
    | .str _ => .ok false
    | .list _ => .ok false
    | .tuple _ => .ok true
    | _ => .bad
  | .cls k => match x with
    | .dict kvs => (ofO (exnOf kvs)).bind fun c => .ok (below c k)
    | _ => .bad
/-- methods of built-in types that change nothing -/
inductive Mt where
  | index | count
def mt : Mt → D → List D → Res D
  | .index, .list xs, [x] => req (dep 8 x && xs.all (dep 8)) ((ofO (xs.findIdx? fun z => PyData.eqv z x)).bind fun j => .ok (.int j))
  | .count, .list xs, [x] => req (dep 8 x && xs.all (dep 8)) (.ok (.int (xs.countP fun z => PyData.eqv z x)))
  | _, _, _ => .bad
/-- methods of texts -/
inductive Ms where
  | split | join
def msD : Ms → Str → List D → Res D
  | .split, x, [.str y] => req (decide (x.length ≤ lim) && !(y.length == 0)) (.ok (.list ((Txt.split x y).map .str)))
  | .join, x, [.list xs] => (ofO (strL xs)).bind fun ys => req (decide ((ys.map (·.length)).sum + ys.length * x.length ≤ 16777216)) (.ok (.str (Txt.join x ys)))
  | _, _, _ => .bad
def rngD (lo hi : Int) : List D := (List.range (hi - lo).toNat).map fun (i : Nat) => .int (lo + i)

/-! ### the frame -/
/-- a name of the def: nothing known; a value that nobody changes; a list of the def's own; a dict (intL as keys) of the def's own -/
inductive Slot where
  | none
  | dat (d : D)
  | own (xs : List D)
  | dct (kvs : List (Int × D))
abbrev Env := List Slot
def Env.get (env : Env) (i : Nat) : Slot := (env[i]?).getD .none
/-- all that is owned is let go -/
def Slot.frz : Slot → Slot
  | .own xs => .dat (.list xs)
  | .dct _ => .none
  | s => s
def Env.frz (env : Env) : Env := env.map Slot.frz
def Env.wipe (env : Env) : List Nat → Env
  | [] => env
  | v :: vs => (Env.wipe env vs).set v .none
def klook (kvs : List (Int × D)) (k : Int) : Option D := (kvs.find? fun kv => decide (kv.1 = k)).map (·.2)
def kput (kvs : List (Int × D)) (k : Int) (v : D) : List (Int × D) :=
  if (kvs.any fun kv => decide (kv.1 = k)) = true then kvs.map (fun kv => if kv.1 = k then (kv.1, v) else kv) else kvs ++ [(k, v)]
/-- targets: one name, or names -/
def bindT (env : Env) : List Nat → List D → Res Env
  | [], [] => .ok env
  | i :: is, d :: ds => bindT (env.set i (.dat d)) is ds
  | _, _ => .bad
/-- a loop's target: one name, or (true) names that take a tuple apart -/
structure Tg where
  many : Bool
  is : List Nat
def Tg.run (t : Tg) (env : Env) (d : D) : Res Env := match t.many with
  | false => bindT env t.is [d]
  | true => match d with
    | .tuple ds => bindT env t.is ds
    | _ => .bad

/-! ### expressions -/
inductive E where
  | var (i : Nat)
  | int (n : Int)
  | str (s : Str)
  | bl (b : Bool)
  | non
  | glb (x : Str) (d : D)
  | bin (o : O2) (a b : E)
  | neg (a : E)
  | not (a : E)
  | cmp (o : Cm) (a b : E)
  | ch2 (o p : Cm) (a b c : E)
  | ch3 (o p q : Cm) (a b c d : E)
  | and (es : E)
  | or (es : E)
  | ite (c a b : E)
  | nil
  | cons (a b : E)
  | tup (es : E)
  | lst (es : E)
  | ix (a i : E)
  | nop
  | sl (a lo hi : E)
  | rev (a : E)
  | bi (k : Bi) (es : E)
  | maxd (a d : E)
  | lrg (a : E)
  | isi (a : E) (t : Ty)
  | call (k : Nat) (f : List D → Res D) (es : E)
  | mt (m : Mt) (a es : E)
  | ms (m : Ms) (a es : E)
  | lc (own : List Nat) (t : Tg) (it c e : E)
  | rng1 (a : E)
  | rng2 (a b : E)
/-- the turns of a comprehension -/
def lcRun (f : D → Res (Option D)) : List D → Res (List D)
  | [] => .ok []
  | d :: r => (f d).bind fun o => (lcRun f r).bind fun ds => .ok (o.toList ++ ds)
def asInt : D → Res Int
  | .int i => .ok i
  | _ => .bad
/-- what is walked: a list, a tuple, a text's signs -/
def seqOf : D → Res (List D)
  | .list xs => .ok xs
  | .tuple xs => .ok xs
  | .str x => req (decide (x.length ≤ lim)) (.ok (x.cps.toList.map fun c => .str ⟨#[c]⟩))
  | _ => .bad
/-- an expression's meanings: as a value, as a test; as arguments; of the operands of and, or, as values and as tests -/
structure Ev where
  v : Res D := .bad
  t : Res Bool := .bad
  l : Res (List D) := .bad
  an : Res D := .bad
  orr : Res D := .bad
  ta : Res Bool := .bad
  tr : Res Bool := .bad
def Ev.of (r : Res D) : Ev := { v := r, t := r.bind tru }
/-- a container that is looked into: a list of the def's own too -/
def pickC (env : Env) (e : E) (r : Res D) : Res D := match e with
  | .var i => match env.get i with
    | .dat d => .ok d
    | .own xs => .ok (.list xs)
    | _ => .bad
  | _ => r
/-- a dict of the def's own -/
def evI1 (env : Env) : E → Option (List (Int × D))
  | .var i => match env.get i with
    | .dct kvs => some kvs
    | _ => none
  | _ => none
/-- a slice's bound, or none -/
def pickO (e : E) (r : Res D) : Res (Option Int) := match e with
  | .nop => .ok none
  | _ => r.bind fun x => (asInt x).bind fun i => .ok (some i)
/-- a comprehension's test, or none -/
def pickP (e : E) (r : Res Bool) : Res Bool := match e with
  | .nop => .ok true
  | _ => r
/-- a number that is asked for at once: whatever it was read from -/
def pickN (r r1 : Res D) : Res Int := match r with
  | .ok (.int n) => .ok n
  | .ok _ => .bad
  | .exc c => .exc c
  | .bad => r1.bind asInt
def ev : E → Env → Ev
  | .var i, env => {
    v := match env.get i with
      | .dat d => .ok d
      | _ => .bad
    t := match env.get i with
      | .own xs => .ok (!xs.isEmpty)
      | .dat d => tru d
      | _ => .bad }
  | .int n, _ => .of (.ok (.int n))
  | .str s, _ => .of (.ok (.str s))
  | .bl b, _ => .of (.ok (.bool b))
  | .non, _ => .of (.ok .none)
  | .glb _ d, _ => .of (.ok d)
  | .bin o a b, env => .of ((ev a env).v.bind fun x => (ev b env).v.bind fun y => o.run x y)
  | .neg a, env => .of ((ev a env).v.bind negD)
  | .not a, env => {
    v := (ev a env).v.bind fun x => (tru x).bind fun b => .ok (.bool (!b))
    t := (ev a env).t.bind fun b => .ok (!b) }
  | .cmp o a b, env => {
    v := (ev a env).v.bind fun x => (ev b env).v.bind fun y => (o.run x y).bind fun k => .ok (.bool k)
    t := (ev a env).v.bind fun x => (ev b env).v.bind fun y => o.run x y }
  | .ch2 o p a b c, env => .of ((ev a env).v.bind fun x => (ev b env).v.bind fun y => (o.run x y).bind fun k => match k with
    | false => .ok (.bool false)
    | true => (ev c env).v.bind fun z => (p.run y z).bind fun k => .ok (.bool k))
  | .ch3 o p q a b c d, env => .of ((ev a env).v.bind fun x => (ev b env).v.bind fun y => (o.run x y).bind fun k => match k with
    | false => .ok (.bool false)
    | true => (ev c env).v.bind fun z => (p.run y z).bind fun k => match k with
      | false => .ok (.bool false)
      | true => (ev d env).v.bind fun w => (q.run z w).bind fun k => .ok (.bool k))
  | .and es, env => { v := (ev es env).an, t := (ev es env).ta }
  | .or es, env => { v := (ev es env).orr, t := (ev es env).tr }
  | .ite c a b, env => {
    v := (ev c env).t.bind fun k => match k with
      | true => (ev a env).v
      | false => (ev b env).v }
  | .nil, _ => { l := .ok [] }
  | .cons a b, env => {
    l := (ev a env).v.bind fun x => (ev b env).l.bind fun xs => .ok (x :: xs)
    an := match b with
      | .nil => (ev a env).v
      | _ => (ev a env).v.bind fun x => (tru x).bind fun k => match k with
        | true => (ev b env).an
        | false => .ok x
    orr := match b with
      | .nil => (ev a env).v
      | _ => (ev a env).v.bind fun x => (tru x).bind fun k => match k with
        | true => .ok x
        | false => (ev b env).orr
    ta := match b with
      | .nil => (ev a env).t
      | _ => (ev a env).t.bind fun k => match k with
        | true => (ev b env).ta
        | false => .ok false
    tr := match b with
      | .nil => (ev a env).t
      | _ => (ev a env).t.bind fun k => match k with
        | true => .ok true
        | false => (ev b env).tr }
  | .tup es, env => .of ((ev es env).l.bind fun ds => req (decide (ds.length ≤ lim)) (.ok (.tuple ds)))
  | .lst es, env => .of ((ev es env).l.bind fun ds => req (decide (ds.length ≤ lim)) (.ok (.list ds)))
  | .ix a i, env => .of (match evI1 env a with
    | some kvs => (ev i env).v.bind fun y => (asInt y).bind fun k => ofO (klook kvs k)
    | none => (pickC env a (ev a env).v).bind fun x => (ev i env).v.bind fun y => ixD x y)
  | .nop, _ => {}
  | .sl a lo hi, env => .of ((pickC env a (ev a env).v).bind fun x => (pickO lo (ev lo env).v).bind fun l => (pickO hi (ev hi env).v).bind fun h => slD l h x)
  | .rev a, env => .of ((pickC env a (ev a env).v).bind revD)
  | .bi k es, env => .of ((ev es env).l.bind fun ds => Rwl.bi k ds)
  | .maxd a d, env => .of ((ev a env).v.bind fun x => (ev d env).v.bind fun y => match x with
    | .list xs => (ofO (intL xs)).bind fun ns => match ns with
      | [] => .ok y
      | n :: r => .ok (.int (r.foldl max n))
    | _ => .bad)
  | .lrg a, env => .of ((ev a env).v.bind fun x => (asInt x).bind fun n => req (decide (0 ≤ n) && decide (n ≤ 100000)) (.ok (.list (rngD 0 n))))
  | .isi a t, env => .of ((ev a env).v.bind fun x => (isiD x t).bind fun b => .ok (.bool b))
  | .call _ f es, env => .of ((ev es env).l.bind f)
  | .mt m a es, env => .of ((ev a env).v.bind fun x => match x with
    | .list xs => (ev es env).l.bind fun ds => Rwl.mt m (.list xs) ds
    | _ => .bad)
  | .ms m a es, env => .of ((ev a env).v.bind fun x => match x with
    | .str s => (ev es env).l.bind fun ds => msD m s ds
    | _ => .bad)
  | .lc own t it c e, env => .of (((ev it env).v.bind seqOf).bind fun ds => req (decide (ds.length ≤ lim)) ((lcRun (fun d => (t.run (env.wipe own) d).bind fun env' => (pickP c (ev c env').t).bind fun k => match k with
    | true => (ev e env').v.bind fun y => .ok (some y)
    | false => .ok none) ds).bind fun ys => .ok (.list ys)))
  | .rng1 a, env => .of ((pickN (ev a env).v (ev a env.frz).v).bind fun n => req (decide (-1000000 ≤ n) && decide (n ≤ 1000000)) (.ok (.list (rngD 0 n))))
  | .rng2 a b, env => .of ((pickN (ev a env).v (ev a env.frz).v).bind fun m => (pickN (ev b env).v (ev b env.frz).v).bind fun n =>
    req (decide (-1000000 ≤ m) && decide (m ≤ 1000000) && decide (-1000000 ≤ n) && decide (n ≤ 1000000)) (.ok (.list (rngD m n))))
def evE (env : Env) (e : E) : Res D := (ev e env).v
def evT (env : Env) (e : E) : Res Bool := (ev e env).t
def evL (env : Env) (e : E) : Res (List D) := (ev e env).l
def evAnd (env : Env) (e : E) : Res D := (ev e env).an
def evOr (env : Env) (e : E) : Res D := (ev e env).orr
def evTAnd (env : Env) (e : E) : Res Bool := (ev e env).ta
def evTOr (env : Env) (e : E) : Res Bool := (ev e env).tr
def evC (env : Env) (e : E) : Res D := pickC env e (evE env e)
def evO (env : Env) (e : E) : Res (Option Int) := pickO e (evE env e)
def evP (env : Env) (e : E) : Res Bool := pickP e (evT env e)
def evI (env : Env) (e : E) : Res (List D) := (evE env e).bind seqOf

/-! ### statements -/
inductive S where
  | nil
  | cons (s r : S)
  | asg (i : Nat) (e : E)
  | asgT (is : List Nat) (e : E)
  | new (i : Nat) (e : E)
  | newd (i : Nat)
  | app (i : Nat) (e : E)
  | ext (i : Nat) (e : E)
  | seti (i : Nat) (k e : E)
  | setd (i : Nat) (k e : E)
  | appPop (i j : Nat) (e : E)
  | drop (e : E)
  | ifs (c : E) (a b : S)
  | forr (t : Tg) (it : E) (b : S)
  | whil (n : Nat) (c : E) (b : S)
  | ret (e : E)
  | rai (c : Nat)
  | brk
  | tryk (b : S) (c k n : Nat)
  | frz
inductive Out where
  | nx (env : Env) | brk (env : Env) | ret (d : D) | exc (c : Nat) (env : Env) | bad
/-- an expression's value in a statement -/
def Res.out {α : Type} (r : Res α) (env : Env) (f : α → Out) : Out := match r with
  | .ok a => f a
  | .exc c => .exc c env
  | .bad => .bad
@[simp] theorem out_ok {α : Type} (a : α) (env : Env) (f : α → Out) : (Res.ok a).out env f = f a := rfl
@[simp] theorem out_exc {α : Type} (c : Nat) (env : Env) (f : α → Out) : (Res.exc c : Res α).out env f = .exc c env := rfl
@[simp] theorem out_bad {α : Type} (env : Env) (f : α → Out) : (Res.bad : Res α).out env f = .bad := rfl
def Out.seq (o : Out) (f : Env → Out) : Out := match o with
  | .nx env => f env
  | o => o
@[simp] theorem seq_nx (env : Env) (f : Env → Out) : (Out.nx env).seq f = f env := rfl
@[simp] theorem seq_brk (env : Env) (f : Env → Out) : (Out.brk env).seq f = .brk env := rfl
@[simp] theorem seq_ret (d : D) (f : Env → Out) : (Out.ret d).seq f = .ret d := rfl
@[simp] theorem seq_exc (c : Nat) (env : Env) (f : Env → Out) : (Out.exc c env).seq f = .exc c env := rfl
@[simp] theorem seq_bad (f : Env → Out) : Out.bad.seq f = .bad := rfl
/-- behind a loop's turn -/
def Out.turn (o : Out) (f : Env → Out) : Out := match o with
  | .nx env => f env
  | .brk env => .nx env
  | o => o
@[simp] theorem turn_nx (env : Env) (f : Env → Out) : (Out.nx env).turn f = f env := rfl
@[simp] theorem turn_brk (env : Env) (f : Env → Out) : (Out.brk env).turn f = .nx env := rfl
@[simp] theorem turn_ret (d : D) (f : Env → Out) : (Out.ret d).turn f = .ret d := rfl
@[simp] theorem turn_exc (c : Nat) (env : Env) (f : Env → Out) : (Out.exc c env).turn f = .exc c env := rfl
@[simp] theorem turn_bad (f : Env → Out) : Out.bad.turn f = .bad := rfl
def forGo (f : D → Env → Out) : List D → Env → Out
  | [], env => .nx env
  | d :: r, env => (f d env).turn (forGo f r)
def whGo (c : Env → Res Bool) (b : Env → Out) : Nat → Env → Out
  | 0, _ => .bad
  | n + 1, env => (c env).out env fun k => match k with
    | true => (b env).turn (whGo c b n)
    | false => .nx env
/-- none, a truth, a number, a text: what no list holds on to -/
def scal : D → Bool
  | .none => true
  | .bool _ => true
  | .int _ => true
  | .str _ => true
  | _ => false
/-- a value that may be kept: a scalar, whatever was read on the way; else reckoned from what nobody changes -/
def evV (env : Env) (e : E) : Res D := match evE env.frz e with
  | .ok d => match scal d with
    | true => .ok d
    | false => evE env e
  | .exc c => .exc c
  | .bad => evE env e
/-- a value that leaves, or is dropped: all may be let go; if that does not do, from what nobody changes -/
def evR (env : Env) (e : E) : Res D := match evE env.frz e with
  | .bad => evE env e
  | .ok d => .ok d
  | .exc c => .exc c
def evB (env : Env) (e : E) : Res Bool := match evT env.frz e with
  | .bad => evT env e
  | .ok d => .ok d
  | .exc c => .exc c
/-- a fresh list -/
def fresh : E → Bool
  | .lst _ => true
  | .lc _ _ _ _ _ => true
  | .bi .list _ => true
  | .lrg _ => true
  | .sl _ _ _ => true
  | .bin .mul _ _ => true
  | .bin .add _ _ => true
  | _ => false
def exS : S → Env → Out
  | .nil, env => .nx env
  | .cons s r, env => (exS s env).seq (exS r)
  | .asg i e, env => (evV env e).out env fun d => .nx (env.set i (.dat d))
  | .asgT is e, env => (evV env e).out env fun d => match d with
    | .tuple ds => (bindT env is ds).out env .nx
    | _ => .bad
  | .new i e, env => (evE env e).out env fun d => match d with
    | .list xs => .nx (env.set i (.own xs))
    | _ => .bad
  | .newd i, env => .nx (env.set i (.dct []))
  | .app i e, env => match env.get i with
    | .own xs => (evV env e).out env fun d => match decide (xs.length < lim) with
      | true => .nx (env.set i (.own (xs ++ [d])))
      | false => .bad
    | _ => .bad
  | .ext i e, env => match env.get i with
    | .own xs => (evV env e).out env fun d => match d with
      | .list ys => match decide (xs.length + ys.length < lim) with
        | true => .nx (env.set i (.own (xs ++ ys)))
        | false => .bad
      | _ => .bad
    | _ => .bad
  | .seti i k e, env => match env.get i with
    | .own xs => (evV env e).out env fun d => (evV env k).out env fun y => match y with
      | .int j => match decide (0 ≤ j) && decide (j < xs.length) with
        | true => .nx (env.set i (.own (xs.set j.toNat d)))
        | false => .bad
      | _ => .bad
    | _ => .bad
  | .setd i k e, env => match env.get i with
    | .dct kvs => (evV env e).out env fun d => (evV env k).out env fun y => match y with
      | .int j => match decide (kvs.length < lim) with
        | true => .nx (env.set i (.dct (kput kvs j d)))
        | false => .bad
      | _ => .bad
    | _ => .bad
  | .appPop i j e, env => match env.get i, env.get j with
    | .own xs, .own ys => (evV env e).out env fun y => match y with
      | .int k => match decide (0 ≤ k) && decide (k < ys.length) && decide (xs.length < lim) && decide (ys.length < lim) && (i != j) with
        | true => .nx ((env.set j (.own (ys.eraseIdx k.toNat))).set i (.own (xs ++ [ys.getD k.toNat .none])))
        | false => .bad
      | _ => .bad
    | _, _ => .bad
  | .drop e, env => (evR env e).out env fun _ => .nx env
  | .ifs c a b, env => (evB env c).out env fun k => match k with
    | true => exS a env
    | false => exS b env
  | .forr t it b, env => (evI env it).out env fun ds => forGo (fun d env => (t.run env d).out env (exS b)) ds env
  | .whil n c b, env => whGo (fun env => evB env c) (exS b) n env
  | .ret e, env => (evR env e).out env .ret
  | .rai c, env => .exc c env
  | .brk, env => .brk env
  | .tryk b c k n, env => match exS b env with
    | .exc c' env' => match decide (c' < 5), below c' c with
      | true, true => .nx ((env'.set k (.dat (exn c'))).set n .none)
      | true, false => .exc c' env'
      | false, _ => .bad
    | o => o
  | .frz, env => .nx env.frz
/-- a def: np parameters, n names -/
def run (np n : Nat) (b : S) (ds : List D) : Res D := match decide (ds.length = np) with
  | true => match exS b (ds.map .dat ++ List.replicate (n - np) .none) with
    | .ret d => .ok d
    | .nx _ => .ok .none
    | .exc c _ => .exc c
    | _ => .bad
  | false => .bad
end Rwl

set_option Elab.async false
set_option linter.all false
set_option maxRecDepth 100000
/-! Rwl, part B: data in the heap, what a frame holds, what a reading comes to. -/
namespace Rwl
open PySem PySem.Spec PyProof.Rows L2 Evl

/-- marked: the script, an exception, an object -/
def marked : List (D × D) → Bool
  | (.none, _) :: _ => true
  | (.bool _, _) :: _ => true
  | _ => false
/-- what is told of the classes: of exceptions, of objects; other data -/
structure Ux where
  ec : Nat → Option Addr
  oc : Nat → Option Addr
  xt : Addr → HO → D → Prop
  xd : ∀ a o d, xt a o d → ∃ kvs, d = .dict kvs ∧ marked kvs = false
/-- an exception of the class at C, caught -/
def ExT (C a : Addr) : HO := .ext fun h => ∃ oe vs, h.get? a = some oe ∧ Zc (.ref C) none oe ∧ oe.data = .fields vs

mutual
/-- the value v is the datum d in the heap H -/
inductive Dat (U : Ux) (K : PySem.W.Frag) (H : Hp) : V → D → Prop
  | non : Dat U K H .non .none
  | bl (b : Bool) : Dat U K H (.bl b) (.bool b)
  | int (i : Int) : Dat U K H (.int i) (.int i)
  | str (x : Str) : Dat U K H (.str x) (.str x)
  | lst {a : Addr} {xs : List V} {ds : List D} (h : H a = some (.lst xs)) (hs : DatL U K H xs ds) : Dat U K H (.ref a) (.list ds)
  | tup {a : Addr} {xs : List V} {ds : List D} (h : SqT K H a xs) (hs : DatL U K H xs ds) : Dat U K H (.ref a) (.tuple ds)
  | scr {a : Addr} {ns : List Int} (h : SqL K H a (ns.map V.int)) : Dat U K H (.ref a) (.dict [(.bool true, .list (ns.map .int))])
  | exc {a C : Addr} {c : Nat} (hc : U.ec c = some C) (h : H a = some (ExT C a)) : Dat U K H (.ref a) (.dict [(.none, .int c)])
  | obj {a C dx : Addr} {c : Nat} {fs : List (Str × V)} {dfs : List (D × D)} (hc : U.oc c = some C) (h : H a = some (.ins C dx fs)) (hs : DatF U K H fs dfs) : Dat U K H (.ref a) (.dict ((.bool false, .int c) :: dfs))
  | any {a : Addr} {o : HO} {d : D} (h : H a = some o) (hx : U.xt a o d) : Dat U K H (.ref a) d
inductive DatL (U : Ux) (K : PySem.W.Frag) (H : Hp) : List V → List D → Prop
  | nil : DatL U K H [] []
  | cons {v : V} {d : D} {vs : List V} {ds : List D} (h : Dat U K H v d) (hs : DatL U K H vs ds) : DatL U K H (v :: vs) (d :: ds)
inductive DatF (U : Ux) (K : PySem.W.Frag) (H : Hp) : List (Str × V) → List (D × D) → Prop
  | nil : DatF U K H [] []
  | cons {f : Str} {v : V} {d : D} {fs : List (Str × V)} {ds : List (D × D)} (h : Dat U K H v d) (hs : DatF U K H fs ds) : DatF U K H ((f, v) :: fs) ((.str f, d) :: ds)
end

section
variable {U : Ux} {K : PySem.W.Frag} {H H' : Hp} {v : V}
mutual
theorem Dat.mono (e : Ex H H') : ∀ {v : V} {d : D}, Dat U K H v d → Dat U K H' v d
  | _, _, .non => .non
  | _, _, .bl b => .bl b
  | _, _, .int i => .int i
  | _, _, .str x => .str x
  | _, _, .lst h hs => .lst (e _ _ h) (DatL.mono e hs)
  | _, _, .tup h hs => .tup (ex_t e h) (DatL.mono e hs)
  | _, _, .scr h => .scr (ex_l e h)
  | _, _, .exc hc h => .exc hc (e _ _ h)
  | _, _, .obj hc h hs => .obj hc (e _ _ h) (DatF.mono e hs)
  | _, _, .any h hx => .any (e _ _ h) hx
theorem DatL.mono (e : Ex H H') : ∀ {vs : List V} {ds : List D}, DatL U K H vs ds → DatL U K H' vs ds
  | _, _, .nil => .nil
  | _, _, .cons h hs => .cons (Dat.mono e h) (DatL.mono e hs)
theorem DatF.mono (e : Ex H H') : ∀ {vs : List (Str × V)} {ds : List (D × D)}, DatF U K H vs ds → DatF U K H' vs ds
  | _, _, .nil => .nil
  | _, _, .cons h hs => .cons (Dat.mono e h) (DatF.mono e hs)
end
theorem Dat.none_inv (h : Dat U K H v .none) : v = .non := by
  cases h with
  | non => rfl
  | any h hx => obtain ⟨_, e, _⟩ := U.xd _ _ _ hx; cases e
theorem Dat.bool_inv {b : Bool} (h : Dat U K H v (.bool b)) : v = .bl b := by
  cases h with
  | bl => rfl
  | any h hx => obtain ⟨_, e, _⟩ := U.xd _ _ _ hx; cases e
theorem Dat.int_inv {b : Int} (h : Dat U K H v (.int b)) : v = .int b := by
  cases h with
  | int => rfl
  | any h hx => obtain ⟨_, e, _⟩ := U.xd _ _ _ hx; cases e
theorem Dat.str_inv {b : Str} (h : Dat U K H v (.str b)) : v = .str b := by
  cases h with
  | str => rfl
  | any h hx => obtain ⟨_, e, _⟩ := U.xd _ _ _ hx; cases e
theorem Dat.list_inv {ds : List D} (h : Dat U K H v (.list ds)) : ∃ a xs, v = .ref a ∧ H a = some (.lst xs) ∧ DatL U K H xs ds := by
  cases h with
  | lst h hs => exact ⟨_, _, rfl, h, hs⟩
  | any h hx => obtain ⟨_, e, _⟩ := U.xd _ _ _ hx; cases e
theorem Dat.tuple_inv {ds : List D} (h : Dat U K H v (.tuple ds)) : ∃ a xs, v = .ref a ∧ SqT K H a xs ∧ DatL U K H xs ds := by
  cases h with
  | tup h hs => exact ⟨_, _, rfl, h, hs⟩
  | any h hx => obtain ⟨_, e, _⟩ := U.xd _ _ _ hx; cases e
/-- a scalar is what it is in any heap -/
theorem Dat.scal {d : D} (h : Dat U K H v d) (s : Rwl.scal d = true) (H' : Hp) : Dat U K H' v d := by
  cases d with
  | none => cases h.none_inv; exact .non
  | bool b => cases h.bool_inv; exact .bl b
  | int b => cases h.int_inv; exact .int b
  | str b => cases h.str_inv; exact .str b
  | list _ => exact absurd (show false = true from s) Bool.false_ne_true
  | tuple _ => exact absurd (show false = true from s) Bool.false_ne_true
  | dict _ => exact absurd (show false = true from s) Bool.false_ne_true

/-! ### lists -/
theorem DatL.length : ∀ {vs : List V} {ds : List D}, DatL U K H vs ds → vs.length = ds.length
  | _, _, .nil => rfl
  | _, _, .cons _ hs => congrArg (· + 1) (DatL.length hs)
theorem DatL.get : ∀ {vs : List V} {ds : List D} {i : Nat} {d : D}, DatL U K H vs ds → ds[i]? = some d → ∃ v, vs[i]? = some v ∧ Dat U K H v d
  | _, _, _, _, .nil, e => by simp at e
  | _, _, 0, _, .cons h _, e => by simp at e; subst e; exact ⟨_, rfl, h⟩
  | _, _, i + 1, d, .cons _ hs, e => by
    obtain ⟨v, h1, h2⟩ := DatL.get (i := i) (d := d) hs (by simpa using e)
    exact ⟨v, by simpa using h1, h2⟩
theorem DatL.get' : ∀ {vs : List V} {ds : List D} {i : Nat} {v : V}, DatL U K H vs ds → vs[i]? = some v → ∃ d, ds[i]? = some d ∧ Dat U K H v d
  | _, _, _, _, .nil, e => by simp at e
  | _, _, 0, _, .cons h _, e => by simp at e; subst e; exact ⟨_, rfl, h⟩
  | _, _, i + 1, d, .cons _ hs, e => by
    obtain ⟨v, h1, h2⟩ := DatL.get' (i := i) (v := d) hs (by simpa using e)
    exact ⟨v, by simpa using h1, h2⟩
theorem DatL.append : ∀ {vs ws : List V} {ds es : List D}, DatL U K H vs ds → DatL U K H ws es → DatL U K H (vs ++ ws) (ds ++ es)
  | _, _, _, _, .nil, h => h
  | _, _, _, _, .cons h hs, h2 => .cons h (DatL.append hs h2)
theorem DatL.one {d : D} (h : Dat U K H v d) : DatL U K H [v] [d] := .cons h .nil
theorem DatL.set {d : D} (h : Dat U K H v d) : ∀ {vs : List V} {ds : List D} (i : Nat), DatL U K H vs ds → DatL U K H (vs.set i v) (ds.set i d)
  | _, _, _, .nil => .nil
  | _, _, 0, .cons _ hs => .cons h hs
  | _, _, i + 1, .cons q hs => .cons q (DatL.set h i hs)
theorem DatL.take : ∀ {vs : List V} {ds : List D} (n : Nat), DatL U K H vs ds → DatL U K H (vs.take n) (ds.take n)
  | _, _, 0, _ => .nil
  | _, _, _ + 1, .nil => .nil
  | _, _, n + 1, .cons h hs => .cons h (DatL.take n hs)
theorem DatL.drop : ∀ {vs : List V} {ds : List D} (n : Nat), DatL U K H vs ds → DatL U K H (vs.drop n) (ds.drop n)
  | _, _, 0, h => h
  | _, _, _ + 1, .nil => .nil
  | _, _, n + 1, .cons h hs => DatL.drop n hs
theorem DatL.eraseIdx : ∀ {vs : List V} {ds : List D} (n : Nat), DatL U K H vs ds → DatL U K H (vs.eraseIdx n) (ds.eraseIdx n)
  | _, _, _, .nil => .nil
  | _, _, 0, .cons _ hs => hs
  | _, _, n + 1, .cons h hs => .cons h (DatL.eraseIdx n hs)
theorem DatL.reverse {vs : List V} {ds : List D} (h : DatL U K H vs ds) : DatL U K H vs.reverse ds.reverse := by
  induction ds generalizing vs with
  | nil => cases h; exact .nil
  | cons d r ih =>
    cases h with
    | cons h hs => rw [List.reverse_cons, List.reverse_cons]; exact (ih hs).append (.one h)
theorem DatL.rep {vs : List V} {ds : List D} (h : DatL U K H vs ds) : ∀ k : Nat, DatL U K H (List.replicate k vs).flatten (List.replicate k ds).flatten
  | 0 => .nil
  | k + 1 => by
    rw [List.replicate_succ, List.replicate_succ, List.flatten_cons, List.flatten_cons]
    exact h.append (DatL.rep h k)
theorem DatL.cut {vs : List V} {ds : List D} (h : DatL U K H vs ds) (lo hi : Option Int) : DatL U K H (cutV vs lo hi) (cut ds lo hi) := by
  have e : ∀ n d o, HT.sIx n d o = sI n d o := fun n d o => by cases o <;> rfl
  unfold cutV Rwl.cut
  simp only [e, h.length]
  exact (h.drop _).take _
theorem DatL.intL {vs : List V} : ∀ {ds : List D} {ns : List Int}, Rwl.intL ds = some ns → DatL U K H vs ds → vs = ns.map V.int := by
  intro ds ns e h
  rw [intL_of e] at h
  clear e ds
  induction ns generalizing vs with
  | nil => cases h; rfl
  | cons n r ih =>
    cases h with
    | cons h hs => rw [h.int_inv, ih hs]; rfl
theorem DatL.of_ints : ∀ ns : List Int, DatL U K H (ns.map V.int) (ns.map .int)
  | [] => .nil
  | n :: r => .cons (.int n) (DatL.of_ints r)
theorem DatL.bolL {vs : List V} : ∀ {ds : List D} {ns : List Bool}, Rwl.bolL ds = some ns → DatL U K H vs ds → vs = ns.map V.bl := by
  intro ds ns e h
  rw [bolL_of e] at h
  clear e ds
  induction ns generalizing vs with
  | nil => cases h; rfl
  | cons n r ih =>
    cases h with
    | cons h hs => rw [h.bool_inv, ih hs]; rfl
theorem DatL.strL {vs : List V} : ∀ {ds : List D} {ns : List Str}, Rwl.strL ds = some ns → DatL U K H vs ds → vs = ns.map V.str := by
  intro ds ns e h
  rw [strL_of e] at h
  clear e ds
  induction ns generalizing vs with
  | nil => cases h; rfl
  | cons n r ih =>
    cases h with
    | cons h hs => rw [h.str_inv, ih hs]; rfl
theorem DatL.of_strs : ∀ ns : List Str, DatL U K H (ns.map V.str) (ns.map .str)
  | [] => .nil
  | n :: r => .cons (.str n) (DatL.of_strs r)

/-! ### plain data -/
mutual
theorem Dat.dp : ∀ (d : D) (v : V), PyData.plain d = true → Dat U K H v d → Dp K H v d
  | .none, _, _, h => by cases h.none_inv; exact .non
  | .bool b, _, _, h => by cases h.bool_inv; exact .bl b
  | .int b, _, _, h => by cases h.int_inv; exact .int b
  | .str b, _, _, h => by cases h.str_inv; exact .str b
  | .list ds, _, p, h => by
    obtain ⟨a, xs, rfl, h1, h2⟩ := h.list_inv
    exact .lst (SqL.of h1) (DatL.dp ds xs (by simpa [PyData.plain] using p) h2)
  | .tuple ds, _, p, h => by
    obtain ⟨a, xs, rfl, h1, h2⟩ := h.tuple_inv
    exact .tup h1 (DatL.dp ds xs (by simpa [PyData.plain] using p) h2)
  | .dict _, _, p, _ => absurd p (by simp [PyData.plain])
theorem DatL.dp : ∀ (ds : List D) (vs : List V), PyData.plainAll ds = true → DatL U K H vs ds → DpAll K H vs ds
  | [], _, _, h => by cases h; exact .nil
  | d :: ds, _, p, h => by
    have p' : PyData.plain d = true ∧ PyData.plainAll ds = true := by simpa [PyData.plainAll] using p
    cases h with
    | cons h1 h2 => exact .cons (Dat.dp d _ p'.1 h1) (DatL.dp ds _ p'.2 h2)
end
theorem dep_all {n : Nat} : ∀ {ds : List D}, (∀ d ∈ ds, dep n d = true → PyData.plain d = true ∧ PyData.depth d ≤ n) → ds.all (dep n) = true → PyData.plainAll ds = true ∧ PyData.depthAll ds ≤ n
  | [], _, _ => ⟨by simp [PyData.plainAll], by simp [PyData.depthAll]⟩
  | d :: ds, f, h => by
    have h' : dep n d = true ∧ ds.all (dep n) = true := by simpa using h
    obtain ⟨p1, p2⟩ := f d List.mem_cons_self h'.1
    obtain ⟨q1, q2⟩ := dep_all (fun e he => f e (List.mem_cons_of_mem _ he)) h'.2
    refine ⟨by simp [PyData.plainAll, p1, q1], ?_⟩
    simp only [PyData.depthAll]
    omega
theorem dep_plain : ∀ {n : Nat} {d : D}, dep n d = true → PyData.plain d = true ∧ PyData.depth d ≤ n
  | n, .none, _ => by simp [PyData.plain, PyData.depth]
  | n, .bool _, _ => by simp [PyData.plain, PyData.depth]
  | n, .int _, _ => by simp [PyData.plain, PyData.depth]
  | n, .str _, _ => by simp [PyData.plain, PyData.depth]
  | 0, .list _, h => by simp [dep] at h
  | 0, .tuple _, h => by simp [dep] at h
  | n, .dict _, h => by cases n <;> simp [dep] at h
  | n + 1, .list ds, h => by
    obtain ⟨p1, p2⟩ := dep_all (fun d _ => dep_plain (n := n)) (by simpa [dep] using h)
    refine ⟨by simpa [PyData.plain] using p1, ?_⟩
    simp only [PyData.depth]
    omega
  | n + 1, .tuple ds, h => by
    obtain ⟨p1, p2⟩ := dep_all (fun d _ => dep_plain (n := n)) (by simpa [dep] using h)
    refine ⟨by simpa [PyData.plain] using p1, ?_⟩
    simp only [PyData.depth]
    omega
end

/-! ### heaps with some objects hidden -/
def view (H : Hp) (Z : List Addr) : Hp := fun a => if a ∈ Z then none else H a
theorem view_nil (H : Hp) : view H [] = H := by
  funext a
  simp [view]
theorem view_out {H : Hp} {Z : List Addr} {a : Addr} (h : a ∉ Z) : view H Z a = H a := if_neg h
theorem view_in {H : Hp} {Z : List Addr} {a : Addr} (h : a ∈ Z) : view H Z a = none := if_pos h
theorem view_ex (H : Hp) (Z : List Addr) : Ex (view H Z) H := fun a o h => by
  unfold view at h
  split at h
  · cases h
  · exact h
theorem ex_view {H H' : Hp} (e : Ex H H') (Z : List Addr) : Ex (view H Z) (view H' Z) := fun a o h => by
  unfold view at h ⊢
  split at h
  · cases h
  · rename_i ha
    rw [if_neg ha]
    exact e a o h
/-- an object that was not there is hidden too -/
theorem ex_view_cons {H H' : Hp} (e : Ex H H') {Z : List Addr} {p : Addr} (hp : H p = none) : Ex (view H Z) (view H' (p :: Z)) := fun a o h => by
  unfold view at h ⊢
  split at h
  · cases h
  · rename_i ha
    have hap : a ≠ p := ne_of_none h hp
    rw [if_neg (by simp only [List.mem_cons, not_or]; exact ⟨hap, ha⟩)]
    exact e a o h
theorem view_upd {H : Hp} {Z : List Addr} {p : Addr} {o : HO} (h : p ∈ Z) : view (upd H p o) Z = view H Z := by
  funext a
  unfold view
  by_cases ha : a ∈ Z
  · rw [if_pos ha, if_pos ha]
  · rw [if_neg ha, if_neg ha, upd_ne (fun e => ha (by rw [e]; exact h))]
theorem view_new {H : Hp} {Z : List Addr} {p : Addr} (h : H p = none) : view H Z p = none := by
  unfold view
  split
  · rfl
  · exact h

/-! ### the frame -/
/-- a dict of intL, by its pairs -/
inductive DatK (U : Ux) (K : PySem.W.Frag) (H : Hp) : List (Key × V) → List (Int × D) → Prop
  | nil : DatK U K H [] []
  | cons {k : Int} {v : V} {d : D} {kvs : List (Key × V)} {ds : List (Int × D)} (h : Dat U K H v d) (hs : DatK U K H kvs ds) : DatK U K H ((.inl k, v) :: kvs) ((k, d) :: ds)
def SlotOk (U : Ux) (K : PySem.W.Frag) (Y Z : List Addr) (H : Hp) (ov : Option (Option V)) : Slot → Prop
  | .none => True
  | .dat d => ∃ v, ov = some (some v) ∧ Dat U K (view H Z) v d
  | .own xs => ∃ p vs, ov = some (some (.ref p)) ∧ (p ∈ Z ∧ p ∉ Y) ∧ H p = some (.lst vs) ∧ DatL U K (view H Z) vs xs
  | .dct kvs => ∃ p vs, ov = some (some (.ref p)) ∧ (p ∈ Z ∧ p ∉ Y) ∧ H p = some (.dK vs) ∧ DatK U K (view H Z) vs kvs
def Slot.isOwn : Slot → Bool
  | .own _ => true
  | .dct _ => true
  | _ => false
/-- what is hidden is there -/
def Zt (Z : List Addr) (H : Hp) : Prop := ∀ z ∈ Z, ∃ o, H z = some o
theorem Zt.mono {Z : List Addr} {H H' : Hp} (e : Ex H H') (h : Zt Z H) : Zt Z H' := fun z hz => by
  obtain ⟨o, q⟩ := h z hz
  exact ⟨o, e _ _ q⟩
theorem Zt.nil {H : Hp} : Zt [] H := fun z hz => absurd hz (by simp)
theorem Zt.not {Z : List Addr} {H : Hp} (h : Zt Z H) {p : Addr} (hp : H p = none) : p ∉ Z := fun hz => by
  obtain ⟨o, q⟩ := h p hz
  rw [hp] at q
  cases q
theorem Zt.cons {Z : List Addr} {H : Hp} {p : Addr} {o : HO} (h : Zt Z H) (hp : H p = some o) : Zt (p :: Z) H := fun z hz => by
  rcases List.mem_cons.mp hz with rfl | hz
  · exact ⟨_, hp⟩
  · exact h z hz
theorem Zt.upd {Z : List Addr} {H : Hp} {p : Addr} {o : HO} (h : Zt Z H) : Zt Z (upd H p o) := fun z hz => by
  by_cases e : z = p
  · subst e; exact ⟨_, upd_same⟩
  · rw [upd_ne e]; exact h z hz
/-- Y is hidden from the beginning, Z now -/
structure EnvOk (U : Ux) (K : PySem.W.Frag) (Y Z : List Addr) (H : Hp) (σ : L2.St) (env : Env) : Prop where
  len : σ.length = env.length
  sub : ∀ z ∈ Y, z ∈ Z
  zt : Zt Z H
  at_ : ∀ (i : Nat) (s : Slot), env[i]? = some s → SlotOk U K Y Z H σ[i]? s
  inj : ∀ (i j : Nat) (s t : Slot) (p : Addr), env[i]? = some s → env[j]? = some t → s.isOwn = true → t.isOwn = true → σ[i]? = some (some (.ref p)) → σ[j]? = some (some (.ref p)) → i = j
section
variable {U : Ux} {K : PySem.W.Frag} {H H' : Hp} {Y Z : List Addr} {σ : L2.St} {env : Env}
theorem DatK.mono (e : Ex H H') : ∀ {vs : List (Key × V)} {ds : List (Int × D)}, DatK U K H vs ds → DatK U K H' vs ds
  | _, _, .nil => .nil
  | _, _, .cons h hs => .cons (h.mono e) (DatK.mono e hs)
theorem SlotOk.mono {ov : Option (Option V)} {s : Slot} (e : Ex H H') (h : SlotOk U K Y Z H ov s) : SlotOk U K Y Z H' ov s := by
  cases s with
  | none => trivial
  | dat d => obtain ⟨v, h1, h2⟩ := h; exact ⟨v, h1, h2.mono (ex_view e Z)⟩
  | own xs => obtain ⟨p, vs, h1, h2, h3, h4⟩ := h; exact ⟨p, vs, h1, h2, e _ _ h3, h4.mono (ex_view e Z)⟩
  | dct xs => obtain ⟨p, vs, h1, h2, h3, h4⟩ := h; exact ⟨p, vs, h1, h2, e _ _ h3, h4.mono (ex_view e Z)⟩
theorem EnvOk.mono (e : Ex H H') (h : EnvOk U K Y Z H σ env) : EnvOk U K Y Z H' σ env := ⟨h.len, h.sub, h.zt.mono e, fun i s q => (h.at_ i s q).mono e, h.inj⟩
theorem EnvOk.get (h : EnvOk U K Y Z H σ env) (i : Nat) : SlotOk U K Y Z H σ[i]? (env.get i) := by
  unfold Env.get
  cases e : env[i]? with
  | none => exact True.intro
  | some s => exact h.at_ i s e
/-- all that is owned is let go: the whole heap is seen -/
theorem EnvOk.frz (h : EnvOk U K Y Z H σ env) : EnvOk U K Y Y H σ env.frz := by
  refine ⟨by rw [h.len]; simp [Env.frz], fun _ z => z, fun z hz => h.zt z (h.sub z hz), fun i s q => ?_, fun i j s t p q1 q2 o1 _ _ _ => ?_⟩
  · simp only [Env.frz, List.getElem?_map, Option.map_eq_some_iff] at q
    obtain ⟨s', q, rfl⟩ := q
    have r := h.at_ i s' q
    have ve : Ex (view H Z) (view H Y) := fun a o q => by
      unfold view at q ⊢
      split at q
      · cases q
      · rename_i ha
        rw [if_neg (fun z => ha (h.sub a z))]
        exact q
    cases s' with
    | none => trivial
    | dat d => obtain ⟨v, h1, h2⟩ := r; exact ⟨v, h1, h2.mono ve⟩
    | own xs =>
      obtain ⟨p, vs, h1, h2, h3, h4⟩ := r
      exact ⟨_, h1, .lst (by rw [view_out h2.2]; exact h3) (h4.mono ve)⟩
    | dct xs => trivial
  · simp only [Env.frz, List.getElem?_map, Option.map_eq_some_iff] at q1
    obtain ⟨s', _, rfl⟩ := q1
    cases s' <;> exact absurd (show false = true from o1) Bool.false_ne_true
/-- a name is given a datum -/
theorem EnvOk.set {d : D} {v : V} (h : EnvOk U K Y Z H σ env) (i : Nat) (hv : Dat U K (view H Z) v d) : EnvOk U K Y Z H (σ.set i (some v)) (env.set i (.dat d)) := by
  refine ⟨by simp [h.len], h.sub, h.zt, fun j s q => ?_, fun j l s t p q1 q2 o1 o2 r1 r2 => ?_⟩
  · rw [List.getElem?_set] at q ⊢
    by_cases hj : i = j
    · rw [if_pos hj] at q ⊢
      by_cases hl : i < env.length
      · rw [if_pos hl] at q
        rw [if_pos (by rw [h.len]; exact hl)]
        cases q
        exact ⟨v, rfl, hv⟩
      · rw [if_neg hl] at q; cases q
    · rw [if_neg hj] at q ⊢
      exact h.at_ j s q
  · have out : ∀ {m : Nat} {s : Slot}, (env.set i (.dat d))[m]? = some s → s.isOwn = true → m ≠ i ∧ env[m]? = some s := fun {m s} q o => by
      rw [List.getElem?_set] at q
      by_cases hm : i = m
      · rw [if_pos hm] at q
        split at q
        · cases q; exact absurd (show false = true from o) Bool.false_ne_true
        · cases q
      · rw [if_neg hm] at q; exact ⟨fun e => hm e.symm, q⟩
    obtain ⟨n1, q1⟩ := out q1 o1
    obtain ⟨n2, q2⟩ := out q2 o2
    rw [List.getElem?_set_ne (Ne.symm n1)] at r1
    rw [List.getElem?_set_ne (Ne.symm n2)] at r2
    exact h.inj j l s t p q1 q2 o1 o2 r1 r2
/-- a name is forgotten -/
theorem EnvOk.unset (h : EnvOk U K Y Z H σ env) (i : Nat) (ov : Option V) : EnvOk U K Y Z H (σ.set i ov) (env.set i .none) := by
  refine ⟨by simp [h.len], h.sub, h.zt, fun j s q => ?_, fun j l s t p q1 q2 o1 o2 r1 r2 => ?_⟩
  · rw [List.getElem?_set] at q ⊢
    by_cases hj : i = j
    · rw [if_pos hj] at q
      split at q
      · cases q; trivial
      · cases q
    · rw [if_neg hj] at q ⊢
      exact h.at_ j s q
  · have out : ∀ {m : Nat} {s : Slot}, (env.set i .none)[m]? = some s → s.isOwn = true → m ≠ i ∧ env[m]? = some s := fun {m s} q o => by
      rw [List.getElem?_set] at q
      by_cases hm : i = m
      · rw [if_pos hm] at q
        split at q
        · cases q; exact absurd (show false = true from o) Bool.false_ne_true
        · cases q
      · rw [if_neg hm] at q; exact ⟨fun e => hm e.symm, q⟩
    obtain ⟨n1, q1⟩ := out q1 o1
    obtain ⟨n2, q2⟩ := out q2 o2
    rw [List.getElem?_set_ne (Ne.symm n1)] at r1
    rw [List.getElem?_set_ne (Ne.symm n2)] at r2
    exact h.inj j l s t p q1 q2 o1 o2 r1 r2
theorem EnvOk.wipe (h : EnvOk U K Y Z H σ env) : ∀ vs : List Nat, EnvOk U K Y Z H (L2.wipe σ vs) (env.wipe vs)
  | [] => h
  | v :: vs => (EnvOk.wipe h vs).unset v none
/-- an object that was not there is hidden -/
theorem EnvOk.hide {p : Addr} {o : HO} (e : Ex H H') (h : EnvOk U K Y Z H σ env) (hp : H p = none) (hp' : H' p = some o) : EnvOk U K Y (p :: Z) H' σ env := by
  refine ⟨h.len, fun z hz => List.mem_cons_of_mem _ (h.sub z hz), (h.zt.mono e).cons hp', fun i s q => ?_, h.inj⟩
  have r := h.at_ i s q
  have ve : Ex (view H Z) (view H' (p :: Z)) := ex_view_cons e hp
  cases s with
  | none => trivial
  | dat d => obtain ⟨v, h1, h2⟩ := r; exact ⟨v, h1, h2.mono ve⟩
  | own xs => obtain ⟨a, vs, h1, h2, h3, h4⟩ := r; exact ⟨a, vs, h1, ⟨List.mem_cons_of_mem _ h2.1, h2.2⟩, e _ _ h3, h4.mono ve⟩
  | dct xs => obtain ⟨a, vs, h1, h2, h3, h4⟩ := r; exact ⟨a, vs, h1, ⟨List.mem_cons_of_mem _ h2.1, h2.2⟩, e _ _ h3, h4.mono ve⟩
/-- what is owned is put at a name -/
theorem EnvOk.put {s : Slot} {p : Addr} (h : EnvOk U K Y Z H σ env) (i : Nat) (hs : ∀ ov, ov = some (some (.ref p)) → SlotOk U K Y Z H ov s) (no : ∀ j t, j ≠ i → env[j]? = some t → t.isOwn = true → σ[j]? ≠ some (some (.ref p))) : EnvOk U K Y Z H (σ.set i (some (.ref p))) (env.set i s) := by
  refine ⟨by simp [h.len], h.sub, h.zt, fun j t q => ?_, fun j l t u a q1 q2 o1 o2 r1 r2 => ?_⟩
  · rw [List.getElem?_set] at q ⊢
    by_cases hj : i = j
    · rw [if_pos hj] at q ⊢
      by_cases hl : i < env.length
      · rw [if_pos hl] at q
        rw [if_pos (by rw [h.len]; exact hl)]
        cases q
        exact hs _ rfl
      · rw [if_neg hl] at q; cases q
    · rw [if_neg hj] at q ⊢
      exact h.at_ j t q
  · by_cases hj : j = i
    · by_cases hl : l = i
      · rw [hj, hl]
      · exfalso
        rw [List.getElem?_set_ne (Ne.symm hl)] at q2 r2
        subst hj
        have hlt : j < σ.length := by
          rw [h.len]
          have := (List.getElem?_eq_some_iff.mp q1).1
          simpa using this
        rw [List.getElem?_set_self hlt] at r1
        cases r1
        exact no l u hl q2 o2 r2
    · rw [List.getElem?_set_ne (Ne.symm hj)] at q1 r1
      by_cases hl : l = i
      · exfalso
        subst hl
        have hlt : l < σ.length := by
          rw [h.len]
          have := (List.getElem?_eq_some_iff.mp q2).1
          simpa using this
        rw [List.getElem?_set_self hlt] at r2
        cases r2
        exact no j t hj q1 o1 r1
      · rw [List.getElem?_set_ne (Ne.symm hl)] at q2 r2
        exact h.inj j l t u a q1 q2 o1 o2 r1 r2
/-- an owned object is changed in its place -/
theorem EnvOk.write {s t : Slot} {p : Addr} {o : HO} (h : EnvOk U K Y Z H σ env) (i : Nat) (hi : env[i]? = some s) (ho : s.isOwn = true) (hp : σ[i]? = some (some (.ref p))) (hz : p ∈ Z) (hs : SlotOk U K Y Z (upd H p o) (some (some (.ref p))) t) :
    EnvOk U K Y Z (upd H p o) σ (env.set i t) := by
  have ve : view (upd H p o) Z = view H Z := view_upd hz
  refine ⟨by simp [h.len], h.sub, h.zt.upd, fun j u q => ?_, fun j l u w a q1 q2 o1 o2 r1 r2 => ?_⟩
  · rw [List.getElem?_set] at q
    by_cases hj : i = j
    · rw [if_pos hj] at q
      split at q
      · cases q
        rw [← hj, hp]
        exact hs
      · cases q
    · rw [if_neg hj] at q
      have r := h.at_ j u q
      cases u with
      | none => trivial
      | dat d => obtain ⟨v, h1, h2⟩ := r; exact ⟨v, h1, by rw [ve]; exact h2⟩
      | own xs =>
        obtain ⟨a, vs, h1, h2, h3, h4⟩ := r
        have ne : a ≠ p := fun e => hj (h.inj i j s _ p hi q ho rfl hp (by rw [← e]; exact h1))
        exact ⟨a, vs, h1, h2, by rw [upd_ne ne]; exact h3, by rw [ve]; exact h4⟩
      | dct xs =>
        obtain ⟨a, vs, h1, h2, h3, h4⟩ := r
        have ne : a ≠ p := fun e => hj (h.inj i j s _ p hi q ho rfl hp (by rw [← e]; exact h1))
        exact ⟨a, vs, h1, h2, by rw [upd_ne ne]; exact h3, by rw [ve]; exact h4⟩
  · have out : ∀ {m : Nat} {u : Slot}, (env.set i t)[m]? = some u → u.isOwn = true → ∃ w, env[m]? = some w ∧ w.isOwn = true := fun {m u} q o => by
      rw [List.getElem?_set] at q
      by_cases hm : i = m
      · exact ⟨s, hm ▸ hi, ho⟩
      · rw [if_neg hm] at q; exact ⟨u, q, o⟩
    obtain ⟨w1, q1, o1⟩ := out q1 o1
    obtain ⟨w2, q2, o2⟩ := out q2 o2
    exact h.inj j l w1 w2 a q1 q2 o1 o2 r1 r2
theorem EnvOk.start {vs : List V} {ds : List D} (z : Zt Y H) (h : DatL U K (view H Y) vs ds) (N : List Str) (hl : vs.length ≤ N.length) : EnvOk U K Y Y H (L2.start N vs) (ds.map .dat ++ List.replicate (N.length - ds.length) .none) := by
  have e := h.length
  refine ⟨by simp [L2.start, e], fun _ z => z, z, fun i s q => ?_, fun i j s t p q1 q2 o1 _ _ _ => ?_⟩
  · rw [List.getElem?_append] at q
    split at q
    · rename_i hi
      rw [List.length_map] at hi
      rw [List.getElem?_map, Option.map_eq_some_iff] at q
      obtain ⟨d, q, rfl⟩ := q
      obtain ⟨v, hv, hd⟩ := h.get q
      refine ⟨v, ?_, hd⟩
      unfold L2.start
      rw [List.getElem?_append_left (by rw [List.length_map, e]; exact hi), List.getElem?_map, hv]
      rfl
    · rw [List.getElem?_replicate] at q
      split at q
      · cases q; trivial
      · cases q
  · rw [List.getElem?_append] at q1
    split at q1
    · rw [List.getElem?_map, Option.map_eq_some_iff] at q1
      obtain ⟨d, _, rfl⟩ := q1
      exact absurd (show false = true from o1) Bool.false_ne_true
    · rw [List.getElem?_replicate] at q1
      split at q1
      · cases q1; exact absurd (show false = true from o1) Bool.false_ne_true
      · cases q1
end
end Rwl

set_option Elab.async false
set_option linter.all false
set_option maxRecDepth 100000
set_option maxHeartbeats 1000000
/-! Rwl, part C: the operations by values: what the plain functions give is what the program's operations give. -/
namespace Rwl
open PySem PySem.Spec PyProof.Rows L2 Evl

theorem lim_line {n : Nat} (h : n ≤ lim) : n ≤ sizeLine := sz_of h
theorem lim_lt {n : Nat} (h : n < lim) : n < sizeLine := sz_lt h
theorem req_ok {α : Type} {b : Bool} {r : Res α} {a : α} (h : req b r = .ok a) : b = true ∧ r = .ok a := by
  cases b with
  | true => exact ⟨rfl, h⟩
  | false => cases h
theorem ofO_ok {α : Type} {o : Option α} {a : α} (h : ofO o = .ok a) : o = some a := by
  cases o with
  | none => cases h
  | some b => cases h; rfl
theorem bind_ok_inv {α β : Type} {r : Res α} {f : α → Res β} {b : β} (h : r.bind f = .ok b) : ∃ a, r = .ok a ∧ f a = .ok b := by
  cases r with
  | ok a => exact ⟨a, rfl, h⟩
  | exc c => cases h
  | bad => cases h
theorem ok_inj {α : Type} {a b : α} (h : Res.ok a = .ok b) : a = b := by cases h; rfl

/-- a container that is looked into: its items are data that nobody changes; it itself may be the def's own -/
def Con (U : Ux) (K : PySem.W.Frag) (Z : List Addr) (H : Hp) (v : V) (d : D) : Prop :=
  Dat U K (view H Z) v d ∨ ∃ ds a xs, d = .list ds ∧ v = .ref a ∧ H a = some (.lst xs) ∧ DatL U K (view H Z) xs ds
section
variable {U : Ux} {K : PySem.W.Frag} {Z : List Addr} {H H' : Hp} {v : V}
theorem Con.mono {d : D} (e : Ex H H') (h : Con U K Z H v d) : Con U K Z H' v d := by
  rcases h with h | ⟨ds, a, xs, e1, e2, h1, h2⟩
  · exact .inl (h.mono (ex_view e Z))
  · exact .inr ⟨ds, a, xs, e1, e2, e _ _ h1, h2.mono (ex_view e Z)⟩
theorem Con.list {ds : List D} (h : Con U K Z H v (.list ds)) : ∃ a xs, v = .ref a ∧ H a = some (.lst xs) ∧ DatL U K (view H Z) xs ds := by
  rcases h with h | ⟨es, a, xs, e1, e2, h1, h2⟩
  · obtain ⟨a, xs, e, h1, h2⟩ := h.list_inv
    exact ⟨a, xs, e, view_ex H Z _ _ h1, h2⟩
  · cases e1
    exact ⟨a, xs, e2, h1, h2⟩
theorem Con.dat {d : D} (h : Con U K Z H v d) (n : ∀ ds, d ≠ .list ds) : Dat U K (view H Z) v d := by
  rcases h with h | ⟨es, a, xs, e1, _⟩
  · exact h
  · exact absurd e1 (n es)
theorem Dat.listH {ds : List D} (h : Dat U K (view H Z) v (.list ds)) : ∃ a xs, v = .ref a ∧ H a = some (.lst xs) ∧ DatL U K (view H Z) xs ds := Con.list (.inl h)
theorem Dat.tupleH {ds : List D} (h : Dat U K (view H Z) v (.tuple ds)) : ∃ a xs, v = .ref a ∧ SqT K H a xs ∧ DatL U K (view H Z) xs ds := by
  obtain ⟨a, xs, e, h1, h2⟩ := h.tuple_inv
  exact ⟨a, xs, e, ex_t (view_ex H Z) h1, h2⟩
theorem Dat.dict_ref {kvs : List (D × D)} (h : Dat U K H v (.dict kvs)) : ∃ a, v = .ref a := by
  cases h <;> exact ⟨_, rfl⟩
theorem Dat.scr_inv {xs : List D} {ns : List Int} (hi : intL xs = some ns) (h : Dat U K H v (.dict [(.bool true, .list xs)])) : ∃ a, v = .ref a ∧ SqL K H a (ns.map V.int) := by
  rw [intL_of hi] at h
  generalize he : (PyData.dict [(.bool true, .list (ns.map .int))] : D) = d at h
  cases h with
  | scr h =>
    rename_i a ms
    have e2 : ms.map PyData.int = ns.map PyData.int := by
      injection he with he
      injection he with h1 h2
      injection h1 with h1 h3
      injection h3 with h3
      exact h3.symm
    have e3 : ms = ns := by
      have := congrArg Rwl.intL e2
      rw [intL_map, intL_map] at this
      exact Option.some.inj this
    subst e3
    exact ⟨a, rfl, h⟩
  | any h hx =>
    obtain ⟨kvs, e, m⟩ := U.xd _ _ _ hx
    rw [← he] at e
    cases e
    exact absurd (show true = false from m) (by decide)
  | _ => cases he
/-- a new list, a new tuple -/
theorem Dat.newL {p : Addr} {xs : List V} {ds : List D} (t : Zt Z H) (hp : H p = none) (h : DatL U K (view H Z) xs ds) : Dat U K (view (upd H p (.lst xs)) Z) (.ref p) (.list ds) := by
  refine .lst (xs := xs) ?_ (h.mono (ex_view (Ex.new hp) Z))
  rw [view_out (t.not hp), upd_same]
theorem Dat.newT {p : Addr} {xs : List V} {ds : List D} (t : Zt Z H) (hp : H p = none) (h : DatL U K (view H Z) xs ds) : Dat U K (view (upd H p (.tup xs)) Z) (.ref p) (.tuple ds) := by
  refine .tup (xs := xs) (.inl (.inl ?_)) (h.mono (ex_view (Ex.new hp) Z))
  rw [view_out (t.not hp), upd_same]
end

/-- what is wanted of a datum handed back -/
def Wn (U : Ux) (K : PySem.W.Frag) (Z : List Addr) (H : Hp) (Q : VK) (d : D) : Prop := ∀ v H', Ex H H' → Dat U K (view H' Z) v d → Q v H'
/-- two operands -/
def r2D (U : Ux) (K : PySem.W.Frag) (Z : List Addr) (g : D → D → Res D) : R2 := fun x y H Q => Zt Z H ∧ ∃ a b d, Dat U K (view H Z) x a ∧ Dat U K (view H Z) y b ∧ g a b = .ok d ∧ Wn U K Z H Q d
def r2B (U : Ux) (K : PySem.W.Frag) (Z : List Addr) (g : D → D → Res Bool) : R2 := fun x y H Q => ∃ a b k, Dat U K (view H Z) x a ∧ Dat U K (view H Z) y b ∧ g a b = .ok k ∧ Q (.bl k) H
def rCD (U : Ux) (K : PySem.W.Frag) (Z : List Addr) (g : D → D → Res D) : R2 := fun x y H Q => ∃ a b d, Con U K Z H x a ∧ Dat U K (view H Z) y b ∧ g a b = .ok d ∧ Wn U K Z H Q d
def O2.op : O2 → Operator
  | .add => .Add
  | .sub => .Sub
  | .mul => .Mult
  | .fdiv => .FloorDiv
  | .mod => .Mod
def Cm.op : Cm → CmpOp
  | .lt => .Lt
  | .le => .LtE
  | .gt => .Gt
  | .ge => .GtE
  | .eq => .Eq
  | .ne => .NotEq
  | .inn => .In
  | .nin => .NotIn
  | .isn => .Is
  | .ntn => .IsNot

section
variable {U : Ux} {X : Cx} {Z : List Addr}
theorem Wn.int {H : Hp} {Q : VK} {i : Int} (h : Wn U X.K Z H Q (.int i)) : Q (.int i) H := h _ H (Ex.refl H) (.int i)
theorem Wn.bl {H : Hp} {Q : VK} {i : Bool} (h : Wn U X.K Z H Q (.bool i)) : Q (.bl i) H := h _ H (Ex.refl H) (.bl i)
theorem Wn.str {H : Hp} {Q : VK} {i : Str} (h : Wn U X.K Z H Q (.str i)) : Q (.str i) H := h _ H (Ex.refl H) (.str i)
theorem op_bin (o : O2) : OpR X (binaryOp o.op) (r2D U X.K Z o.run) := by
  intro pins s σ H x y v u Q I rx ry h
  obtain ⟨t, a, b, d, hx, hy, hg, q⟩ := h
  cases o with
  | add =>
    cases a with
    | int i =>
      cases b with
      | int j =>
        cases hx.int_inv; cases hy.int_inv
        cases ok_inj hg
        exact op_add pins s σ H _ _ v u Q I rx ry ⟨i, j, rfl, rfl, q.int⟩
      | _ => cases hg
    | str i =>
      cases b with
      | str j =>
        cases hx.str_inv; cases hy.str_inv
        obtain ⟨h1, h2⟩ := req_ok hg
        cases ok_inj h2
        exact op_add_str pins s σ H _ _ v u Q I rx ry ⟨i, j, rfl, rfl, lim_line (of_decide_eq_true h1), q.str⟩
      | _ => cases hg
    | list i =>
      cases b with
      | list j =>
        obtain ⟨p, xs, rfl, h1, h2⟩ := hx.listH
        obtain ⟨p', ys, rfl, k1, k2⟩ := hy.listH
        obtain ⟨h3, h4⟩ := req_ok hg
        cases ok_inj h4
        exact op_cat pins s σ H _ _ v u Q I rx ry ⟨p, p', xs, ys, rfl, rfl, h1, k1, by rw [h2.length, k2.length]; exact lim_line (of_decide_eq_true h3), fun z hz => q _ _ (Ex.new hz) (Dat.newL t hz (h2.append k2))⟩
      | _ => cases hg
    | tuple i =>
      cases b with
      | tuple j =>
        obtain ⟨p, xs, rfl, h1, h2⟩ := hx.tupleH
        obtain ⟨p', ys, rfl, k1, k2⟩ := hy.tupleH
        obtain ⟨h3, h4⟩ := req_ok hg
        cases ok_inj h4
        refine op_catA pins s σ H _ _ v u Q I rx ry ⟨p, p', xs, ys, rfl, rfl, h1, k1, by rw [h2.length, k2.length]; exact lim_line (of_decide_eq_true h3), fun e => ?_, fun _ e => ?_, fun _ _ z hz => q _ _ (Ex.new hz) (Dat.newT t hz (h2.append k2))⟩
        · subst e
          cases h2
          exact q _ _ (Ex.refl H) (by simpa using hy)
        · subst e
          cases k2
          exact q _ _ (Ex.refl H) (by simpa using hx)
      | _ => cases hg
    | _ => cases hg
  | sub =>
    cases a with
    | int i =>
      cases b with
      | int j =>
        cases hx.int_inv; cases hy.int_inv
        cases ok_inj hg
        exact op_sub pins s σ H _ _ v u Q I rx ry ⟨i, j, rfl, rfl, q.int⟩
      | _ => cases hg
    | _ => cases hg
  | mul =>
    cases a with
    | int i =>
      cases b with
      | int j =>
        cases hx.int_inv; cases hy.int_inv
        obtain ⟨h1, h2⟩ := req_ok hg
        cases ok_inj h2
        refine op_mul pins s σ H _ _ v u Q I rx ry ⟨i, j, rfl, rfl, ?_, q.int⟩
        unfold near64 at h1
        simpa [CMul] using h1
      | _ => cases hg
    | list i =>
      cases b with
      | int k =>
        cases hy.int_inv
        obtain ⟨p, xs, rfl, h1, h2⟩ := hx.listH
        obtain ⟨h3, h4⟩ := req_ok hg
        cases ok_inj h4
        have h5 : (-100000 ≤ k ∧ k ≤ 100000) ∧ i.length * k.toNat ≤ lim := by simpa using h3
        exact op_rep pins s σ H _ _ v u Q I rx ry ⟨p, k, xs, rfl, rfl, h1, by omega, by omega, by rw [h2.length]; exact lim_line h5.2, fun z hz => q _ _ (Ex.new hz) (Dat.newL t hz (h2.rep _))⟩
      | _ => cases hg
    | _ => cases hg
  | fdiv =>
    cases a with
    | int i =>
      cases b with
      | int j =>
        cases hx.int_inv; cases hy.int_inv
        obtain ⟨h1, h2⟩ := req_ok hg
        cases ok_inj h2
        exact op_fdiv pins s σ H _ _ v u Q I rx ry ⟨i, j, rfl, rfl, by simpa [CDiv] using h1, q.int⟩
      | _ => cases hg
    | _ => cases hg
  | mod =>
    cases a with
    | int i =>
      cases b with
      | int j =>
        cases hx.int_inv; cases hy.int_inv
        obtain ⟨h1, h2⟩ := req_ok hg
        cases ok_inj h2
        exact op_mod pins s σ H _ _ v u Q I rx ry ⟨i, j, rfl, rfl, of_decide_eq_true h1, q.int⟩
      | _ => cases hg
    | _ => cases hg

/-! ### comparisons -/
theorem Dat.none_iff {U : Ux} {K : PySem.W.Frag} {H : Hp} {v : V} {d : D} (h : Dat U K H v d) : decide (v = .non) = nonD d := by
  cases d with
  | none => cases h.none_inv; rfl
  | bool b => cases h.bool_inv; rfl
  | int b => cases h.int_inv; rfl
  | str b => cases h.str_inv; rfl
  | list ds => obtain ⟨a, xs, rfl, _⟩ := h.list_inv; rfl
  | tuple ds => obtain ⟨a, xs, rfl, _⟩ := h.tuple_inv; rfl
  | dict kvs => obtain ⟨a, rfl⟩ := h.dict_ref; rfl
theorem lexLt_is : ∀ ns ms : List Int, HT.lexLt ns ms = lexLt ns ms
  | [], [] => rfl
  | [], _ :: _ => rfl
  | _ :: _, [] => rfl
  | x :: xs, y :: ys => by
    show (if x = y then HT.lexLt xs ys else decide (x < y)) = (if x = y then lexLt xs ys else decide (x < y))
    rw [lexLt_is xs ys]
theorem Dat.reads {U : Ux} {H : Hp} {pins : List (Addr × Obj)} {s : Shared} {σ : L2.St} (I : Inv X pins σ H s) {d : D} {v : V} {u : Value} {n : Nat} (p : dep n d = true) (h : Dat U X.K (view H Z) v d) (r : RelV v u) : ∃ as, Reads s.heap u d as :=
  Dp.reads I d v u (Dat.dp d v (dep_plain p).1 (h.mono (view_ex H Z))) r
theorem ltD_op {f : Value → Value → Sem Value} (hf : f = compareOp .Lt) (hu : X.A.units + 64 < cLine) : OpR X f (r2B U X.K Z ltD) := by
  subst hf
  intro pins s σ H x y v u Q I rx ry h
  obtain ⟨a, b, k, hx, hy, hg, q⟩ := h
  cases a with
  | int i =>
    cases b with
    | int j =>
      cases hx.int_inv; cases hy.int_inv
      cases ok_inj hg
      exact op_lt pins s σ H _ _ v u Q I rx ry ⟨i, j, rfl, rfl, q⟩
    | _ => cases hg
  | tuple xs =>
    cases b with
    | tuple ys =>
      obtain ⟨ns, h1, hg⟩ := bind_ok_inv hg
      obtain ⟨ms, h2, hg⟩ := bind_ok_inv hg
      cases ok_inj hg
      obtain ⟨p, vs, rfl, k1, k2⟩ := hx.tupleH
      obtain ⟨p', ws, rfl, l1, l2⟩ := hy.tupleH
      cases DatL.intL (ofO_ok h1) k2
      cases DatL.intL (ofO_ok h2) l2
      exact op_ltT (by omega) pins s σ H _ _ v u Q I rx ry ⟨p, p', ns, ms, rfl, rfl, k1, l1, by rw [lexLt_is]; exact q⟩
    | _ => cases hg
  | _ => cases hg
theorem inD_op (hu : X.A.units + 64 < cLine) (neg : Bool) : OpR X (compareOp (if neg then .NotIn else .In)) (fun x y H Q => ∃ a b k, Dat U X.K (view H Z) x a ∧ Dat U X.K (view H Z) y b ∧ inD a b = .ok k ∧ Q (.bl (if neg then !k else k)) H) := by
  intro pins s σ H x y v u Q I rx ry h
  obtain ⟨a, b, k, hx, hy, hg, q⟩ := h
  cases b with
  | list ds =>
    obtain ⟨h1, h2⟩ := req_ok hg
    cases ok_inj h2
    rw [Bool.and_eq_true] at h1
    have p9 : dep 9 (.list ds) = true := by simpa [dep] using h1.2
    obtain ⟨as, r1⟩ := Dat.reads I h1.1 hx rx
    obtain ⟨bs, r2⟩ := Dat.reads I p9 hy ry
    have d1 := dep_plain h1.1
    have d2 := dep_all (fun d _ => dep_plain (n := 8)) h1.2
    cases neg with
    | false => exact SeqAt.in_list_data r2 r1 d2.1 d1.1 (by have := d1.2; omega) ⟨.bl _, H, I, rfl, q⟩
    | true => exact SeqAt.notIn_list_data r2 r1 d2.1 d1.1 (by have := d1.2; omega) ⟨.bl _, H, I, rfl, q⟩
  | tuple ds =>
    obtain ⟨h1, h2⟩ := req_ok hg
    cases ok_inj h2
    rw [Bool.and_eq_true] at h1
    have p9 : dep 9 (.tuple ds) = true := by simpa [dep] using h1.2
    obtain ⟨as, r1⟩ := Dat.reads I h1.1 hx rx
    obtain ⟨bs, r2⟩ := Dat.reads I p9 hy ry
    have d1 := dep_plain h1.1
    have d2 := dep_all (fun d _ => dep_plain (n := 8)) h1.2
    cases neg with
    | false => exact SeqAt.in_tuple_data r2 r1 d2.1 d1.1 (by have := d1.2; omega) ⟨.bl _, H, I, rfl, q⟩
    | true => exact SeqAt.notIn_tuple_data r2 r1 d2.1 d1.1 (by have := d1.2; omega) ⟨.bl _, H, I, rfl, q⟩
  | str z =>
    cases a with
    | str w =>
      obtain ⟨l⟩ := w
      obtain ⟨l⟩ := l
      cases l with
      | nil => cases hg
      | cons c r =>
        cases r with
        | nil =>
          cases hx.str_inv; cases hy.str_inv
          cases ok_inj hg
          cases neg with
          | false => exact op_in_sign pins s σ H _ _ v u Q I rx ry ⟨c, z, rfl, rfl, q⟩
          | true => exact op_notIn_sign pins s σ H _ _ v u Q I rx ry ⟨c, z, rfl, rfl, q⟩
        | cons _ _ => cases hg
    | _ => cases hg
  | _ => cases hg
theorem op_cm (hu : X.A.units + 64 < cLine) (o : Cm) : OpR X (compareOp o.op) (r2B U X.K Z o.run) := by
  cases o with
  | lt => exact ltD_op rfl hu
  | gt =>
    intro pins s σ H x y v u Q I rx ry h
    obtain ⟨a, b, k, hx, hy, hg, q⟩ := h
    have hg : gtD a b = .ok k := hg
    cases a with
    | int i =>
      cases b with
      | int j =>
        cases hx.int_inv; cases hy.int_inv
        cases ok_inj hg
        exact op_gt pins s σ H _ _ v u Q I rx ry ⟨i, j, rfl, rfl, q⟩
      | _ => cases hg
    | _ => cases hg
  | le =>
    intro pins s σ H x y v u Q I rx ry h
    obtain ⟨a, b, k, hx, hy, hg, q⟩ := h
    have hg : leD a b = .ok k := hg
    cases a with
    | int i =>
      cases b with
      | int j =>
        cases hx.int_inv; cases hy.int_inv
        cases ok_inj hg
        exact op_le pins s σ H _ _ v u Q I rx ry ⟨i, j, rfl, rfl, q⟩
      | _ => cases hg
    | _ => cases hg
  | ge =>
    intro pins s σ H x y v u Q I rx ry h
    obtain ⟨a, b, k, hx, hy, hg, q⟩ := h
    have hg : geD a b = .ok k := hg
    cases a with
    | int i =>
      cases b with
      | int j =>
        cases hx.int_inv; cases hy.int_inv
        cases ok_inj hg
        exact op_ge pins s σ H _ _ v u Q I rx ry ⟨i, j, rfl, rfl, q⟩
      | _ => cases hg
    | _ => cases hg
  | eq =>
    intro pins s σ H x y v u Q I rx ry h
    obtain ⟨a, b, k, hx, hy, hg, q⟩ := h
    obtain ⟨h1, h2⟩ := req_ok (show eqD a b = .ok k from hg)
    cases ok_inj h2
    rw [Bool.and_eq_true] at h1
    obtain ⟨as, r1⟩ := Dat.reads I h1.1 hx rx
    obtain ⟨bs, r2⟩ := Dat.reads I h1.2 hy ry
    exact SeqAt.eq_plain r1 r2 (dep_plain h1.1).1 (dep_plain h1.2).1 (by have := (dep_plain h1.1).2; omega) ⟨.bl _, H, I, rfl, q⟩
  | ne =>
    intro pins s σ H x y v u Q I rx ry h
    obtain ⟨a, b, k, hx, hy, hg, q⟩ := h
    obtain ⟨k', hg', hk⟩ := bind_ok_inv (show (eqD a b).nott = .ok k from hg)
    cases ok_inj hk
    obtain ⟨h1, h2⟩ := req_ok (show req _ _ = .ok k' from hg')
    cases ok_inj h2
    rw [Bool.and_eq_true] at h1
    obtain ⟨as, r1⟩ := Dat.reads I h1.1 hx rx
    obtain ⟨bs, r2⟩ := Dat.reads I h1.2 hy ry
    exact SeqAt.ne_plain r1 r2 (dep_plain h1.1).1 (dep_plain h1.2).1 (by have := (dep_plain h1.1).2; omega) ⟨.bl _, H, I, rfl, q⟩
  | inn =>
    intro pins s σ H x y v u Q I rx ry h
    obtain ⟨a, b, k, hx, hy, hg, q⟩ := h
    exact inD_op (U := U) (Z := Z) hu false pins s σ H x y v u Q I rx ry ⟨a, b, k, hx, hy, hg, q⟩
  | nin =>
    intro pins s σ H x y v u Q I rx ry h
    obtain ⟨a, b, k, hx, hy, hg, q⟩ := h
    obtain ⟨k', hg', hk⟩ := bind_ok_inv (show (inD a b).nott = .ok k from hg)
    cases ok_inj hk
    exact inD_op (U := U) (Z := Z) hu true pins s σ H x y v u Q I rx ry ⟨a, b, k', hx, hy, hg', q⟩
  | isn =>
    intro pins s σ H x y v u Q I rx ry h
    obtain ⟨a, b, k, hx, hy, hg, q⟩ := h
    obtain ⟨h1, h2⟩ := req_ok (show req (nonD b) (.ok (nonD a)) = .ok k from hg)
    cases ok_inj h2
    have e : y = .non := of_decide_eq_true (by rw [hy.none_iff]; exact h1)
    exact op_isN pins s σ H _ _ v u Q I rx ry ⟨e, by rw [hx.none_iff]; exact q⟩
  | ntn =>
    intro pins s σ H x y v u Q I rx ry h
    obtain ⟨a, b, k, hx, hy, hg, q⟩ := h
    obtain ⟨h1, h2⟩ := req_ok (show req (nonD b) (.ok (!nonD a)) = .ok k from hg)
    cases ok_inj h2
    have e : y = .non := of_decide_eq_true (by rw [hy.none_iff]; exact h1)
    exact op_notN pins s σ H _ _ v u Q I rx ry ⟨e, by rw [hx.none_iff]; exact q⟩

/-! ### one operand; truth -/
theorem un_negD : UnR X (unaryOp .USub) (fun x H Q => ∃ a d, Dat U X.K (view H Z) x a ∧ negD a = .ok d ∧ Wn U X.K Z H Q d) := by
  intro pins s σ H x v Q I rx h
  obtain ⟨a, d, hx, hg, q⟩ := h
  cases a with
  | int i =>
    cases hx.int_inv
    cases ok_inj hg
    exact un_neg pins s σ H _ v Q I rx ⟨i, rfl, q.int⟩
  | _ => cases hg
theorem Con.truV {H : Hp} {x : V} {a : D} {k : Bool} (hx : Con U X.K Z H x a) (hg : tru a = .ok k) : TruV X.K x H k := by
  cases a with
  | none => cases (hx.dat (fun _ e => nomatch e)).none_inv; cases ok_inj hg; exact rfl
  | bool b => cases (hx.dat (fun _ e => nomatch e)).bool_inv; cases ok_inj hg; exact rfl
  | int b => cases (hx.dat (fun _ e => nomatch e)).int_inv; cases ok_inj hg; exact rfl
  | str b =>
    cases (hx.dat (fun _ e => nomatch e)).str_inv
    obtain ⟨h1, h2⟩ := req_ok hg
    cases ok_inj h2
    exact ⟨lim_line (of_decide_eq_true h1), rfl⟩
  | list ds =>
    obtain ⟨p, xs, rfl, h1, h2⟩ := hx.list
    cases ok_inj hg
    refine .inl ⟨xs, SqL.of h1, ?_⟩
    cases h2 <;> rfl
  | tuple ds =>
    obtain ⟨p, xs, rfl, h1, h2⟩ := (hx.dat (fun _ e => nomatch e)).tupleH
    cases ok_inj hg
    refine .inr (.inl ⟨xs, h1, ?_⟩)
    cases h2 <;> rfl
  | dict kvs =>
    have hx := hx.dat (fun _ e => nomatch e)
    obtain ⟨xs, h0, hg⟩ := bind_ok_inv (show (ofO (scrOf kvs)).bind _ = .ok k from hg)
    cases scrOf_of (ofO_ok h0)
    obtain ⟨h1, h2⟩ := req_ok hg
    cases ok_inj h2
    obtain ⟨ns, hn⟩ := Option.isSome_iff_exists.mp h1
    obtain ⟨p, rfl, hs⟩ := hx.scr_inv hn
    refine .inl ⟨_, ex_l (view_ex H Z) hs, ?_⟩
    rw [intL_of hn]
    cases ns <;> rfl
end
end Rwl

set_option Elab.async false
set_option linter.all false
set_option maxRecDepth 100000
set_option maxHeartbeats 1000000
set_option exponentiation.threshold 2000
/-! Rwl, part D: subscripts, slices, built-in functions and methods by values. -/
namespace Rwl
open PySem PySem.Spec PyProof.Rows L2 Evl

theorem pix_atI {α : Type} (xs : List α) (i : Int) : pix xs i = atI xs i := by
  unfold pix atI ixN
  by_cases h0 : 0 ≤ i
  · rw [if_pos h0, if_pos h0]
    by_cases h1 : i < xs.length
    · rw [if_pos h1]; rfl
    · rw [if_neg h1]
      exact List.getElem?_eq_none (by omega)
  · rw [if_neg h0, if_neg h0]
    by_cases h1 : -(xs.length : Int) ≤ i
    · rw [if_pos h1, if_pos h1]; rfl
    · rw [if_neg h1, if_neg h1]; rfl
theorem DatL.atI {U : Ux} {K : PySem.W.Frag} {H : Hp} {vs : List V} {ds : List D} {i : Int} {d : D} (h : DatL U K H vs ds) (e : pix ds i = some d) : ∃ v, L2.atI vs i = some v ∧ Dat U K H v d := by
  rw [pix_atI] at e
  unfold L2.atI at e ⊢
  rw [h.length]
  cases q : ixN ds.length i with
  | none => rw [q] at e; cases e
  | some j =>
    rw [q] at e
    exact h.get e
section
variable {U : Ux} {X : Cx} {Z : List Addr}
theorem ix_D : IxR X (rCD U X.K Z ixD) := by
  intro value slice pins s σ H x y v u Q I rx ry h hs
  obtain ⟨a, b, d, hx, hy, hg, q⟩ := h
  cases a with
  | list ds =>
    cases b with
    | int i =>
      cases hy.int_inv
      obtain ⟨p, xs, rfl, h1, h2⟩ := hx.list
      obtain ⟨w, e1, e2⟩ := h2.atI (ofO_ok hg)
      exact ix_list value slice pins s σ H _ _ v u Q I rx ry ⟨p, xs, i, w, rfl, rfl, SqL.of h1, e1, q _ _ (Ex.refl H) e2⟩ hs
    | _ => cases hg
  | tuple ds =>
    cases b with
    | int i =>
      cases hy.int_inv
      obtain ⟨p, xs, rfl, h1, h2⟩ := (hx.dat (fun _ e => nomatch e)).tupleH
      obtain ⟨w, e1, e2⟩ := h2.atI (ofO_ok hg)
      exact ix_tup value slice pins s σ H _ _ v u Q I rx ry ⟨p, xs, i, w, rfl, rfl, h1, e1, q _ _ (Ex.refl H) e2⟩ hs
    | _ => cases hg
  | str z =>
    cases b with
    | int i =>
      cases hy.int_inv
      cases (hx.dat (fun _ e => nomatch e)).str_inv
      obtain ⟨h1, hg⟩ := req_ok hg
      obtain ⟨c, h2, hg⟩ := bind_ok_inv hg
      cases ok_inj hg
      have e := ofO_ok h2
      rw [pix_atI] at e
      exact ix_str value slice pins s σ H _ _ v u Q I rx ry ⟨z, i, c, rfl, rfl, lim_line (of_decide_eq_true h1), e, q.str⟩ hs
    | _ => cases hg
  | dict kvs =>
    cases b with
    | int i =>
      cases hy.int_inv
      obtain ⟨xs, h0, hg⟩ := bind_ok_inv hg
      cases scrOf_of (ofO_ok h0)
      obtain ⟨h1, hg⟩ := req_ok hg
      obtain ⟨ns, hn⟩ := Option.isSome_iff_exists.mp h1
      obtain ⟨p, rfl, hs'⟩ := (hx.dat (fun _ e => nomatch e)).scr_inv hn
      have e := ofO_ok hg
      rw [intL_of hn] at e
      obtain ⟨w, e1, e2⟩ := (DatL.of_ints (U := U) (K := X.K) (H := view H Z) ns).atI e
      exact ix_list value slice pins s σ H _ _ v u Q I rx ry ⟨p, _, i, w, rfl, rfl, ex_l (view_ex H Z) hs', e1, q _ _ (Ex.refl H) e2⟩ hs
    | _ => cases hg
  | _ => cases b <;> cases hg
/-- slices -/
def rSlD (U : Ux) (K : PySem.W.Frag) (Z : List Addr) : V → Option Int → Option Int → Hp → VK → Prop := fun x lo hi H Q => Zt Z H ∧ ∃ a d, Con U K Z H x a ∧ slD lo hi a = .ok d ∧ Wn U K Z H Q d
theorem sI_is (n d : Nat) (o : Option Int) : HT.sIx n d o = sI n d o := by cases o <;> rfl
theorem cut_whole {α : Type} {xs : List α} {lo hi : Option Int} (h : sI xs.length 0 lo = 0 ∧ sI xs.length xs.length hi = xs.length) : cut xs lo hi = xs := by
  unfold cut
  rw [h.1, h.2]
  simp
theorem sl_D : SlR X (rSlD U X.K Z) := by
  intro pins s σ H x v vl vu lo hi sl Q I rx hs pl pu h
  obtain ⟨t, a, d, hx, hg, q⟩ := h
  cases a with
  | list ds =>
    obtain ⟨p, xs, rfl, h1, h2⟩ := hx.list
    cases ok_inj hg
    exact sl_list pins s σ H _ v vl vu lo hi sl Q I rx hs pl pu ⟨p, xs, rfl, SqL.of h1, fun z hz => q _ _ (Ex.new hz) (Dat.newL t hz (h2.cut lo hi))⟩
  | tuple ds =>
    have hd := hx.dat (fun _ e => nomatch e)
    obtain ⟨p, xs, rfl, h1, h2⟩ := hd.tupleH
    cases ok_inj hg
    refine sl_tupA pins s σ H _ v vl vu lo hi sl Q I rx hs pl pu ⟨p, xs, rfl, h1, fun e => ?_, fun _ z hz => q _ _ (Ex.new hz) (Dat.newT t hz (h2.cut lo hi))⟩
    rw [sI_is, sI_is, h2.length] at e
    rw [cut_whole e] at q
    exact q _ _ (Ex.refl H) hd
  | str z =>
    cases (hx.dat (fun _ e => nomatch e)).str_inv
    obtain ⟨h1, hg⟩ := req_ok hg
    cases ok_inj hg
    refine sl_str pins s σ H _ v vl vu lo hi sl Q I rx hs pl pu ⟨z, rfl, lim_line (of_decide_eq_true h1), ?_⟩
    have e : cutS z lo hi = ⟨(cut z.cps.toList lo hi).toArray⟩ := by
      unfold cutS cut
      have hl : z.cps.toList.length = z.length := by simp [Str.length]
      simp only [sI_is, hl]
    rw [e]
    exact q.str
  | _ => cases hg

/-! ### built-in functions -/
def rBi (U : Ux) (K : PySem.W.Frag) (Z : List Addr) (g : List D → Res D) : List V → Hp → VK → Prop := fun vs H Q => Zt Z H ∧ ∃ ds d, DatL U K (view H Z) vs ds ∧ g ds = .ok d ∧ Wn U K Z H Q d
theorem foldl_max (r : List Int) : ∀ n : Int, r.foldl max n ∈ n :: r ∧ ∀ y ∈ n :: r, y ≤ r.foldl max n := by
  induction r with
  | nil => intro n; simp
  | cons k r ih =>
    intro n
    obtain ⟨h1, h2⟩ := ih (max n k)
    rw [List.foldl_cons]
    refine ⟨?_, fun y hy => ?_⟩
    · rcases List.mem_cons.mp h1 with e | e
      · rw [e]
        by_cases hk : n ≤ k
        · rw [Int.max_eq_right hk]; simp
        · rw [Int.max_eq_left (by omega)]; simp
      · simp [e]
    · have h3 := h2 (max n k) List.mem_cons_self
      rcases List.mem_cons.mp hy with e | hy
      · subst e; omega
      · rcases List.mem_cons.mp hy with e | hy
        · subst e; omega
        · exact h2 y (List.mem_cons_of_mem _ hy)
theorem foldl_min (r : List Int) : ∀ n : Int, r.foldl min n ∈ n :: r ∧ ∀ y ∈ n :: r, r.foldl min n ≤ y := by
  induction r with
  | nil => intro n; simp
  | cons k r ih =>
    intro n
    obtain ⟨h1, h2⟩ := ih (min n k)
    rw [List.foldl_cons]
    refine ⟨?_, fun y hy => ?_⟩
    · rcases List.mem_cons.mp h1 with e | e
      · rw [e]
        by_cases hk : n ≤ k
        · rw [Int.min_eq_left hk]; simp
        · rw [Int.min_eq_right (by omega)]; simp
      · simp [e]
    · have h3 := h2 (min n k) List.mem_cons_self
      rcases List.mem_cons.mp hy with e | hy
      · subst e; omega
      · rcases List.mem_cons.mp hy with e | hy
        · subst e; omega
        · exact h2 y (List.mem_cons_of_mem _ hy)
theorem sort_ints_is {ns ms : List Int} (p : ms.Perm ns) (r : ms.Pairwise (· ≤ ·)) : ms = srt ns := srt_is p r
theorem call_lenD : CallR X (.builtin "len") (rBi U X.K Z (bi .len)) := by
  intro pins s σ H vs us Q I r h
  obtain ⟨t, ds, d, hv, hg, q⟩ := h
  cases hv with
  | nil => cases hg
  | cons h1 hs =>
    cases hs with
    | cons _ _ => rename_i a _ _ _ _ _ _; cases a <;> cases hg
    | nil =>
      rename_i a
      cases a with
      | list xs =>
        obtain ⟨p, ys, rfl, k1, k2⟩ := h1.listH
        cases ok_inj hg
        exact call_len_seq pins s σ H _ us Q I r ⟨p, ys, rfl, .inl (SqL.of k1), by rw [k2.length]; exact q.int⟩
      | tuple xs =>
        obtain ⟨p, ys, rfl, k1, k2⟩ := h1.tupleH
        cases ok_inj hg
        exact call_len_seq pins s σ H _ us Q I r ⟨p, ys, rfl, .inr k1, by rw [k2.length]; exact q.int⟩
      | str z =>
        cases h1.str_inv
        obtain ⟨k1, hg⟩ := req_ok hg
        cases ok_inj hg
        exact call_len_str pins s σ H _ us Q I r ⟨z, rfl, lim_line (of_decide_eq_true k1), q.int⟩
      | dict kvs =>
        obtain ⟨xs, h0, hg⟩ := bind_ok_inv (show (ofO (scrOf kvs)).bind _ = .ok d from hg)
        cases scrOf_of (ofO_ok h0)
        obtain ⟨k1, hg⟩ := req_ok hg
        cases ok_inj hg
        obtain ⟨ns, hn⟩ := Option.isSome_iff_exists.mp k1
        obtain ⟨p, rfl, hs'⟩ := h1.scr_inv hn
        refine call_len_seq pins s σ H _ us Q I r ⟨p, _, rfl, .inl (ex_l (view_ex H Z) hs'), ?_⟩
        have e : xs.length = (ns.map V.int).length := by rw [intL_of hn, List.length_map, List.length_map]
        rw [← e]
        exact q.int
      | _ => cases hg
/-- one list of ints -/
theorem call_ints {f : Value} {r : List V → Hp → VK → Prop} (c : CallR X f r) {g : List Int → Res D}
    (hr : ∀ a ns H Q d, SqL X.K H a (ns.map V.int) → g ns = .ok d → Zt Z H → Wn U X.K Z H Q d → r [.ref a] H Q) :
    CallR X f (rBi U X.K Z fun ds => match ds with
      | [.list xs] => (ofO (intL xs)).bind g
      | _ => .bad) := by
  intro pins s σ H vs us Q I rv h
  obtain ⟨t, ds, d, hv, hg, q⟩ := h
  cases hv with
  | nil => cases hg
  | cons h1 hs =>
    cases hs with
    | cons _ _ => rename_i a _ _ _ _ _ _; cases a <;> cases hg
    | nil =>
      rename_i a
      cases a with
      | list xs =>
        obtain ⟨p, ys, rfl, k1, k2⟩ := h1.listH
        obtain ⟨ns, h0, hg⟩ := bind_ok_inv (show (ofO (intL xs)).bind _ = .ok d from hg)
        cases k2.intL (ofO_ok h0)
        exact c pins s σ H _ us Q I rv (hr p ns H Q d (SqL.of k1) hg t q)
      | _ => cases hg
theorem call_bools {f : Value} {r : List V → Hp → VK → Prop} (c : CallR X f r) {g : List Bool → Res D}
    (hr : ∀ a ns H Q d, SqL X.K H a (ns.map V.bl) → g ns = .ok d → Zt Z H → Wn U X.K Z H Q d → r [.ref a] H Q) :
    CallR X f (rBi U X.K Z fun ds => match ds with
      | [.list xs] => (ofO (bolL xs)).bind g
      | _ => .bad) := by
  intro pins s σ H vs us Q I rv h
  obtain ⟨t, ds, d, hv, hg, q⟩ := h
  cases hv with
  | nil => cases hg
  | cons h1 hs =>
    cases hs with
    | cons _ _ => rename_i a _ _ _ _ _ _; cases a <;> cases hg
    | nil =>
      rename_i a
      cases a with
      | list xs =>
        obtain ⟨p, ys, rfl, k1, k2⟩ := h1.listH
        obtain ⟨ns, h0, hg⟩ := bind_ok_inv (show (ofO (bolL xs)).bind _ = .ok d from hg)
        cases k2.bolL (ofO_ok h0)
        exact c pins s σ H _ us Q I rv (hr p ns H Q d (SqL.of k1) hg t q)
      | _ => cases hg
theorem callBy {f : Value} {g g' : List D → Res D} (c : CallR X f (rBi U X.K Z g)) (h : ∀ ds, g' ds = g ds) : CallR X f (rBi U X.K Z g') := by
  rw [show g' = g from funext h]
  exact c
theorem bi_one {g : D → Res D} {k : Bi} (h1 : ∀ x, Rwl.bi k [x] = g x) (h0 : Rwl.bi k [] = .bad) (h2 : ∀ x y r, Rwl.bi k (x :: y :: r) = .bad) : ∀ ds, Rwl.bi k ds = match ds with
    | [x] => g x
    | _ => .bad
  | [] => h0
  | [x] => h1 x
  | x :: y :: r => h2 x y r
def Bi.val : Bi → Value
  | .len => .builtin "len"
  | .abs => .builtin "abs"
  | .sum => .builtin "sum"
  | .max => .builtin "max"
  | .min => .builtin "min"
  | .max2 => .builtin "max"
  | .min2 => .builtin "min"
  | .sorted => .builtin "sorted"
  | .list => .type "list"
  | .int => .type "int"
  | .str => .type "str"
  | .all => .builtin "all"
  | .any => .builtin "any"
  | .tuple => .type "tuple"
theorem call_bi (hc : X.calm = true) (k : Bi) : CallR X k.val (rBi U X.K Z (bi k)) := by
  cases k with
  | len => exact call_lenD
  | abs =>
    intro pins s σ H vs us Q I r h
    obtain ⟨t, ds, d, hv, hg, q⟩ := h
    cases hv with
    | nil => cases hg
    | cons h1 hs =>
      rename_i a _ _
      cases hs with
      | cons _ _ => cases a <;> cases hg
      | nil =>
        cases a with
        | int i =>
          cases h1.int_inv
          cases ok_inj hg
          exact call_abs pins s σ H _ us Q I r ⟨i, rfl, q.int⟩
        | _ => cases hg
  | sum =>
    refine callBy (call_ints (cr_sum hc) (g := fun ns => .ok (.int ns.sum)) fun a ns H Q d hs hg t q => ?_) ?_
    · cases ok_inj hg
      exact ⟨a, ns, rfl, hs, q.int⟩
    · intro ds
      rcases ds with _ | ⟨a, _ | ⟨b, r⟩⟩ <;> (try cases a) <;> rfl
  | max =>
    refine callBy (call_ints (cr_max hc) (g := fun ns => match ns with
      | [] => .bad
      | n :: r => .ok (.int (r.foldl max n))) fun a ns H Q d hs hg t q => ?_) ?_
    · cases ns with
      | nil => cases hg
      | cons n r =>
        cases ok_inj hg
        refine ⟨a, n :: r, rfl, hs, by simp, fun m hm hle => ?_⟩
        obtain ⟨f1, f2⟩ := foldl_max r n
        rw [show m = r.foldl max n from Int.le_antisymm (f2 m hm) (hle _ f1)]
        exact q.int
    · intro ds
      rcases ds with _ | ⟨a, _ | ⟨b, r⟩⟩ <;> (try cases a) <;> rfl
  | min =>
    refine callBy (call_ints (cr_min hc) (g := fun ns => match ns with
      | [] => .bad
      | n :: r => .ok (.int (r.foldl min n))) fun a ns H Q d hs hg t q => ?_) ?_
    · cases ns with
      | nil => cases hg
      | cons n r =>
        cases ok_inj hg
        refine ⟨a, n :: r, rfl, hs, by simp, fun m hm hle => ?_⟩
        obtain ⟨f1, f2⟩ := foldl_min r n
        rw [show m = r.foldl min n from Int.le_antisymm (hle _ f1) (f2 m hm)]
        exact q.int
    · intro ds
      rcases ds with _ | ⟨a, _ | ⟨b, r⟩⟩ <;> (try cases a) <;> rfl
  | max2 =>
    intro pins s σ H vs us Q I r h
    obtain ⟨t, ds, d, hv, hg, q⟩ := h
    cases hv with
    | nil => cases hg
    | cons h1 hs =>
      rename_i a _ _
      cases hs with
      | nil => cases a <;> cases hg
      | cons h2 hs =>
        rename_i b _ _
        cases hs with
        | cons _ _ => cases a <;> cases b <;> cases hg
        | nil =>
          cases a with
          | int i =>
            cases b with
            | int j =>
              cases h1.int_inv; cases h2.int_inv
              cases ok_inj hg
              exact call_max2 hc pins s σ H _ us Q I r ⟨i, j, rfl, q.int⟩
            | _ => cases hg
          | _ => cases b <;> cases hg
  | min2 =>
    intro pins s σ H vs us Q I r h
    obtain ⟨t, ds, d, hv, hg, q⟩ := h
    cases hv with
    | nil => cases hg
    | cons h1 hs =>
      rename_i a _ _
      cases hs with
      | nil => cases a <;> cases hg
      | cons h2 hs =>
        rename_i b _ _
        cases hs with
        | cons _ _ => cases a <;> cases b <;> cases hg
        | nil =>
          cases a with
          | int i =>
            cases b with
            | int j =>
              cases h1.int_inv; cases h2.int_inv
              cases ok_inj hg
              exact call_min2 hc pins s σ H _ us Q I r ⟨i, j, rfl, q.int⟩
            | _ => cases hg
          | _ => cases b <;> cases hg
  | sorted =>
    refine callBy (call_ints cr_sortedI (g := fun ns => .ok (.list ((srt ns).map .int))) fun a ns H Q d hs hg t q => ?_) ?_
    · cases ok_inj hg
      refine ⟨a, ns, rfl, hs, fun ms p hp hr hn => ?_⟩
      cases sort_ints_is hp hr
      exact q _ _ (Ex.new hn) (Dat.newL t hn (DatL.of_ints _))
    · intro ds
      rcases ds with _ | ⟨a, _ | ⟨b, r⟩⟩ <;> (try cases a) <;> rfl
  | list =>
    intro pins s σ H vs us Q I r h
    obtain ⟨t, ds, d, hv, hg, q⟩ := h
    cases hv with
    | nil => cases hg
    | cons h1 hs =>
      rename_i a _ _
      cases hs with
      | cons _ _ => cases a <;> cases hg
      | nil =>
        cases a with
        | list xs =>
          obtain ⟨p, ys, rfl, k1, k2⟩ := h1.listH
          cases ok_inj hg
          exact call_list_of pins s σ H _ us Q I r ⟨p, ys, rfl, .inl (SqL.of k1), fun l hl => q _ _ (Ex.new hl) (Dat.newL t hl k2)⟩
        | tuple xs =>
          obtain ⟨p, ys, rfl, k1, k2⟩ := h1.tupleH
          cases ok_inj hg
          exact call_list_of pins s σ H _ us Q I r ⟨p, ys, rfl, .inr k1, fun l hl => q _ _ (Ex.new hl) (Dat.newL t hl k2)⟩
        | _ => cases hg
  | int =>
    intro pins s σ H vs us Q I r h
    obtain ⟨t, ds, d, hv, hg, q⟩ := h
    cases hv with
    | nil => cases hg
    | cons h1 hs =>
      rename_i a _ _
      cases hs with
      | cons _ _ => cases a <;> cases hg
      | nil =>
        cases a with
        | int i =>
          cases h1.int_inv
          cases ok_inj hg
          exact call_int1 pins s σ H _ us Q I r (.inl ⟨i, rfl, q.int⟩)
        | bool k =>
          cases h1.bool_inv
          cases ok_inj hg
          exact call_int1 pins s σ H _ us Q I r (.inr ⟨k, rfl, q.int⟩)
        | str x =>
          cases h1.str_inv
          obtain ⟨k1, hg⟩ := req_ok hg
          obtain ⟨n, h0, hg⟩ := bind_ok_inv hg
          cases ok_inj hg
          exact call_int_str pins s σ H _ us Q I r ⟨x, n, rfl, ofO_ok h0, of_decide_eq_true k1, q.int⟩
        | _ => cases hg
  | str =>
    intro pins s σ H vs us Q I r h
    obtain ⟨t, ds, d, hv, hg, q⟩ := h
    cases hv with
    | nil => cases hg
    | cons h1 hs =>
      rename_i a _ _
      cases hs with
      | cons _ _ => cases a <;> cases hg
      | nil =>
        cases a with
        | int i =>
          cases h1.int_inv
          obtain ⟨k1, hg⟩ := req_ok hg
          cases ok_inj hg
          refine call_str_int pins s σ H _ us Q I r ⟨i, rfl, ?_, q.str⟩
          have k2 := of_decide_eq_true k1
          by_cases hz : i.natAbs = 0
          · rw [hz]; decide
          · exact Nat.lt_trans ((Nat.log2_lt hz).mpr k2) (by decide)
        | _ => cases hg
  | all =>
    refine callBy (call_bools (cr_all hc) (g := fun bs => .ok (.bool (bs.all id))) fun a ns H Q d hs hg t q => ?_) ?_
    · cases ok_inj hg
      exact ⟨a, ns, rfl, hs, q.bl⟩
    · intro ds
      rcases ds with _ | ⟨a, _ | ⟨b, r⟩⟩ <;> (try cases a) <;> rfl
  | any =>
    refine callBy (call_bools (cr_any hc) (g := fun bs => .ok (.bool (bs.any id))) fun a ns H Q d hs hg t q => ?_) ?_
    · cases ok_inj hg
      exact ⟨a, ns, rfl, hs, q.bl⟩
    · intro ds
      rcases ds with _ | ⟨a, _ | ⟨b, r⟩⟩ <;> (try cases a) <;> rfl
  | tuple =>
    intro pins s σ H vs us Q I r h
    obtain ⟨t, ds, d, hv, hg, q⟩ := h
    cases hv with
    | nil => cases hg
    | cons h1 hs =>
      rename_i a _ _
      cases hs with
      | cons _ _ => cases a <;> cases hg
      | nil =>
        cases a with
        | list xs =>
          obtain ⟨p, ys, rfl, k1, k2⟩ := h1.listH
          cases ok_inj hg
          exact call_tuple_of pins s σ H _ us Q I r ⟨p, ys, rfl, .inl ⟨SqL.of k1, fun l hl => q _ _ (Ex.new hl) (Dat.newT t hl k2)⟩⟩
        | _ => cases hg

/-! ### methods -/
def rMt (U : Ux) (K : PySem.W.Frag) (Z : List Addr) (g : D → List D → Res D) : V → List V → Hp → VK → Prop := fun x vs H Q => ∃ a ds d, Dat U K (view H Z) x a ∧ DatL U K (view H Z) vs ds ∧ g a ds = .ok d ∧ Wn U K Z H Q d
def Mt.id : Mt → String
  | .index => "list.index"
  | .count => "list.count"
theorem mt_D (hu : X.A.units + 64 < cLine) (m : Mt) : MtR X m.id (rMt U X.K Z (mt m)) := by
  intro pins s σ H x vs v us Q I rx rv h
  obtain ⟨a, ds, d, hx, hv, hg, q⟩ := h
  cases m with
  | index =>
    cases a with
    | list xs =>
      cases hv with
      | nil => cases hg
      | cons h1 hs =>
        rename_i b _ _
        cases hs with
        | cons _ _ => cases hg
        | nil =>
          obtain ⟨k1, hg⟩ := req_ok (show req _ _ = .ok d from hg)
          obtain ⟨j, k2, hg⟩ := bind_ok_inv hg
          cases ok_inj hg
          rw [Bool.and_eq_true] at k1
          obtain ⟨u, rfl, ru⟩ := rv.one
          obtain ⟨bs, r1⟩ := Dat.reads I k1.1 h1 ru
          have d1 := dep_plain k1.1
          have d2 := dep_all (fun d _ => dep_plain (n := 8)) k1.2
          have p9 : dep 9 (.list xs) = true := by simpa [dep] using k1.2
          obtain ⟨as, r2⟩ := Dat.reads I p9 hx rx
          obtain ⟨p, ys, rfl, l1, l2⟩ := hx.listH
          cases rx
          obtain ⟨its, rv', ⟨⟨cls, dd, data, sls⟩, n, ho, hc, hdn, hdt⟩, hlen⟩ := I.list (SqL.of l1)
          simp only at hc hdt
          subst hc hdt
          cases r2 with
          | @list _ o2 vs2 n2 _ as2 g1 g2 g3 g4 =>
            rw [ho] at g1
            cases g1
            simp only at g3
            have ev : its.toArray = vs2 := by
              injection g3
            subst ev
            have hn : its.length = xs.length := SeqAt.ReadsAll.length xs its as2 g4
            have hmap : its.map (SeqAt.readOf s.heap) = xs := SeqAt.readsAll_map_plain xs its as2 d2.1 g4
            obtain ⟨hjd, hj1, hj2⟩ := List.findIdx?_eq_some_iff_getElem.mp (ofO_ok k2)
            have hsl := sizeLine_eq
            have hvl := rv'.length
            have hjl : j < its.length := by omega
            have hj : j < its.toArray.size := by simpa using hjl
            have at_ : ∀ (m : Nat) (hm : m < its.toArray.size) (hm' : m < xs.length), SeqAt.readOf s.heap its.toArray[m] = xs[m] := by
              intro m hm hm'
              have hml : m < its.length := by simpa using hm
              have e : (its.map (SeqAt.readOf s.heap))[m]'(by rw [List.length_map]; exact hml) = xs[m] := by simp only [hmap]
              simpa using e
            refine call_meets PySem.F.slot_list_index ⟨_, ho, rfl⟩ PySem.F.entry_list_index (PySem.F.args_list_index_2 _ _)
              (SeqAt.list_indexAt p its.toArray n dd sls u (fun w => PyData.eqv (SeqAt.readOf s.heap w) b) j hj (by omega) ?_ ?_) ⟨ho, SeqAt.items_plain (vs := its.toArray) (show ReadsAll s.heap its.toArray.toList xs as2 from g4) r1 d2.1 d1.1 (by have := d1.2; show X.A.units + 1 + _ < cLine; omega), ?_⟩
            · show PyData.eqv (SeqAt.readOf s.heap its.toArray[j]) b = true
              rw [at_ j hj hjd]
              exact hj1
            · intro m hm hmj
              have hmd : m < xs.length := by omega
              show PyData.eqv (SeqAt.readOf s.heap its.toArray[m]) b = false
              rw [at_ m hm hmd]
              have := hj2 m hmj
              simpa using this
            · exact ⟨.int (j : Nat), H, I.tok _, ⟨_, rfl⟩, q.int⟩
    | _ => cases hg
  | count =>
    cases a with
    | list xs =>
      cases hv with
      | nil => cases hg
      | cons h1 hs =>
        rename_i b _ _
        cases hs with
        | cons _ _ => cases hg
        | nil =>
          obtain ⟨k1, hg⟩ := req_ok (show req _ _ = .ok d from hg)
          cases ok_inj hg
          rw [Bool.and_eq_true] at k1
          obtain ⟨u, rfl, ru⟩ := rv.one
          obtain ⟨bs, r1⟩ := Dat.reads I k1.1 h1 ru
          have d1 := dep_plain k1.1
          have d2 := dep_all (fun d _ => dep_plain (n := 8)) k1.2
          have p9 : dep 9 (.list xs) = true := by simpa [dep] using k1.2
          obtain ⟨as, r2⟩ := Dat.reads I p9 hx rx
          obtain ⟨p, ys, rfl, l1, l2⟩ := hx.listH
          cases rx
          cases r2 with
          | @list _ o2 vs2 n2 _ as2 g1 g2 g3 g4 =>
            exact SeqAt.count_list_data (vs := vs2) ⟨_, g1, g2, _, g3⟩ g4 r1 d2.1 d1.1 (by have := d1.2; omega) ⟨.int _, H, I.tok _, ⟨_, rfl⟩, q.int⟩
    | _ => cases hg
/-! ### methods of texts -/
def rMs (U : Ux) (K : PySem.W.Frag) (Z : List Addr) (g : Str → List D → Res D) : V → List V → Hp → VK → Prop := fun x vs H Q => Zt Z H ∧ ∃ a ds d, x = .str a ∧ DatL U K (view H Z) vs ds ∧ g a ds = .ok d ∧ Wn U K Z H Q d
def Ms.id : Ms → String
  | .split => "str.split"
  | .join => "str.join"
theorem ms_D (m : Ms) : MtR X m.id (rMs U X.K Z (msD m)) := by
  intro pins s σ H x vs v us Q I rx rv h
  obtain ⟨t, a, ds, d, rfl, hv, hg, q⟩ := h
  cases m with
  | split =>
    cases hv with
    | nil => cases hg
    | cons h1 hs =>
      rename_i d1 _ _
      cases hs with
      | cons _ _ => cases d1 <;> cases hg
      | nil =>
        cases d1 with
        | str y =>
          cases h1.str_inv
          obtain ⟨k1, hg⟩ := req_ok hg
          cases ok_inj hg
          rw [Bool.and_eq_true] at k1
          have k2 : (y.length == 0) = false := by simpa using k1.2
          have k3 : a.length ≤ 100000 := of_decide_eq_true k1.1
          exact mt_split pins s σ H _ _ v us Q I rx rv ⟨a, y, rfl, rfl, k2, by unfold sizeLine; omega, fun p hp => q _ _ (Ex.new hp) (Dat.newL t hp (DatL.of_strs _))⟩
        | _ => cases hg
  | join =>
    cases hv with
    | nil => cases hg
    | cons h1 hs =>
      rename_i d1 _ _
      cases hs with
      | cons _ _ => cases d1 <;> cases hg
      | nil =>
        cases d1 with
        | list xs =>
          obtain ⟨ys, h0, hg⟩ := bind_ok_inv (show (ofO (strL xs)).bind _ = .ok d from hg)
          obtain ⟨k1, hg⟩ := req_ok hg
          cases ok_inj hg
          obtain ⟨p, vs, rfl, l1, l2⟩ := h1.listH
          have e := l2.strL (ofO_ok h0)
          subst e
          exact mt_join pins s σ H _ _ v us Q I rx rv ⟨a, p, ys, rfl, rfl, .inl (SqL.of l1), of_decide_eq_true k1, q.str⟩
        | _ => cases hg
end
end Rwl

set_option Elab.async false
set_option linter.all false
set_option maxRecDepth 100000
set_option maxHeartbeats 1000000
/-! Rwl, part E: what readings come to; one rule for each construct of an expression. -/
namespace Rwl
open PySem PySem.Spec PyProof.Rows L2 Evl

/-! ### what lets nothing out -/
def Nox {α : Type} (r : Res α) : Prop := ∀ c, r ≠ .exc c
section
variable {α β : Type}
theorem Nox.ok (a : α) : Nox (.ok a) := fun _ h => nomatch h
theorem Nox.bad : Nox (.bad : Res α) := fun _ h => nomatch h
theorem Nox.req {b : Bool} {r : Res α} (h : Nox r) : Nox (req b r) := by
  cases b with
  | true => exact h
  | false => exact .bad
theorem Nox.ofO {o : Option α} : Nox (Rwl.ofO o) := by
  cases o with
  | none => exact .bad
  | some a => exact .ok a
theorem Nox.bind {r : Res α} {f : α → Res β} (h : Nox r) (hf : ∀ a, Nox (f a)) : Nox (r.bind f) := by
  cases r with
  | ok a => exact hf a
  | exc c => exact absurd rfl (h c)
  | bad => exact .bad
end
theorem nox_tru (d : D) : Nox (tru d) := by
  cases d <;> first | exact .ok _ | exact .bad | exact .req (.ok _) | exact .bind .ofO fun _ => .req (.ok _)
theorem nox_bin (o : O2) (a b : D) : Nox (o.run a b) := by
  cases o <;> cases a <;> cases b <;> first | exact .ok _ | exact .bad | exact .req (.ok _)
theorem nox_eq (a b : D) : Nox (eqD a b) := .req (.ok _)
theorem nox_in (a b : D) : Nox (inD a b) := by
  unfold inD
  split <;> first | exact .bad | exact .req (.ok _) | skip
  split <;> first | exact .bad | skip
  split <;> first | exact .bad | exact .ok _
theorem nox_cm (o : Cm) (a b : D) : Nox (o.run a b) := by
  cases o with
  | eq => exact nox_eq a b
  | ne => exact .bind (nox_eq a b) fun _ => .ok _
  | inn => exact nox_in a b
  | nin => exact .bind (nox_in a b) fun _ => .ok _
  | isn => exact .req (.ok _)
  | ntn => exact .req (.ok _)
  | lt => cases a <;> cases b <;> first | exact .ok _ | exact .bad | exact .bind .ofO fun _ => .bind .ofO fun _ => .ok _
  | _ => cases a <;> cases b <;> first | exact .ok _ | exact .bad
theorem nox_neg (a : D) : Nox (negD a) := by cases a <;> first | exact .ok _ | exact .bad
theorem nox_ix (a b : D) : Nox (ixD a b) := by
  cases a <;> cases b <;> first | exact .bad | exact .ofO | exact .req (.bind .ofO fun _ => .ok _) | exact .bind .ofO fun _ => .req .ofO
theorem nox_sl (l h : Option Int) (a : D) : Nox (slD l h a) := by cases a <;> first | exact .ok _ | exact .bad | exact .req (.ok _)
theorem nox_rev (a : D) : Nox (revD a) := by cases a <;> first | exact .ok _ | exact .bad
theorem nox_int (a : D) : Nox (asInt a) := by cases a <;> first | exact .ok _ | exact .bad
theorem nox_bi (k : Bi) (ds : List D) : Nox (bi k ds) := by
  unfold bi
  split <;> first
    | exact .ok _
    | exact .bad
    | exact .req (.ok _)
    | exact .bind .ofO fun _ => .ok _
    | exact .bind .ofO fun _ => .req (.ok _)
    | exact .req (.bind .ofO fun _ => .ok _)
    | (refine .bind .ofO fun ns => ?_; cases ns <;> first | exact .bad | exact .ok _)
theorem nox_isi (a : D) (t : Ty) : Nox (isiD a t) := by
  cases t <;> cases a <;> first | exact .ok _ | exact .bad | exact .bind .ofO fun _ => .ok _
theorem nox_mt (m : Mt) (a : D) (ds : List D) : Nox (mt m a ds) := by
  unfold mt
  split <;> first
    | exact .bad
    | exact .req (.bind .ofO fun _ => .ok _)
    | exact .req (.ok _)

/-! ### what a reading comes to -/
abbrev TX (β : Type) := L2.St → Hp → (β → Hp → Prop) → Prop
section
variable {α β α' β' : Type}
def FinG (U : Ux) (W : WX) (σ : L2.St) (R : β → α → Hp → Prop) (H : Hp) (Q : β → Hp → Prop) : Res α → Prop
  | .ok a => ∀ b H', Ex H H' → R b a H' → Q b H'
  | .exc c => ∃ C, U.ec c = some C ∧ ∀ H', Ex H H' → W (.ref C) none σ H'
  | .bad => False
theorem FinG.mono {U : Ux} {W : WX} {σ : L2.St} {R : β → α → Hp → Prop} {H H' : Hp} {Q : β → Hp → Prop} {r : Res α} (e : Ex H H') (h : FinG U W σ R H Q r) : FinG U W σ R H' Q r := by
  cases r with
  | ok a => exact fun b H2 e2 => h b H2 (e.trans e2)
  | exc c => obtain ⟨C, h1, h2⟩ := h; exact ⟨C, h1, fun H2 e2 => h2 H2 (e.trans e2)⟩
  | bad => exact h
def Yl (U : Ux) (W : WX) (R : β → α → Hp → Prop) (t : TX β) (σ : L2.St) (H : Hp) (r : Res α) : Prop := ∀ H1, Ex H H1 → ∀ Q, FinG U W σ R H1 Q r → t σ H1 Q
variable {U : Ux} {W : WX} {R : β → α → Hp → Prop} {R' : β' → α' → Hp → Prop} {t t' : TX β} {σ : L2.St} {H H' : Hp} {r : Res α}
theorem Yl.mono (e : Ex H H') (h : Yl U W R t σ H r) : Yl U W R t σ H' r := fun H1 e1 => h H1 (e.trans e1)
theorem Yl.imp (f : ∀ H1 Q, Ex H H1 → t σ H1 Q → t' σ H1 Q) (h : Yl U W R t σ H r) : Yl U W R t' σ H r := fun H1 e1 Q q => f H1 Q e1 (h H1 e1 Q q)
theorem Yl.bind {tb : β → TX β'} {f : α → Res α'} (h1 : Yl U W R t σ H r) (h2 : ∀ a b H1, r = .ok a → Ex H H1 → R b a H1 → Yl U W R' (tb b) σ H1 (f a)) : Yl U W R' (fun σ H Q => t σ H fun b H1 => tb b σ H1 Q) σ H (r.bind f) := by
  intro H1 e1 Q q
  cases r with
  | ok a => exact h1 H1 e1 _ fun b H2 e2 rb => h2 a b H2 rfl (e1.trans e2) rb H2 (Ex.refl H2) Q (FinG.mono e2 q)
  | exc c => exact h1 H1 e1 _ q
  | bad => exact (show False from q).elim
theorem Yl.bad : Yl U W R t σ H .bad := fun _ _ _ q => (show False from q).elim
theorem Yl.ret {a : α} {b : β} (h : ∀ H1, Ex H H1 → R b a H1) : Yl U W R (fun _ H Q => Q b H) σ H (.ok a) := fun H1 e Q q => q b H1 (Ex.refl H1) (h H1 e)
/-- by a rule on values: nothing leaves -/
theorem Yl.val (n : Nox r) (h : ∀ a H1 Q, r = .ok a → Ex H H1 → (∀ b H', Ex H1 H' → R b a H' → Q b H') → t σ H1 Q) : Yl U W R t σ H r := by
  intro H1 e Q q
  cases r with
  | ok a => exact h a H1 Q rfl e q
  | exc c => exact absurd rfl (n c)
  | bad => exact (show False from q).elim
/-- another relation -/
theorem Yl.rel {R2 : β → α → Hp → Prop} (h : Yl U W R t σ H r) (f : ∀ b a H1, Ex H H1 → R b a H1 → R2 b a H1) : Yl U W R2 t σ H r := by
  intro H1 e Q q
  refine h H1 e Q ?_
  cases r with
  | ok a => exact fun b H2 e2 rb => q b H2 e2 (f b a H2 (e.trans e2) rb)
  | exc c => exact q
  | bad => exact q
/-- two in a row, then an operation on values -/
theorem Yl.two {α1 α2 β1 β2 : Type} {t1 : TX β1} {t2 : TX β2} {R1 : β1 → α1 → Hp → Prop} {R2 : β2 → α2 → Hp → Prop} {r1 : Res α1} {r2 : Res α2} {tt : β1 → β2 → Hp → (β → Hp → Prop) → Prop} {f : α1 → α2 → Res α}
    (m : ∀ b a H H', Ex H H' → R1 b a H → R1 b a H') (h1 : Yl U W R1 t1 σ H r1) (h2 : Yl U W R2 t2 σ H r2) (h : ∀ x y u w H1, Ex H H1 → R1 u x H1 → R2 w y H1 → Yl U W R (fun _ H Q => tt u w H Q) σ H1 (f x y)) :
    Yl U W R (fun σ H Q => t1 σ H fun u H1 => t2 σ H1 fun w H2 => tt u w H2 Q) σ H (r1.bind fun x => r2.bind fun y => f x y) :=
  Yl.bind (tb := fun u σ H Q => t2 σ H fun w H2 => tt u w H2 Q) h1 fun x u H1 _ e1 d1 =>
    Yl.bind (tb := fun w _ H Q => tt u w H Q) (h2.mono e1) fun y w H2 _ e2 d2 => h x y u w H2 (e1.trans e2) (m _ _ _ _ e2 d1) d2
theorem Yl.one {α1 β1 : Type} {t1 : TX β1} {R1 : β1 → α1 → Hp → Prop} {r1 : Res α1} {tt : β1 → Hp → (β → Hp → Prop) → Prop} {f : α1 → Res α}
    (h1 : Yl U W R1 t1 σ H r1) (h : ∀ x u H1, Ex H H1 → R1 u x H1 → Yl U W R (fun _ H Q => tt u H Q) σ H1 (f x)) :
    Yl U W R (fun σ H Q => t1 σ H fun u H1 => tt u H1 Q) σ H (r1.bind f) :=
  Yl.bind (tb := fun u _ H Q => tt u H Q) h1 fun x u H1 _ e1 d1 => h x u H1 e1 d1
end
abbrev RE (U : Ux) (K : PySem.W.Frag) (Z : List Addr) : V → D → Hp → Prop := fun v d H => Dat U K (view H Z) v d
abbrev RC (U : Ux) (K : PySem.W.Frag) (Z : List Addr) : V → D → Hp → Prop := fun v d H => Con U K Z H v d
abbrev RL (U : Ux) (K : PySem.W.Frag) (Z : List Addr) : List V → List D → Hp → Prop := fun v d H => DatL U K (view H Z) v d
abbrev RQ {α : Type} : α → α → Hp → Prop := fun b a _ => b = a

theorem re_mono {U : Ux} {K : PySem.W.Frag} {Z : List Addr} (v : V) (d : D) (H H' : Hp) (e : Ex H H') (h : RE U K Z v d H) : RE U K Z v d H' := h.mono (ex_view e Z)
theorem rc_mono {U : Ux} {K : PySem.W.Frag} {Z : List Addr} (v : V) (d : D) (H H' : Hp) (e : Ex H H') (h : RC U K Z v d H) : RC U K Z v d H' := Con.mono e h

/-! ### the weakest readings -/
def Ew (X : Cx) (e : Expr) : TE := fun σ H Q => ∀ pins s, L2.Inv X pins σ H s → wpAny (model X.prog X.w) X.A (eval e X.env) (EP X pins σ Q) X.xe s
def Tw (X : Cx) (e : Expr) : TT := fun σ H Q => ∀ pins s, L2.Inv X pins σ H s → wpAny (model X.prog X.w) X.A (isTrue e X.env (eval e X.env)) (TP X pins σ Q) X.xe s
def Aw (X : Cx) (es : List Expr) : TA := fun σ H Q => ∀ pos pins s, L2.Inv X pins σ H s → wpAny (model X.prog X.w) X.A (spliced (backTo pos (starEach es X.env))) (AP X pins σ Q) X.xe s
def Ow (X : Cx) (e : Option Expr) : TO := fun σ H Q => ∀ pins s, L2.Inv X pins σ H s → wpAny (model X.prog X.w) X.A (evalPart e X.env) (fun u s' => ∃ o H', L2.Inv X pins σ H' s' ∧ IsPart u o ∧ Q o H') X.xe s
def Iw (X : Cx) (tg iter : Expr) : TI := fun σ H R => ∀ pins s, L2.Inv X pins σ H s → wpAny (model X.prog X.w) X.A (eval iter X.env) (fun v s1 => wpAny (model X.prog X.w) X.A (pyIter v) (PIE X pins σ tg R) X.xe s1) X.xe s
section
variable {X : Cx} {e : Expr} {σ : L2.St} {H : Hp}
theorem ew : PE X e (Ew X e) := ⟨fun pins s _ _ _ I h => h pins s I⟩
theorem tw : PT X e (Tw X e) := ⟨fun pins s _ _ _ I h => h pins s I⟩
theorem aw {es : List Expr} : PA X es (Aw X es) := ⟨fun pos pins s _ _ _ I h => h pos pins s I⟩
theorem ow {o : Option Expr} : PO X o (Ow X o) := ⟨fun pins s _ _ _ I h => h pins s I⟩
theorem iw {tg it : Expr} : PI X tg it (Iw X tg it) := ⟨fun pins s _ _ _ I h => h pins s I⟩
theorem ew_of {t : TE} {Q : VK} (p : PE X e t) (h : t σ H Q) : Ew X e σ H Q := fun pins s I => p.run pins s σ H Q I h
theorem tw_of {t : TT} {Q : Bool → Hp → Prop} (p : PT X e t) (h : t σ H Q) : Tw X e σ H Q := fun pins s I => p.run pins s σ H Q I h
theorem aw_of {es : List Expr} {t : TA} {Q : List V → Hp → Prop} (p : PA X es t) (h : t σ H Q) : Aw X es σ H Q := fun pos pins s I => p.run pos pins s σ H Q I h
theorem ow_of {o : Option Expr} {t : TO} {Q : Option Int → Hp → Prop} (p : PO X o t) (h : t σ H Q) : Ow X o σ H Q := fun pins s I => p.run pins s σ H Q I h
theorem iw_of {tg it : Expr} {t : TI} {Q : It → Hp → Prop} (p : PI X tg it t) (h : t σ H Q) : Iw X tg it σ H Q := fun pins s I => p.run pins s σ H Q I h
end

/-! ### the rules -/
section
variable {U : Ux} {W : WX} {X : Cx} {Y Z : List Addr} {σ : L2.St} {H : Hp} {a b c d : Expr} {pos : Pos} {ra rb rc rd : Res D}
theorem y_c {v : V} {x : D} (p : PE X a (tC v)) (h : ∀ H1, Dat U X.K H1 v x) : Yl U W (RE U X.K Z) (Ew X a) σ H (.ok x) :=
  Yl.imp (fun _ _ _ q => ew_of p q) (Yl.ret (R := RE U X.K Z) fun H1 _ => h _)
theorem y_var {i : Nat} {x : D} {env : Env} (p : PE X a (tVar i)) (h : EnvOk U X.K Y Z H σ env) (hi : env.get i = .dat x) : Yl U W (RE U X.K Z) (Ew X a) σ H (.ok x) := by
  refine Yl.imp (fun _ _ _ q => ew_of p q) (t := tVar i) fun H1 e Q q => ?_
  have r := (h.mono e).get i
  rw [hi] at r
  obtain ⟨v, h1, h2⟩ := r
  exact ⟨v, h1, q v H1 (Ex.refl H1) h2⟩
theorem y_own {i : Nat} {xs : List D} {env : Env} (p : PE X a (tVar i)) (h : EnvOk U X.K Y Z H σ env) (hi : env.get i = .own xs) : Yl U W (RC U X.K Z) (Ew X a) σ H (.ok (.list xs)) := by
  refine Yl.imp (fun _ _ _ q => ew_of p q) (t := tVar i) fun H1 e Q q => ?_
  have r := (h.mono e).get i
  rw [hi] at r
  obtain ⟨p, vs, h1, h2, h3, h4⟩ := r
  exact ⟨_, h1, q _ H1 (Ex.refl H1) (.inr ⟨xs, p, vs, rfl, rfl, h3, h4⟩)⟩
theorem y_con (h : Yl U W (RE U X.K Z) (Ew X a) σ H ra) : Yl U W (RC U X.K Z) (Ew X a) σ H ra := h.rel fun _ _ _ _ r => .inl r
theorem y_bin (o : O2) (t : Zt Z H) (ha : Yl U W (RE U X.K Z) (Ew X a) σ H ra) (hb : Yl U W (RE U X.K Z) (Ew X b) σ H rb) : Yl U W (RE U X.K Z) (Ew X (.BinOp a o.op b pos)) σ H (ra.bind fun x => rb.bind fun y => o.run x y) := by
  refine Yl.imp (fun _ _ _ q => ew_of (pe_op (op_bin (U := U) (Z := Z) o) ew ew) q) ?_
  refine Yl.two (t1 := Ew X a) (t2 := Ew X b) (tt := r2D U X.K Z o.run) re_mono ha hb fun x y u w H1 e1 dx dy => Yl.val (nox_bin o x y) fun z H3 Q hr e3 q => ?_
  exact ⟨(t.mono e1).mono e3, x, y, z, dx.mono (ex_view e3 Z), dy.mono (ex_view e3 Z), hr, q⟩
theorem y_neg (ha : Yl U W (RE U X.K Z) (Ew X a) σ H ra) : Yl U W (RE U X.K Z) (Ew X (.UnaryOp .USub a pos)) σ H (ra.bind negD) := by
  refine Yl.imp (fun _ _ _ q => ew_of (pe_un (un_negD (U := U) (Z := Z)) ew) q) ?_
  exact Yl.one (t1 := Ew X a) (tt := fun x H Q => ∃ a d, Dat U X.K (view H Z) x a ∧ negD a = .ok d ∧ Wn U X.K Z H Q d) ha fun x u H1 e1 dx => Yl.val (nox_neg x) fun z H3 Q hr e3 q => ⟨x, z, dx.mono (ex_view e3 Z), hr, q⟩
theorem y_not (ha : Yl U W (RE U X.K Z) (Ew X a) σ H ra) : Yl U W (RE U X.K Z) (Ew X (.UnaryOp .Not a pos)) σ H (ra.bind fun x => (tru x).bind fun k => .ok (.bool !k)) := by
  refine Yl.imp (fun _ _ _ q => ew_of (pe_notT ew) q) ?_
  refine Yl.one (t1 := Ew X a) (tt := fun x H1 Q => ∃ k, TruV X.K x H1 k ∧ Q (V.bl !k) H1) ha fun x u H1 e1 dx => Yl.val (.bind (nox_tru x) fun _ => .ok _) fun z H3 Q hr e3 q => ?_
  obtain ⟨k, h1, h2⟩ := bind_ok_inv hr
  cases ok_inj h2
  exact ⟨k, Con.truV (Z := Z) (.inl (dx.mono (ex_view e3 Z))) h1, q _ _ (Ex.refl _) (.bl _)⟩
theorem y_cmp (hu : X.A.units + 64 < cLine) (o : Cm) (hm : behindInMarks o.op b = false) (ha : Yl U W (RE U X.K Z) (Ew X a) σ H ra) (hb : Yl U W (RE U X.K Z) (Ew X b) σ H rb) :
    Yl U W (RE U X.K Z) (Ew X (.Compare a [o.op] [b] pos)) σ H (ra.bind fun x => rb.bind fun y => (o.run x y).bind fun k => .ok (.bool k)) := by
  refine Yl.imp (fun _ _ _ q => ew_of (pe_cmpR (op_cm (U := U) (Z := Z) hu o) ew ew hm) q) ?_
  refine Yl.two (t1 := Ew X a) (t2 := Ew X b) (tt := r2B U X.K Z o.run) re_mono ha hb fun x y u w H1 e1 dx dy => Yl.val (.bind (nox_cm o x y) fun _ => .ok _) fun z H3 Q hr e3 q => ?_
  obtain ⟨k, h1, h2⟩ := bind_ok_inv hr
  cases ok_inj h2
  exact ⟨x, y, k, dx.mono (ex_view e3 Z), dy.mono (ex_view e3 Z), h1, q _ _ (Ex.refl _) (.bl _)⟩
theorem y_cmpT (hu : X.A.units + 64 < cLine) (o : Cm) (hm : behindInMarks o.op b = false) (ha : Yl U W (RE U X.K Z) (Ew X a) σ H ra) (hb : Yl U W (RE U X.K Z) (Ew X b) σ H rb) :
    Yl U W RQ (Tw X (.Compare a [o.op] [b] pos)) σ H (ra.bind fun x => rb.bind fun y => o.run x y) := by
  refine Yl.imp (fun _ _ _ q => tw_of (pt_cmpR (op_cm (U := U) (Z := Z) hu o) ew ew hm) q) ?_
  refine Yl.two (t1 := Ew X a) (t2 := Ew X b) (tt := fun u w H Q => r2B U X.K Z o.run u w H fun z H3 => ∃ k, z = .bl k ∧ Q k H3) re_mono ha hb fun x y u w H1 e1 dx dy => Yl.val (nox_cm o x y) fun k H3 Q hr e3 q => ?_
  exact ⟨x, y, k, dx.mono (ex_view e3 Z), dy.mono (ex_view e3 Z), hr, k, rfl, q _ _ (Ex.refl _) rfl⟩
/-- an operation that gives a truth, then what follows -/
theorem y_test {α : Type} {β : Type} {R : β → α → Hp → Prop} {o : Cm} {x y : D} {u w : V} (hu : X.A.units + 64 < cLine) {tb : Bool → TX β} {f : Bool → Res α} (dx : Dat U X.K (view H Z) u x) (dy : Dat U X.K (view H Z) w y)
    (h : ∀ k, o.run x y = .ok k → Yl U W R (tb k) σ H (f k)) : Yl U W R (fun σ H Q => r2B U X.K Z o.run u w H fun z H3 => ∃ k, z = .bl k ∧ tb k σ H3 Q) σ H ((o.run x y).bind f) := by
  intro H1 e1 Q q
  cases hr : o.run x y with
  | ok k =>
    rw [hr] at q
    exact ⟨x, y, k, dx.mono (ex_view e1 Z), dy.mono (ex_view e1 Z), hr, k, rfl, h k hr H1 e1 Q q⟩
  | exc c => exact absurd hr (nox_cm o x y c)
  | bad => rw [hr] at q; exact (show False from q).elim
theorem y_vals {α : Type} {o : Cm} {x y : D} {u w : V} (dx : Dat U X.K (view H Z) u x) (dy : Dat U X.K (view H Z) w y) : Yl U W (RE U X.K Z) (fun _ H Q => r2B U X.K Z o.run u w H Q) σ H ((o.run x y).bind fun k => .ok (.bool k)) :=
  Yl.val (.bind (nox_cm o x y) fun _ => .ok _) fun z H3 Q hr e3 q => by
    obtain ⟨k, h1, h2⟩ := bind_ok_inv hr
    cases ok_inj h2
    exact ⟨x, y, k, dx.mono (ex_view e3 Z), dy.mono (ex_view e3 Z), h1, q _ _ (Ex.refl _) (.bl _)⟩
/-- a op b op c -/
theorem y_ch2 (hu : X.A.units + 64 < cLine) (o p : Cm) (hm : lastMarks [o.op, p.op] [b, c] = false) (ha : Yl U W (RE U X.K Z) (Ew X a) σ H ra) (hb : Yl U W (RE U X.K Z) (Ew X b) σ H rb) (hc : Yl U W (RE U X.K Z) (Ew X c) σ H rc) :
    Yl U W (RE U X.K Z) (Ew X (.Compare a [o.op, p.op] [b, c] pos)) σ H (ra.bind fun x => rb.bind fun y => (o.run x y).bind fun k => match k with
      | false => .ok (.bool false)
      | true => rc.bind fun z => (p.run y z).bind fun k => .ok (.bool k)) := by
  refine Yl.imp (fun _ _ _ q => ew_of (pe_chain (op_cm (U := U) (Z := Z) hu o) (op_cm (U := U) (Z := Z) hu p) ew ew ew hm) q) ?_
  refine Yl.bind (t := Ew X a) (tb := fun u σ H Q => Ew X b σ H fun w H2 => r2B U X.K Z o.run u w H2 fun z H3 => ∃ k, z = .bl k ∧ (if k = true then Ew X c σ H3 fun w' H4 => r2B U X.K Z p.run w w' H4 Q else Q (.bl false) H3)) ha fun x u H1 _ e1 dx => ?_
  refine Yl.bind (t := Ew X b) (tb := fun w σ H2 Q => r2B U X.K Z o.run u w H2 fun z H3 => ∃ k, z = .bl k ∧ (if k = true then Ew X c σ H3 fun w' H4 => r2B U X.K Z p.run w w' H4 Q else Q (.bl false) H3)) (hb.mono e1) fun y w H2 _ e2 dy => ?_
  refine y_test (tb := fun k σ H3 Q => if k = true then Ew X c σ H3 fun w' H4 => r2B U X.K Z p.run w w' H4 Q else Q (.bl false) H3) hu (dx.mono (ex_view e2 Z)) dy fun k _ => ?_
  cases k with
  | false => exact Yl.ret (R := RE U X.K Z) fun H1 _ => .bl _
  | true => exact Yl.bind (t := Ew X c) (tb := fun w' _ H4 Q => r2B U X.K Z p.run w w' H4 Q) ((hc.mono e1).mono e2) fun z w' H4 _ e4 dz => y_vals (α := D) (dy.mono (ex_view e4 Z)) dz
end
end Rwl

set_option Elab.async false
set_option linter.all false
set_option maxRecDepth 100000
set_option maxHeartbeats 1000000
/-! Rwl, part F: more rules of expressions: arguments, displays, tests, and, or, subscripts, calls. -/
namespace Rwl
open PySem PySem.Spec PyProof.Rows L2 Evl

theorem view_sub (H : Hp) (p : Addr) (Z : List Addr) : Ex (view H (p :: Z)) (view H Z) := fun a o h => by
  unfold view at h ⊢
  split at h
  · cases h
  · rename_i ha
    rw [if_neg (fun z => ha (List.mem_cons_of_mem _ z))]
    exact h
/-! ### what an expression is not -/
def nst : Expr → Bool
  | .Starred _ _ => false
  | _ => true
def nset : Expr → Bool
  | .Set _ _ _ => false
  | _ => true
def nsl : Expr → Bool
  | .Slice _ _ _ _ => false
  | _ => true
def nsup : Expr → Bool
  | .Call _ _ _ _ => false
  | _ => true
/-- whose test is its value's truth -/
def ntest : Expr → Bool
  | .UnaryOp .Not _ _ => false
  | .BoolOp _ _ _ => false
  | .IfExp _ _ _ _ => false
  | .Compare _ _ _ _ => false
  | _ => true
theorem star_cons {e : Expr} {es : List Expr} {env : PySem.Env} (h : nst e = true) : starEach (e :: es) env = (false, eval e env) :: starEach es env := by
  cases e <;> first | rfl | cases h
theorem star_plain {env : PySem.Env} {pos : Pos} : ∀ {es : List Expr}, es.all nst = true → (backTo pos (starEach es env)).any (·.1) = false
  | [], _ => rfl
  | e :: es, h => by
    have h' : nst e = true ∧ es.all nst = true := by simpa using h
    rw [star_cons h'.1]
    exact star_plain h'.2
theorem star_back {e : Expr} {es : List Expr} {env : PySem.Env} {pos : Pos} (h : nst e = true) : backTo pos (starEach (e :: es) env) = (false, eval e env) :: backTo pos (starEach es env) := by
  rw [star_cons h]
  rfl
theorem star_few {env : PySem.Env} {pos : Pos} : ∀ {es : List Expr}, es.all nst = true → (backTo pos (starEach es env)).all (fun x => !x.1) = true
  | [], _ => rfl
  | e :: es, h => by
    have h' : nst e = true ∧ es.all nst = true := by simpa using h
    rw [star_cons h'.1]
    exact star_few h'.2
theorem marks_no {e : Expr} {op : CmpOp} (h : nset e = true) : behindInMarks op e = false := by
  cases e <;> first | rfl | cases h
theorem folded_no {e : Expr} {env : PySem.Env} (h : nset e = true) (x : Value) : foldedSetIterable e env x = pure x := by
  cases e <;> first | rfl | cases h
theorem plain_ix {e : Expr} (h : nsl e = true) (o i : Value) : subscripted e false o i = operate [o, i] (getItem o i) := by
  cases e <;> first | rfl | cases h
theorem attr_base {o : Expr} {f : Str} {env : PySem.Env} {w : Sem Value} (h : nsup o = true) : attributeBase o f env w = w := by
  cases o <;> first | rfl | cases h
theorem test_plain {e : Expr} {env : PySem.Env} (h : ntest e = true) (whole : Sem Value) : isTrue e env whole = (do let v ← whole; standAt e.pos; holding [v] (truthy v)) := by
  cases e with
  | UnaryOp op _ _ => cases op <;> first | rfl | cases h
  | BoolOp _ _ _ => cases h
  | IfExp _ _ _ _ => cases h
  | Compare _ _ _ _ => cases h
  | _ => rfl

section
variable {U : Ux} {W : WX} {X : Cx} {Y Z : List Addr} {σ : L2.St} {H : Hp} {a b c d : Expr} {es : List Expr} {pos : Pos} {ra rb rc rd : Res D} {rl : Res (List D)}
/-! ### arguments, displays -/
theorem y_nil : Yl U W (RL U X.K Z) (Aw X []) σ H (.ok []) :=
  Yl.imp (fun _ _ _ q => aw_of pa_nil q) (Yl.ret (R := RL U X.K Z) (b := []) fun _ _ => .nil)
theorem y_cons (n : nst a = true) (ha : Yl U W (RE U X.K Z) (Ew X a) σ H ra) (hl : Yl U W (RL U X.K Z) (Aw X es) σ H rl) : Yl U W (RL U X.K Z) (Aw X (a :: es)) σ H (ra.bind fun x => rl.bind fun xs => .ok (x :: xs)) := by
  refine Yl.imp (fun _ _ _ q => aw_of (pa_cons ew aw (star_cons n)) q) ?_
  exact Yl.two (t1 := Ew X a) (t2 := Aw X es) (tt := fun x xs H Q => Q (x :: xs) H) re_mono ha hl fun x xs u us H1 e1 dx dxs => Yl.ret (R := RL U X.K Z) fun H2 e2 => .cons (dx.mono (ex_view e2 Z)) (dxs.mono (ex_view e2 Z))
theorem y_tup {k : Nat} (t : Zt Z H) (hl : Yl U W (RL U X.K Z) (Aw X es) σ H rl) : Yl U W (RE U X.K Z) (Ew X (.Tuple es k pos)) σ H (rl.bind fun ds => req (decide (ds.length ≤ lim)) (.ok (.tuple ds))) := by
  refine Yl.imp (fun _ _ _ q => ew_of (pe_tup aw) q) ?_
  refine Yl.one (t1 := Aw X es) (tt := fun xs H1 Q => xs.length ≤ sizeLine ∧ ∀ p, H1 p = none → Q (V.ref p) (upd H1 p (.tup xs))) hl fun ds vs H1 e1 dv => Yl.val (.req (.ok _)) fun z H3 Q hr e3 q => ?_
  obtain ⟨h1, h2⟩ := req_ok hr
  cases ok_inj h2
  exact ⟨by rw [dv.length]; exact lim_line (of_decide_eq_true h1), fun p hp => q _ _ (Ex.new hp) (Dat.newT ((t.mono e1).mono e3) hp (dv.mono (ex_view e3 Z)))⟩

/-! ### fresh lists -/
def FinF (U : Ux) (W : WX) (K : PySem.W.Frag) (Z : List Addr) (σ : L2.St) (H : Hp) (Q : VK) : Res D → Prop
  | .ok (.list ds) => ∀ p xs H', H p = none → Ex H H' → H' p = some (.lst xs) → DatL U K (view H' (p :: Z)) xs ds → Q (.ref p) H'
  | .exc c => ∃ C, U.ec c = some C ∧ ∀ H', Ex H H' → W (.ref C) none σ H'
  | _ => False
def Fr (U : Ux) (W : WX) (K : PySem.W.Frag) (Z : List Addr) (t : TE) (σ : L2.St) (H : Hp) (r : Res D) : Prop := ∀ H1, Ex H H1 → ∀ Q, FinF U W K Z σ H1 Q r → t σ H1 Q
theorem Fr.yl {t : TE} {r : Res D} (z : Zt Z H) (l : ∀ d, r = .ok d → ∃ ds, d = .list ds) (h : Fr U W X.K Z t σ H r) : Yl U W (RE U X.K Z) t σ H r := by
  intro H1 e1 Q q
  refine h H1 e1 Q ?_
  cases r with
  | ok d =>
    obtain ⟨ds, rfl⟩ := l d rfl
    exact fun p xs H2 hp e2 h2 hd => q _ H2 e2 (.lst (by rw [view_out ((z.mono e1).not hp)]; exact h2) (hd.mono (view_sub H2 p Z)))
  | exc c => exact q
  | bad => exact q
theorem Fr.imp {t t' : TE} {r : Res D} (f : ∀ H1 Q, Ex H H1 → t σ H1 Q → t' σ H1 Q) (h : Fr U W X.K Z t σ H r) : Fr U W X.K Z t' σ H r := fun H1 e1 Q q => f H1 Q e1 (h H1 e1 Q q)
theorem FinF.back {H1 H2 : Hp} {Q : VK} {r : Res D} (e : Ex H1 H2) (h : FinF U W X.K Z σ H1 Q r) : FinF U W X.K Z σ H2 Q r := by
  cases r with
  | ok d => cases d with
    | list ds => exact fun p xs H' hp e2 h2 hd => h p xs H' (fresh_back e hp) (e.trans e2) h2 hd
    | _ => exact h
  | exc c => obtain ⟨C, h1, h2⟩ := h; exact ⟨C, h1, fun H' e2 => h2 H' (e.trans e2)⟩
  | bad => exact h
theorem Fr.one {α1 β1 : Type} {t1 : TX β1} {R1 : β1 → α1 → Hp → Prop} {r1 : Res α1} {tt : β1 → Hp → VK → Prop} {f : α1 → Res D}
    (h1 : Yl U W R1 t1 σ H r1) (h : ∀ x u H1 Q, Ex H H1 → R1 u x H1 → FinF U W X.K Z σ H1 Q (f x) → tt u H1 Q) : Fr U W X.K Z (fun σ H Q => t1 σ H fun u H1 => tt u H1 Q) σ H (r1.bind f) := by
  intro H1 e1 Q q
  refine h1 H1 e1 _ ?_
  cases r1 with
  | ok x => exact fun u H2 e2 d => h x u H2 Q (e1.trans e2) d (FinF.back (X := X) e2 q)
  | exc c => exact q
  | bad => exact q
theorem f_lst (t : Zt Z H) (hl : Yl U W (RL U X.K Z) (Aw X es) σ H rl) : Fr U W X.K Z (Ew X (.List es pos)) σ H (rl.bind fun ds => req (decide (ds.length ≤ lim)) (.ok (.list ds))) := by
  refine Fr.imp (X := X) (fun _ _ _ q => ew_of (pe_lst aw) q) ?_
  refine Fr.one (X := X) (t1 := Aw X es) (tt := fun xs H1 Q => xs.length ≤ sizeLine ∧ ∀ p, H1 p = none → Q (V.ref p) (upd H1 p (.lst xs))) hl fun ds vs H1 Q e1 dv q => ?_
  cases h1 : decide (ds.length ≤ lim) with
  | true =>
    rw [h1] at q
    exact ⟨by rw [dv.length]; exact lim_line (of_decide_eq_true h1), fun p hp => q p vs _ hp (Ex.new hp) upd_same (dv.mono (ex_view_cons (Ex.new hp) hp))⟩
  | false => rw [h1] at q; exact (show False from q).elim
theorem y_lst (t : Zt Z H) (hl : Yl U W (RL U X.K Z) (Aw X es) σ H rl) : Yl U W (RE U X.K Z) (Ew X (.List es pos)) σ H (rl.bind fun ds => req (decide (ds.length ≤ lim)) (.ok (.list ds))) := by
  refine Fr.yl t (fun d h => ?_) (f_lst t hl)
  obtain ⟨ds, _, h⟩ := bind_ok_inv h
  exact ⟨ds, (ok_inj (req_ok h).2).symm⟩

/-! ### truth, tests -/
theorem y_T (n : ntest a = true) (ha : Yl U W (RC U X.K Z) (Ew X a) σ H ra) : Yl U W RQ (Tw X a) σ H (ra.bind tru) := by
  refine Yl.imp (t := fun σ H Q => Ew X a σ H fun x H' => ∃ k, TruV X.K x H' k ∧ Q k H') (fun _ _ _ q => tw_of (pt_truth ew (test_plain n)) q) ?_
  exact Yl.one (t1 := Ew X a) (tt := fun x H' Q => ∃ k, TruV X.K x H' k ∧ Q k H') ha fun x u H1 e1 dx => Yl.val (nox_tru x) fun k H3 Q hr e3 q => ⟨k, Con.truV (Z := Z) (Con.mono e3 dx) hr, q _ _ (Ex.refl _) rfl⟩
/-- a truth that is told, as a test -/
theorem y_tB {t : TE} {r : Res D} (h : Yl U W (RE U X.K Z) t σ H r) (n : ∀ d, r = .ok d → ∃ k, d = .bool k) : Yl U W RQ (tTest t) σ H (r.bind tru) := by
  intro H1 e1 Q q
  refine h H1 e1 _ ?_
  cases r with
  | ok d =>
    obtain ⟨k, rfl⟩ := n d rfl
    exact fun v H2 e2 dv => ⟨k, dv.bool_inv, q k H2 e2 rfl⟩
  | exc c => exact q
  | bad => exact q
theorem y_notT {r : Res Bool} (ha : Yl U W RQ (Tw X a) σ H r) : Yl U W RQ (Tw X (.UnaryOp .Not a pos)) σ H (r.bind fun k => .ok !k) := by
  refine Yl.imp (fun _ _ _ q => tw_of (pt_not tw) q) ?_
  refine Yl.one (t1 := Tw X a) (tt := fun c H1 Q => Q (!c) H1) ha fun x u H1 e1 dx => ?_
  cases dx
  exact Yl.ret (R := RQ) fun _ _ => rfl
theorem y_and1T {r : Res Bool} (ha : Yl U W RQ (Tw X a) σ H r) : Yl U W RQ (Tw X (.BoolOp .And [a] pos)) σ H r :=
  Yl.imp (fun _ _ _ q => tw_of (PW.pt (pw_and1 tw)) q) ha
theorem y_or1T {r : Res Bool} (ha : Yl U W RQ (Tw X a) σ H r) : Yl U W RQ (Tw X (.BoolOp .Or [a] pos)) σ H r :=
  Yl.imp (fun _ _ _ q => tw_of (PW.pt (pw_or1 tw)) q) ha
/-- the test of a BoolOp does not look at its value -/
def Bw (X : Cx) (e : Expr) : TT := fun σ H Q => ∀ whole pins s, L2.Inv X pins σ H s → wpAny (model X.prog X.w) X.A (isTrue e X.env whole) (TP X pins σ Q) X.xe s
theorem bw : PW X a (Bw X a) := ⟨fun whole pins s _ _ _ I h => h whole pins s I⟩
theorem bw_of {t : TT} {Q : Bool → Hp → Prop} (p : PW X a t) (h : t σ H Q) : Bw X a σ H Q := fun whole pins s I => p.run whole pins s σ H Q I h
theorem y_bw {r : Res Bool} (h : Yl U W RQ (Bw X a) σ H r) : Yl U W RQ (Tw X a) σ H r := Yl.imp (fun _ _ _ q => tw_of (PW.pt bw) q) h
theorem y_and1B {r : Res Bool} (ha : Yl U W RQ (Tw X a) σ H r) : Yl U W RQ (Bw X (.BoolOp .And [a] pos)) σ H r :=
  Yl.imp (fun _ _ _ q => bw_of (pw_and1 tw) q) ha
theorem y_or1B {r : Res Bool} (ha : Yl U W RQ (Tw X a) σ H r) : Yl U W RQ (Bw X (.BoolOp .Or [a] pos)) σ H r :=
  Yl.imp (fun _ _ _ q => bw_of (pw_or1 tw) q) ha
theorem y_andB {r r' : Res Bool} (ha : Yl U W RQ (Tw X a) σ H r) (hb : Yl U W RQ (Bw X (.BoolOp .And (b :: es) pos)) σ H r') : Yl U W RQ (Bw X (.BoolOp .And (a :: b :: es) pos)) σ H (r.bind fun k => match k with
    | true => r'
    | false => .ok false) := by
  refine Yl.imp (fun _ _ _ q => bw_of (pw_and tw bw) q) ?_
  refine Yl.bind (t := Tw X a) (tb := fun c σ H1 Q => if c = true then Bw X (.BoolOp .And (b :: es) pos) σ H1 Q else Q false H1) ha fun x u H1 _ e1 dx => ?_
  cases dx
  cases x with
  | true => exact hb.mono e1
  | false => exact Yl.ret (R := RQ) fun _ _ => rfl
theorem y_orB {r r' : Res Bool} (ha : Yl U W RQ (Tw X a) σ H r) (hb : Yl U W RQ (Bw X (.BoolOp .Or (b :: es) pos)) σ H r') : Yl U W RQ (Bw X (.BoolOp .Or (a :: b :: es) pos)) σ H (r.bind fun k => match k with
    | true => .ok true
    | false => r') := by
  refine Yl.imp (fun _ _ _ q => bw_of (pw_or tw bw) q) ?_
  refine Yl.bind (t := Tw X a) (tb := fun c σ H1 Q => if c = true then Q true H1 else Bw X (.BoolOp .Or (b :: es) pos) σ H1 Q) ha fun x u H1 _ e1 dx => ?_
  cases dx
  cases x with
  | true => exact Yl.ret (R := RQ) fun _ _ => rfl
  | false => exact hb.mono e1
/-- as values -/
theorem y_one {op : BoolOp} (ha : Yl U W (RE U X.K Z) (Ew X a) σ H ra) : Yl U W (RE U X.K Z) (Ew X (.BoolOp op [a] pos)) σ H ra :=
  Yl.imp (fun _ _ _ q => ew_of (pe_one ew) q) ha
theorem y_and (ha : Yl U W (RE U X.K Z) (Ew X a) σ H ra) (hb : Yl U W (RE U X.K Z) (Ew X (.BoolOp .And (b :: es) pos)) σ H rb) : Yl U W (RE U X.K Z) (Ew X (.BoolOp .And (a :: b :: es) pos)) σ H (ra.bind fun x => (tru x).bind fun k => match k with
    | true => rb
    | false => .ok x) := by
  refine Yl.imp (fun _ _ _ q => ew_of (pe_andT ew ew) q) ?_
  refine Yl.bind (t := Ew X a) (tb := fun x σ H1 Q => ∃ k, TruV X.K x H1 k ∧ if k = true then Ew X (.BoolOp .And (b :: es) pos) σ H1 Q else Q x H1) ha fun x u H1 _ e1 dx => ?_
  intro H2 e2 Q q
  cases hr : tru x with
  | ok k =>
    rw [hr] at q
    refine ⟨k, Con.truV (Z := Z) (.inl (dx.mono (ex_view e2 Z))) hr, ?_⟩
    cases k with
    | true => exact hb _ (e1.trans e2) Q q
    | false => exact q u H2 (Ex.refl _) (dx.mono (ex_view e2 Z))
  | exc c => exact absurd hr (nox_tru x c)
  | bad => rw [hr] at q; exact (show False from q).elim
theorem y_or (ha : Yl U W (RE U X.K Z) (Ew X a) σ H ra) (hb : Yl U W (RE U X.K Z) (Ew X (.BoolOp .Or (b :: es) pos)) σ H rb) : Yl U W (RE U X.K Z) (Ew X (.BoolOp .Or (a :: b :: es) pos)) σ H (ra.bind fun x => (tru x).bind fun k => match k with
    | true => .ok x
    | false => rb) := by
  refine Yl.imp (fun _ _ _ q => ew_of (pe_orT ew ew) q) ?_
  refine Yl.bind (t := Ew X a) (tb := fun x σ H1 Q => ∃ k, TruV X.K x H1 k ∧ if k = true then Q x H1 else Ew X (.BoolOp .Or (b :: es) pos) σ H1 Q) ha fun x u H1 _ e1 dx => ?_
  intro H2 e2 Q q
  cases hr : tru x with
  | ok k =>
    rw [hr] at q
    refine ⟨k, Con.truV (Z := Z) (.inl (dx.mono (ex_view e2 Z))) hr, ?_⟩
    cases k with
    | true => exact q u H2 (Ex.refl _) (dx.mono (ex_view e2 Z))
    | false => exact hb _ (e1.trans e2) Q q
  | exc c => exact absurd hr (nox_tru x c)
  | bad => rw [hr] at q; exact (show False from q).elim
theorem y_ite {r : Res Bool} (hc : Yl U W RQ (Tw X c) σ H r) (ha : Yl U W (RE U X.K Z) (Ew X a) σ H ra) (hb : Yl U W (RE U X.K Z) (Ew X b) σ H rb) : Yl U W (RE U X.K Z) (Ew X (.IfExp c a b pos)) σ H (r.bind fun k => match k with
    | true => ra
    | false => rb) := by
  refine Yl.imp (fun _ _ _ q => ew_of (pe_ifExp tw ew ew) q) ?_
  refine Yl.bind (t := Tw X c) (tb := fun k σ H1 Q => if k = true then Ew X a σ H1 Q else Ew X b σ H1 Q) hc fun x u H1 _ e1 dx => ?_
  cases dx
  cases x with
  | true => exact ha.mono e1
  | false => exact hb.mono e1

/-! ### chains -/
theorem tw_chain2 {r r' : R2} {o p : CmpOp} {Q : Bool → Hp → Prop} (ho : OpR X (compareOp o) r) (hp : OpR X (compareOp p) r') (hm : lastMarks [o, p] [b, c] = false) (h : tTest (tChain r r' (Ew X a) (Ew X b) (Ew X c)) σ H Q) : Tw X (.Compare a [o, p] [b, c] pos) σ H Q :=
  tw_of (pt_chain ho hp ew ew ew hm) h
/-- a op b op c op d -/
def tCh3 (r r' r'' : R2) (ta tb tc td : TE) : TE := fun σ H Q => ta σ H fun x H1 => tb σ H1 fun y H2 => r x y H2 fun z H3 => ∃ k, z = .bl k ∧
  (if k = true then tc σ H3 fun w' H4 => r' y w' H4 fun z' H5 => ∃ k', z' = .bl k' ∧ (if k' = true then td σ H5 fun v' H6 => r'' w' v' H6 Q else Q (.bl false) H5) else Q (.bl false) H3)
theorem pe_ch3 {op op' op'' : CmpOp} {r r' r'' : R2} {ta tb tc td : TE} (ho : OpR X (compareOp op) r) (ho' : OpR X (compareOp op') r') (ho'' : OpR X (compareOp op'') r'') (ha : PE X a ta) (hb : PE X b tb) (hc : PE X c tc) (hd : PE X d td)
    (hm : lastMarks [op, op', op''] [b, c, d] = false) : PE X (.Compare a [op, op', op''] [b, c, d] pos) (tCh3 r r' r'' ta tb tc td) := by
  refine ⟨fun pins s σ H Q I h => ?_⟩
  refine Compare_chain (thn (ha.run pins s σ H _ I h) fun v s1 ⟨x, H1, I1, r1, q1⟩ => chain_link (thn (hb.run pins s1 σ H1 _ I1 q1) fun u s2 ⟨y, H2, I2, r2, q2⟩ =>
    thn (ho pins s2 σ H2 x y v u _ I2 r1 r2 q2) fun d s3 ⟨z, H3, I3, r3, k, e, q3⟩ => ?_)) hm
  subst e
  cases r3
  refine wpAny_truthy_bool ?_
  cases k with
  | false => exact ite_ff ⟨.bl false, H3, I3, rfl, q3⟩
  | true =>
    refine ite_tt (chain_link (thn (hc.run pins s3 σ H3 _ I3 q3) fun w' s4 ⟨z', H4, I4, r4, q4⟩ => thn (ho' pins s4 σ H4 y z' u w' _ I4 r2 r4 q4) fun d2 s5 ⟨z2, H5, I5, r5, k2, e2, q5⟩ => ?_))
    subst e2
    cases r5
    refine wpAny_truthy_bool ?_
    cases k2 with
    | false => exact ite_ff ⟨.bl false, H5, I5, rfl, q5⟩
    | true => exact ite_tt (chain_last (thn (hd.run pins s5 σ H5 _ I5 q5) fun w3 s6 ⟨z3, H6, I6, r6, q6⟩ => ho'' pins s6 σ H6 z' z3 w' w3 Q I6 r4 r6 q6))
theorem pt_ch3 {op op' op'' : CmpOp} {r r' r'' : R2} {ta tb tc td : TE} (ho : OpR X (compareOp op) r) (ho' : OpR X (compareOp op') r') (ho'' : OpR X (compareOp op'') r'') (ha : PE X a ta) (hb : PE X b tb) (hc : PE X c tc) (hd : PE X d td)
    (hm : lastMarks [op, op', op''] [b, c, d] = false) : PT X (.Compare a [op, op', op''] [b, c, d] pos) (tTest (tCh3 r r' r'' ta tb tc td)) := by
  refine ⟨fun pins s σ H Q I h => ?_⟩
  refine isTrue_chain (thn (ha.run pins s σ H _ I h) fun v s1 ⟨x, H1, I1, r1, q1⟩ => test_link (thn (hb.run pins s1 σ H1 _ I1 q1) fun u s2 ⟨y, H2, I2, r2, q2⟩ =>
    thn (ho pins s2 σ H2 x y v u _ I2 r1 r2 q2) fun d s3 ⟨z, H3, I3, r3, k, e, q3⟩ => ?_)) hm
  subst e
  cases r3
  refine wpAny_truthy_bool ?_
  cases k with
  | false =>
    obtain ⟨k', e', q'⟩ := q3
    cases e'
    exact ite_ff ⟨H3, I3, q'⟩
  | true =>
    refine ite_tt (test_link (thn (hc.run pins s3 σ H3 _ I3 q3) fun w' s4 ⟨z', H4, I4, r4, q4⟩ => thn (ho' pins s4 σ H4 y z' u w' _ I4 r2 r4 q4) fun d2 s5 ⟨z2, H5, I5, r5, k2, e2, q5⟩ => ?_))
    subst e2
    cases r5
    refine wpAny_truthy_bool ?_
    cases k2 with
    | false =>
      obtain ⟨k', e', q'⟩ := q5
      cases e'
      exact ite_ff ⟨H5, I5, q'⟩
    | true =>
      refine ite_tt (test_last (thn (hd.run pins s5 σ H5 _ I5 q5) fun w3 s6 ⟨z3, H6, I6, r6, q6⟩ => thn (ho'' pins s6 σ H6 z' z3 w' w3 _ I6 r4 r6 q6) fun d4 s7 ⟨z4, H7, I7, r7, k4, e4, q7⟩ => ?_))
      subst e4
      cases r7
      exact wpAny_truthy_bool ⟨H7, I7, q7⟩
/-- the readings of the chains -/
theorem yt_ch2 (hu : X.A.units + 64 < cLine) (o p : Cm) (ha : Yl U W (RE U X.K Z) (Ew X a) σ H ra) (hb : Yl U W (RE U X.K Z) (Ew X b) σ H rb) (hc : Yl U W (RE U X.K Z) (Ew X c) σ H rc) :
    Yl U W (RE U X.K Z) (tChain (r2B U X.K Z o.run) (r2B U X.K Z p.run) (Ew X a) (Ew X b) (Ew X c)) σ H (ra.bind fun x => rb.bind fun y => (o.run x y).bind fun k => match k with
      | false => .ok (.bool false)
      | true => rc.bind fun z => (p.run y z).bind fun k => .ok (.bool k)) := by
  refine Yl.bind (t := Ew X a) (tb := fun u σ H Q => Ew X b σ H fun w H2 => r2B U X.K Z o.run u w H2 fun z H3 => ∃ k, z = .bl k ∧ (if k = true then Ew X c σ H3 fun w' H4 => r2B U X.K Z p.run w w' H4 Q else Q (.bl false) H3)) ha fun x u H1 _ e1 dx => ?_
  refine Yl.bind (t := Ew X b) (tb := fun w σ H2 Q => r2B U X.K Z o.run u w H2 fun z H3 => ∃ k, z = .bl k ∧ (if k = true then Ew X c σ H3 fun w' H4 => r2B U X.K Z p.run w w' H4 Q else Q (.bl false) H3)) (hb.mono e1) fun y w H2 _ e2 dy => ?_
  refine y_test (tb := fun k σ H3 Q => if k = true then Ew X c σ H3 fun w' H4 => r2B U X.K Z p.run w w' H4 Q else Q (.bl false) H3) hu (dx.mono (ex_view e2 Z)) dy fun k _ => ?_
  cases k with
  | false => exact Yl.ret (R := RE U X.K Z) fun H1 _ => .bl _
  | true => exact Yl.bind (t := Ew X c) (tb := fun w' _ H4 Q => r2B U X.K Z p.run w w' H4 Q) ((hc.mono e1).mono e2) fun z w' H4 _ e4 dz => y_vals (α := D) (dy.mono (ex_view e4 Z)) dz
theorem yt_ch3 (hu : X.A.units + 64 < cLine) (o p q : Cm) (ha : Yl U W (RE U X.K Z) (Ew X a) σ H ra) (hb : Yl U W (RE U X.K Z) (Ew X b) σ H rb) (hc : Yl U W (RE U X.K Z) (Ew X c) σ H rc) (hd : Yl U W (RE U X.K Z) (Ew X d) σ H rd) :
    Yl U W (RE U X.K Z) (tCh3 (r2B U X.K Z o.run) (r2B U X.K Z p.run) (r2B U X.K Z q.run) (Ew X a) (Ew X b) (Ew X c) (Ew X d)) σ H (ra.bind fun x => rb.bind fun y => (o.run x y).bind fun k => match k with
      | false => .ok (.bool false)
      | true => rc.bind fun z => (p.run y z).bind fun k => match k with
        | false => .ok (.bool false)
        | true => rd.bind fun w => (q.run z w).bind fun k => .ok (.bool k)) := by
  refine Yl.bind (t := Ew X a) (tb := fun u σ H Q => Ew X b σ H fun w H2 => r2B U X.K Z o.run u w H2 fun z H3 => ∃ k, z = .bl k ∧ (if k = true then Ew X c σ H3 fun w' H4 => r2B U X.K Z p.run w w' H4 fun z' H5 => ∃ k', z' = .bl k' ∧ (if k' = true then Ew X d σ H5 fun v' H6 => r2B U X.K Z q.run w' v' H6 Q else Q (.bl false) H5) else Q (.bl false) H3)) ha fun x u H1 _ e1 dx => ?_
  refine Yl.bind (t := Ew X b) (tb := fun w σ H2 Q => r2B U X.K Z o.run u w H2 fun z H3 => ∃ k, z = .bl k ∧ (if k = true then Ew X c σ H3 fun w' H4 => r2B U X.K Z p.run w w' H4 fun z' H5 => ∃ k', z' = .bl k' ∧ (if k' = true then Ew X d σ H5 fun v' H6 => r2B U X.K Z q.run w' v' H6 Q else Q (.bl false) H5) else Q (.bl false) H3)) (hb.mono e1) fun y w H2 _ e2 dy => ?_
  refine y_test (tb := fun k σ H3 Q => if k = true then Ew X c σ H3 fun w' H4 => r2B U X.K Z p.run w w' H4 fun z' H5 => ∃ k', z' = .bl k' ∧ (if k' = true then Ew X d σ H5 fun v' H6 => r2B U X.K Z q.run w' v' H6 Q else Q (.bl false) H5) else Q (.bl false) H3) hu (dx.mono (ex_view e2 Z)) dy fun k _ => ?_
  cases k with
  | false => exact Yl.ret (R := RE U X.K Z) fun H1 _ => .bl _
  | true =>
    refine Yl.bind (t := Ew X c) (tb := fun w' σ H4 Q => r2B U X.K Z p.run w w' H4 fun z' H5 => ∃ k', z' = .bl k' ∧ (if k' = true then Ew X d σ H5 fun v' H6 => r2B U X.K Z q.run w' v' H6 Q else Q (.bl false) H5)) ((hc.mono e1).mono e2) fun z w' H4 _ e4 dz => ?_
    refine y_test (tb := fun k' σ H5 Q => if k' = true then Ew X d σ H5 fun v' H6 => r2B U X.K Z q.run w' v' H6 Q else Q (.bl false) H5) hu (dy.mono (ex_view e4 Z)) dz fun k _ => ?_
    cases k with
    | false => exact Yl.ret (R := RE U X.K Z) fun H1 _ => .bl _
    | true => exact Yl.bind (t := Ew X d) (tb := fun v' _ H6 Q => r2B U X.K Z q.run w' v' H6 Q) (((hd.mono e1).mono e2).mono e4) fun w2 v' H6 _ e6 dw => y_vals (α := D) (dz.mono (ex_view e6 Z)) dw

/-! ### subscripts, slices -/
theorem y_ix (n : nsl b = true) (ha : Yl U W (RC U X.K Z) (Ew X a) σ H ra) (hb : Yl U W (RE U X.K Z) (Ew X b) σ H rb) : Yl U W (RE U X.K Z) (Ew X (.Subscript a b pos)) σ H (ra.bind fun x => rb.bind fun y => ixD x y) := by
  refine Yl.imp (fun _ _ _ q => ew_of (pe_ix (ix_D (U := U) (Z := Z)) ew ew (plain_ix n)) q) ?_
  exact Yl.two (t1 := Ew X a) (t2 := Ew X b) (tt := rCD U X.K Z ixD) rc_mono ha hb fun x y u w H1 e1 dx dy => Yl.val (nox_ix x y) fun z H3 Q hr e3 q => ⟨x, y, z, Con.mono e3 dx, dy.mono (ex_view e3 Z), hr, q⟩
/-- a slice's bound -/
theorem y_O0 : Yl U W RQ (Ow X none) σ H (.ok none) := Yl.imp (fun _ _ _ q => ow_of po_none q) (Yl.ret (R := RQ) (b := none) fun _ _ => rfl)
theorem y_O1 (ha : Yl U W (RE U X.K Z) (Ew X a) σ H ra) : Yl U W RQ (Ow X (some a)) σ H (ra.bind fun x => (asInt x).bind fun i => .ok (some i)) := by
  refine Yl.imp (fun _ _ _ q => ow_of (po_some ew) q) ?_
  refine Yl.one (t1 := Ew X a) (tt := fun x H1 Q => ∃ i, x = .int i ∧ Q (some i) H1) ha fun x u H1 e1 dx => Yl.val (.bind (nox_int x) fun _ => .ok _) fun z H3 Q hr e3 q => ?_
  obtain ⟨i, h1, h2⟩ := bind_ok_inv hr
  cases ok_inj h2
  cases x with
  | int j =>
    cases ok_inj h1
    exact ⟨_, dx.int_inv, q _ _ (Ex.refl _) rfl⟩
  | _ => cases h1
theorem y_sl {lo hi : Option Expr} {p2 : Pos} {r1 r2 : Res (Option Int)} (t : Zt Z H) (ha : Yl U W (RC U X.K Z) (Ew X a) σ H ra) (h1 : Yl U W RQ (Ow X lo) σ H r1) (h2 : Yl U W RQ (Ow X hi) σ H r2) :
    Yl U W (RE U X.K Z) (Ew X (.Subscript a (.Slice lo hi none p2) pos)) σ H (ra.bind fun x => r1.bind fun l => r2.bind fun h => slD l h x) := by
  refine Yl.imp (fun _ _ _ q => ew_of (pe_slice (sl_D (U := U) (Z := Z)) ew ow ow) q) ?_
  refine Yl.bind (t := Ew X a) (tb := fun x σ H1 Q => Ow X lo σ H1 fun l H2 => Ow X hi σ H2 fun u H3 => rSlD U X.K Z x l u H3 Q) ha fun x u H1 _ e1 dx => ?_
  refine Yl.two (t1 := Ow X lo) (t2 := Ow X hi) (tt := fun l h H Q => rSlD U X.K Z u l h H Q) (fun _ _ _ _ _ r => r) (h1.mono e1) (h2.mono e1) fun l h l' h' H2 e2 el eh => ?_
  cases el
  cases eh
  exact Yl.val (nox_sl l h x) fun z H3 Q hr e3 q => ⟨((t.mono e1).mono e2).mono e3, x, z, Con.mono e3 (Con.mono e2 dx), hr, q⟩
theorem y_rev {k : Nat} {p1 p2 p3 : Pos} (t : Zt Z H) (ha : Yl U W (RC U X.K Z) (Ew X a) σ H ra) : Yl U W (RE U X.K Z) (Ew X (.Subscript a (.Slice none none (some (.UnaryOp .USub (.Constant (.int 1) k p1) p2)) p3) pos)) σ H (ra.bind revD) := by
  refine Yl.imp (fun _ _ _ q => ew_of (pe_revL ew) q) ?_
  refine Yl.one (t1 := Ew X a) (tt := fun x H1 Q => ∃ a xs, x = .ref a ∧ SqL X.K H1 a xs ∧ ∀ p, H1 p = none → Q (V.ref p) (upd H1 p (.lst xs.reverse))) ha fun x u H1 e1 dx => Yl.val (nox_rev x) fun z H3 Q hr e3 q => ?_
  cases x with
  | list ds =>
    cases ok_inj hr
    obtain ⟨p, xs, rfl, h1, h2⟩ := (Con.mono e3 dx).list
    exact ⟨p, xs, rfl, SqL.of h1, fun p hp => q _ _ (Ex.new hp) (Dat.newL ((t.mono e1).mono e3) hp h2.reverse)⟩
  | _ => cases hr
/-- a dict of the def's own is read -/
theorem datK_find {K : PySem.W.Frag} {H : Hp} {k : Int} {d : D} {vs : List (Key × V)} {kvs : List (Int × D)} (h : DatK U K H vs kvs) : klook kvs k = some d → ∃ v, valV vs (.inl k) = some v ∧ Dat U K H v d := by
  induction h with
  | nil => intro q; simp [klook] at q
  | @cons j v e vs ds h hs ih =>
    intro q
    by_cases hj : j = k
    · subst hj
      have q' : e = d := by simpa [klook, List.find?_cons] using q
      subst q'
      exact ⟨v, by simp [valV, List.find?_cons], h⟩
    · have q' : klook ds k = some d := by simpa [klook, List.find?_cons, hj] using q
      obtain ⟨w, h1, h2⟩ := ih q'
      refine ⟨w, ?_, h2⟩
      have hn : ¬ (Sum.inl j : Key) = Sum.inl k := fun e => hj (Sum.inl.inj e)
      rw [valV_neg (p := (Sum.inl j, v)) hn]
      exact h1
theorem y_dget {i : Nat} {env : Env} {kvs : List (Int × D)} (hu : X.A.units + 64 < cLine) (n : nsl b = true) (pa : PE X a (tVar i)) (h : EnvOk U X.K Y Z H σ env) (hi : env.get i = .dct kvs) (hb : Yl U W (RE U X.K Z) (Ew X b) σ H rb) :
    Yl U W (RE U X.K Z) (Ew X (.Subscript a b pos)) σ H (rb.bind fun y => (asInt y).bind fun k => ofO (klook kvs k)) := by
  refine Yl.imp (fun _ _ _ q => ew_of (pe_dget (by omega) pa ew (plain_ix n)) q) ?_
  intro H1 e1 Q q
  have r := (h.mono e1).get i
  rw [hi] at r
  obtain ⟨p, vs, h1, h2, h3, h4⟩ := r
  refine ⟨_, h1, ?_⟩
  refine hb H1 e1 _ ?_
  cases rb with
  | ok y =>
    intro w H2 e2 dy
    have q2 := FinG.mono e2 (show FinG U W σ (RE U X.K Z) H1 Q ((asInt y).bind fun k => ofO (klook kvs k)) from q)
    cases y with
    | int k =>
      cases dy.int_inv
      cases hk : klook kvs k with
      | none => rw [show ((asInt (.int k)).bind fun k => ofO (klook kvs k)) = .bad by show ofO (klook kvs k) = _; rw [hk]; rfl] at q2; exact (show False from q2).elim
      | some d =>
        rw [show ((asInt (.int k)).bind fun k => ofO (klook kvs k)) = .ok d by show ofO (klook kvs k) = _; rw [hk]; rfl] at q2
        obtain ⟨v, hv, hd⟩ := datK_find (h4.mono (ex_view e2 Z)) hk
        exact ⟨p, v, rfl, by have g := DGet.k (k := .inl k) (e2 _ _ h3); rw [hv] at g; exact g, q2 v H2 (Ex.refl _) hd⟩
    | _ => exact (show False from q2).elim
  | exc c => exact q
  | bad => exact q
end
end Rwl

set_option Elab.async false
set_option linter.all false
set_option maxRecDepth 100000
set_option maxHeartbeats 1000000
/-! Rwl, part G: calls, what is walked, comprehensions. -/
namespace Rwl
open PySem PySem.Spec PyProof.Rows L2 Evl

/-! ### promises -/
/-- a def's promise: from the data ds the function f's value, or its exception. Z: what the caller hides -/
def spD (U : Ux) (K : PySem.W.Frag) (n : Nat) (f : List D → Res D) : Sp := fun vs H Q E => vs.length = n ∧ ∃ Z ds, Zt Z H ∧ DatL U K (view H Z) vs ds ∧ match f ds with
  | .ok d => ∀ v H', Ex H H' → Dat U K (view H' Z) v d → Q v H'
  | .exc c => ∃ C, U.ec c = some C ∧ ∀ H', Ex H H' → E (.ref C) none H'
  | .bad => False
/-- the def named x, of n parameters, is f -/
def FOk (U : Ux) (X : Cx) (x : Str) (n : Nat) (f : List D → Res D) : Prop :=
  ∃ (k : Nat) (fa : Addr) (fd : FuncData) (ps : List Str), Room k X.A ∧ X.mg x = some (.ref fa) ∧ PySem.W.keepIn X.K (.ref fa) = true ∧ Binds X.K fd ps [] ∧ FnOk X.prog X.w X.K X.mg X.base (L2.CX X.prog X.w) k fa fd ps (spD U X.K n f)
/-- the name of a built-in function -/
def Bi.name : Bi → Str
  | .len => "len"
  | .abs => "abs"
  | .sum => "sum"
  | .max => "max"
  | .min => "min"
  | .max2 => "max"
  | .min2 => "min"
  | .sorted => "sorted"
  | .list => "list"
  | .int => "int"
  | .str => "str"
  | .all => "all"
  | .any => "any"
  | .tuple => "tuple"
section
variable {U : Ux} {W : WX} {X : Cx} {Y Z : List Addr} {σ : L2.St} {H : Hp} {a b c d : Expr} {es : List Expr} {p pos : Pos} {ra rb rc rd : Res D} {rl : Res (List D)}
theorem y_callB {id : String} {x : Str} {g : List D → Res D} (hc : CallR X (.builtin id) (rBi U X.K Z g)) (nx : ∀ ds, Nox (g ds)) (hg : Gl X x) (hm : X.mg x = none) (hv : bootBuiltins x = some (.builtin id)) (hn : x ≠ "__name__") (hdb : (x == ("__debug__" : Str)) = false)
    (t : Zt Z H) (n : (a :: es).all nst = true) (hl : Yl U W (RL U X.K Z) (Aw X (a :: es)) σ H rl) : Yl U W (RE U X.K Z) (Ew X (.Call (.Name x p) (a :: es) [] pos)) σ H (rl.bind g) := by
  have n' : nst a = true ∧ es.all nst = true := by simpa using n
  refine Yl.imp (fun _ _ _ q => ew_of (pe_callB hc hg hm hv aw hn hdb (star_cons n'.1) (star_plain n'.2)) q) ?_
  exact Yl.one (t1 := Aw X (a :: es)) (tt := rBi U X.K Z g) hl fun ds vs H1 e1 dv => Yl.val (nx ds) fun z H3 Q hr e3 q => ⟨(t.mono e1).mono e3, ds, z, dv.mono (ex_view e3 Z), hr, q⟩
theorem y_callTy {T : String} {x : Str} {g : List D → Res D} (hc : CallR X (.type T) (rBi U X.K Z g)) (nx : ∀ ds, Nox (g ds)) (hg : Gl X x) (hm : X.mg x = none) (hv : bootBuiltins x = some (.type T)) (hn : x ≠ "__name__") (hdb : (x == ("__debug__" : Str)) = false)
    (t : Zt Z H) (n : (a :: es).all nst = true) (hl : Yl U W (RL U X.K Z) (Aw X (a :: es)) σ H rl) : Yl U W (RE U X.K Z) (Ew X (.Call (.Name x p) (a :: es) [] pos)) σ H (rl.bind g) := by
  have n' : nst a = true ∧ es.all nst = true := by simpa using n
  refine Yl.imp (fun _ _ _ q => ew_of (pe_callTy hc hg hm hv aw hn hdb (star_cons n'.1) (star_plain n'.2)) q) ?_
  exact Yl.one (t1 := Aw X (a :: es)) (tt := rBi U X.K Z g) hl fun ds vs H1 e1 dv => Yl.val (nx ds) fun z H3 Q hr e3 q => ⟨(t.mono e1).mono e3, ds, z, dv.mono (ex_view e3 Z), hr, q⟩
theorem y_bi (k : Bi) (hc : X.calm = true) (hg : Gl X k.name) (hm : X.mg k.name = none) (t : Zt Z H) (n : (a :: es).all nst = true) (hl : Yl U W (RL U X.K Z) (Aw X (a :: es)) σ H rl) : Yl U W (RE U X.K Z) (Ew X (.Call (.Name k.name p) (a :: es) [] pos)) σ H (rl.bind (bi k)) := by
  cases k with
  | len => exact y_callB (call_bi hc .len) (nox_bi _) hg hm (by decide +kernel) (by decide +kernel) (by decide +kernel) t n hl
  | abs => exact y_callB (call_bi hc .abs) (nox_bi _) hg hm (by decide +kernel) (by decide +kernel) (by decide +kernel) t n hl
  | sum => exact y_callB (call_bi hc .sum) (nox_bi _) hg hm (by decide +kernel) (by decide +kernel) (by decide +kernel) t n hl
  | max => exact y_callB (call_bi hc .max) (nox_bi _) hg hm (by decide +kernel) (by decide +kernel) (by decide +kernel) t n hl
  | min => exact y_callB (call_bi hc .min) (nox_bi _) hg hm (by decide +kernel) (by decide +kernel) (by decide +kernel) t n hl
  | max2 => exact y_callB (call_bi hc .max2) (nox_bi _) hg hm (by decide +kernel) (by decide +kernel) (by decide +kernel) t n hl
  | min2 => exact y_callB (call_bi hc .min2) (nox_bi _) hg hm (by decide +kernel) (by decide +kernel) (by decide +kernel) t n hl
  | sorted => exact y_callB (call_bi hc .sorted) (nox_bi _) hg hm (by decide +kernel) (by decide +kernel) (by decide +kernel) t n hl
  | list => exact y_callTy (call_bi hc .list) (nox_bi _) hg hm (by decide +kernel) (by decide +kernel) (by decide +kernel) t n hl
  | int => exact y_callTy (call_bi hc .int) (nox_bi _) hg hm (by decide +kernel) (by decide +kernel) (by decide +kernel) t n hl
  | str => exact y_callTy (call_bi hc .str) (nox_bi _) hg hm (by decide +kernel) (by decide +kernel) (by decide +kernel) t n hl
  | all => exact y_callB (call_bi hc .all) (nox_bi _) hg hm (by decide +kernel) (by decide +kernel) (by decide +kernel) t n hl
  | any => exact y_callB (call_bi hc .any) (nox_bi _) hg hm (by decide +kernel) (by decide +kernel) (by decide +kernel) t n hl
  | tuple => exact y_callTy (call_bi hc .tuple) (nox_bi _) hg hm (by decide +kernel) (by decide +kernel) (by decide +kernel) t n hl
/-- f(..), a def -/
theorem y_call {x : Str} {m : Nat} {f : List D → Res D} (tk : Takes X W) (F : FOk U X x m f) (hg : Gl X x) (hdb : (x == ("__debug__" : Str)) = false) (t : Zt Z H) (n : (a :: es).all nst = true) (hlen : ∀ ds, rl = .ok ds → ds.length = m) (hl : Yl U W (RL U X.K Z) (Aw X (a :: es)) σ H rl) :
    Yl U W (RE U X.K Z) (Ew X (.Call (.Name x p) (a :: es) [] pos)) σ H (rl.bind f) := by
  obtain ⟨k, fa, fd, ps, hr, hm, hk, hb, F⟩ := F
  have n' : nst a = true ∧ es.all nst = true := by simpa using n
  refine Yl.imp (fun _ _ _ q => ew_of (pe_callS F hr hg hm hk hb (fun σ => passAt tk σ) aw hdb (star_cons n'.1) (star_plain n'.2)) q) ?_
  refine Yl.bind (t := Aw X (a :: es)) (tb := fun vs σ H Q => spD U X.K m f vs H Q (WE W σ)) hl fun ds vs H1 hds e1 dv => ?_
  intro H2 e2 Q q
  refine ⟨by rw [dv.length]; exact hlen ds hds, Z, ds, (t.mono e1).mono e2, dv.mono (ex_view e2 Z), ?_⟩
  cases hr : f ds with
  | ok d => rw [hr] at q; exact fun v H' e' dv' => q v H' e' dv'
  | exc c => rw [hr] at q; exact q
  | bad => rw [hr] at q; exact q
/-- max(xs, default=d) -/
def gMaxd (x y : D) : Res D := match x with
  | .list xs => (ofO (intL xs)).bind fun ns => match ns with
    | [] => .ok y
    | n :: r => .ok (.int (r.foldl max n))
  | _ => .bad
theorem nox_maxd (x y : D) : Nox (gMaxd x y) := by
  cases x <;> first | exact .bad | skip
  refine .bind .ofO fun ns => ?_
  cases ns <;> exact .ok _
theorem alike_ints_all (ns : List Int) : PySem.W.AlikeAll (ns.map .int) := by
  refine ⟨fun x hx y hy => ?_, fun x hx => ?_⟩
  · obtain ⟨i, _, rfl⟩ := List.mem_map.mp hx
    obtain ⟨j, _, rfl⟩ := List.mem_map.mp hy
    simp [PySem.W.alike]
  · obtain ⟨i, _, rfl⟩ := List.mem_map.mp hx
    exact fun z => nomatch z
theorem call_maxd (hc : X.calm = true) (hu : X.A.units + 64 < cLine) : CallRK X (.builtin "max") ["default"] (fun vs zs H Q => ∃ v w x y d, vs = [v] ∧ zs = [w] ∧ Dat U X.K (view H Z) v x ∧ Dat U X.K (view H Z) w y ∧ gMaxd x y = .ok d ∧ Wn U X.K Z H Q d) := by
  intro pins s σ H vs zs us ws Q I rv rz h
  obtain ⟨v, w, x, y, d, rfl, rfl, hx, hy, hg, q⟩ := h
  obtain ⟨u1, rfl, r1⟩ := rv.one
  obtain ⟨u2, rfl, r2⟩ := rz.one
  cases x with
  | list xs =>
    obtain ⟨ns, h0, hg⟩ := bind_ok_inv (show (ofO (intL xs)).bind _ = .ok d from hg)
    have hi := ofO_ok h0
    have hp : dep 1 (.list xs) = true := by
      rw [intL_of hi]
      simp [dep]
    obtain ⟨as, rd⟩ := Dat.reads I hp hx r1
    rw [intL_of hi] at rd
    obtain ⟨l, ys, rfl, k1, k2⟩ := hx.listH
    cases r1
    have hda := PySem.W.depth_ints ns
    cases rd with
    | @list _ o2 vs2 n2 _ as2 g1 g2 g3 g4 =>
      refine PySem.W.max_list_default (vs := vs2) (I.ok.hd hc) ⟨_, g1, g2, _, g3⟩ g4 (alike_ints_all ns) (by rw [hda]; omega) (fun e h' tk k => ?_) (fun z zs i v h' tk bs e hv hr k => ?_)
      · have e' : ns = [] := by simpa using e
        subst e'
        cases ok_inj hg
        exact ⟨_, H, I.kept k, r2, q _ H (Ex.refl H) hy⟩
      · cases ns with
        | nil => cases e
        | cons n r =>
          cases e
          cases ok_inj hg
          rw [PySem.W.maxD_ints] at hr
          cases hr
          exact ⟨.int _, H, I.kept k, ⟨_, rfl⟩, q.int⟩
  | _ => cases hg
theorem y_maxd {kp : Pos} (hc : X.calm = true) (hu : X.A.units + 64 < cLine) (hg : Gl X "max") (hm : X.mg "max" = none) (n : nst a = true) (ha : Yl U W (RE U X.K Z) (Ew X a) σ H ra) (hb : Yl U W (RE U X.K Z) (Ew X b) σ H rb) :
    Yl U W (RE U X.K Z) (Ew X (.Call (.Name "max" p) [a] [⟨some "default", b, kp⟩] pos)) σ H (ra.bind fun x => rb.bind fun y => gMaxd x y) := by
  refine Yl.imp (fun _ _ _ q => ew_of (pe_callBK (call_maxd (U := U) (Z := Z) hc hu) hg hm (by decide +kernel) (pa_cons ew pa_nil (star_cons n)) (pk_cons ew pk_nil) (by decide +kernel) (by decide +kernel) (star_back n) (star_plain (es := [a]) (by simpa using n)) rfl rfl rfl) q) ?_
  exact Yl.two (t1 := Ew X a) (t2 := Ew X b) (tt := fun u w H Q => ∃ v w' x y d, [u] = [v] ∧ [w] = [w'] ∧ Dat U X.K (view H Z) v x ∧ Dat U X.K (view H Z) w' y ∧ gMaxd x y = .ok d ∧ Wn U X.K Z H Q d) re_mono ha hb fun x y u w H1 e1 dx dy => Yl.val (nox_maxd x y) fun z H3 Q hr e3 q => ⟨u, w, x, y, z, rfl, rfl, dx.mono (ex_view e3 Z), dy.mono (ex_view e3 Z), hr, q⟩
/-- list(range(n)) -/
theorem rgV_is (m n : Int) : rgV m n = (List.range (n - m).toNat).map fun (i : Nat) => V.int (m + i) := rfl
theorem datL_rng {K : PySem.W.Frag} (m n : Int) : DatL U K H (rgV m n) (rngD m n) := by
  have h := DatL.of_ints (U := U) (K := K) (H := H) ((List.range (n - m).toNat).map fun (i : Nat) => (m + i : Int))
  rw [List.map_map, List.map_map] at h
  exact h
theorem f_lrg {p2 pos2 : Pos} (hc : X.calm = true) (hg : Gl X "list") (hm : X.mg "list" = none) (hg2 : Gl X "range") (hm2 : X.mg "range" = none) (n : nst a = true) (ha : Yl U W (RE U X.K Z) (Ew X a) σ H ra) :
    Fr U W X.K Z (Ew X (.Call (.Name "list" p) [.Call (.Name "range" p2) [a] [] pos2] [] pos)) σ H (ra.bind fun x => (asInt x).bind fun n => req (decide (0 ≤ n) && decide (n ≤ 100000)) (.ok (.list (rngD 0 n)))) := by
  refine Fr.imp (X := X) (fun _ _ _ q => ew_of (pe_listRg hc hg hm (prg_1 hg2 hm2 ew (star_cons n))) q) ?_
  refine Fr.one (X := X) (t1 := Ew X a) (tt := fun x H1 Q => ∃ n, x = .int n ∧ (RgOk 0 n ∧ ∀ q, H1 q = none → Q (.ref q) (upd H1 q (.lst (rgV 0 n))))) ha fun x u H1 Q e1 dx q => ?_
  cases x with
  | int i =>
    have q : FinF U W X.K Z σ H1 Q (req (decide (0 ≤ i) && decide (i ≤ 100000)) (.ok (.list (rngD 0 i)))) := q
    cases h1 : (decide (0 ≤ i) && decide (i ≤ 100000)) with
    | true =>
      rw [h1] at q
      have h2 : 0 ≤ i ∧ i ≤ 100000 := by simpa using h1
      exact ⟨i, dx.int_inv, RgOk.of_le (by omega) (by omega) (by omega) (by omega), fun p hp => q p _ _ hp (Ex.new hp) upd_same (datL_rng 0 i)⟩
    | false => rw [h1] at q; exact (show False from q).elim
  | _ => exact (show False from q).elim
theorem y_lrg {p2 pos2 : Pos} (hc : X.calm = true) (hg : Gl X "list") (hm : X.mg "list" = none) (hg2 : Gl X "range") (hm2 : X.mg "range" = none) (t : Zt Z H) (n : nst a = true) (ha : Yl U W (RE U X.K Z) (Ew X a) σ H ra) :
    Yl U W (RE U X.K Z) (Ew X (.Call (.Name "list" p) [.Call (.Name "range" p2) [a] [] pos2] [] pos)) σ H (ra.bind fun x => (asInt x).bind fun n => req (decide (0 ≤ n) && decide (n ≤ 100000)) (.ok (.list (rngD 0 n)))) := by
  refine Fr.yl t (fun d h => ?_) (f_lrg hc hg hm hg2 hm2 n ha)
  obtain ⟨x, _, h⟩ := bind_ok_inv h
  obtain ⟨i, _, h⟩ := bind_ok_inv h
  exact ⟨_, (ok_inj (req_ok h).2).symm⟩
/-- other fresh lists: [..] * n, xs[i:j], list(xs) -/
theorem f_mul (t : Zt Z H) (ha : Yl U W (RE U X.K Z) (Ew X a) σ H ra) (hb : Yl U W (RE U X.K Z) (Ew X b) σ H rb) : Fr U W X.K Z (Ew X (.BinOp a .Mult b pos)) σ H (ra.bind fun x => rb.bind fun y => mulD x y) := by
  refine Fr.imp (X := X) (fun _ _ _ q => ew_of (pe_op op_rep ew ew) q) ?_
  refine Fr.one (X := X) (R1 := RE U X.K Z) (t1 := Ew X a) (tt := fun x H1 Q => Ew X b σ H1 fun y H2 => rRep x y H2 Q) ha fun x u H1 Q e1 dx q => ?_
  refine (Fr.one (X := X) (U := U) (W := W) (Z := Z) (t1 := Ew X b) (tt := fun y H2 Q => rRep u y H2 Q) (hb.mono e1) fun y w H2 Q e2 dy q => ?_) H1 (Ex.refl _) Q q
  cases x with
  | list ds =>
    cases y with
    | int k =>
      have q : FinF U W X.K Z σ H2 Q (req (decide (-100000 ≤ k) && decide (k ≤ 100000) && decide (ds.length * k.toNat ≤ lim)) (.ok (.list (List.replicate k.toNat ds).flatten))) := q
      cases h1 : (decide (-100000 ≤ k) && decide (k ≤ 100000) && decide (ds.length * k.toNat ≤ lim)) with
      | true =>
        rw [h1] at q
        have h5 : (-100000 ≤ k ∧ k ≤ 100000) ∧ ds.length * k.toNat ≤ lim := by simpa using h1
        obtain ⟨p, xs, rfl, k1, k2⟩ := (dx.mono (ex_view e2 Z)).listH
        exact ⟨p, k, xs, rfl, dy.int_inv, k1, by omega, by omega, by rw [k2.length]; exact lim_line h5.2, fun z hz => q z _ _ hz (Ex.new hz) upd_same ((k2.mono (ex_view_cons (Ex.new hz) hz)).rep _)⟩
      | false => rw [h1] at q; exact (show False from q).elim
    | _ => exact (show False from q).elim
  | int i =>
    cases y with
    | int k =>
      have q : FinF U W X.K Z σ H2 Q (req (near64 i || near64 k) (.ok (.int (i * k)))) := q
      cases h1 : (near64 i || near64 k) <;> rw [h1] at q <;> exact (show False from q).elim
    | _ => exact (show False from q).elim
  | _ => exact (show False from q).elim
theorem f_sl {lo hi : Option Expr} {p2 : Pos} {r1 r2 : Res (Option Int)} (ha : Yl U W (RC U X.K Z) (Ew X a) σ H ra) (h1 : Yl U W RQ (Ow X lo) σ H r1) (h2 : Yl U W RQ (Ow X hi) σ H r2) :
    Fr U W X.K Z (Ew X (.Subscript a (.Slice lo hi none p2) pos)) σ H (ra.bind fun x => r1.bind fun l => r2.bind fun h => match x with
      | .list xs => .ok (.list (cut xs l h))
      | _ => .bad) := by
  refine Fr.imp (X := X) (fun _ _ _ q => ew_of (pe_slice sl_list ew ow ow) q) ?_
  refine Fr.one (X := X) (R1 := RC U X.K Z) (t1 := Ew X a) (tt := fun x H1 Q => Ow X lo σ H1 fun l H2 => Ow X hi σ H2 fun u H3 => rSlL X.K x l u H3 Q) ha fun x u H1 Q e1 dx q => ?_
  refine (Fr.one (X := X) (U := U) (W := W) (Z := Z) (R1 := RQ) (t1 := Ow X lo) (tt := fun l H2 Q => Ow X hi σ H2 fun h H3 => rSlL X.K u l h H3 Q) (h1.mono e1) fun l l' H2 Q e2 el q => ?_) H1 (Ex.refl _) Q q
  refine (Fr.one (X := X) (U := U) (W := W) (Z := Z) (R1 := RQ) (t1 := Ow X hi) (tt := fun h H3 Q => rSlL X.K u l' h H3 Q) ((h2.mono e1).mono e2) fun h h' H3 Q e3 eh q => ?_) H2 (Ex.refl _) Q q
  cases el
  cases eh
  cases x with
  | list ds =>
    obtain ⟨p, xs, rfl, k1, k2⟩ := (Con.mono e3 (Con.mono e2 dx)).list
    exact ⟨p, xs, rfl, SqL.of k1, fun z hz => q z _ _ hz (Ex.new hz) upd_same ((k2.mono (ex_view_cons (Ex.new hz) hz)).cut _ _)⟩
  | _ => exact (show False from q).elim
theorem f_list (hg : Gl X "list") (hm : X.mg "list" = none) (n : nst a = true) (ha : Yl U W (RE U X.K Z) (Ew X a) σ H ra) : Fr U W X.K Z (Ew X (.Call (.Name "list" p) [a] [] pos)) σ H (ra.bind fun x => bi .list [x]) := by
  refine Fr.imp (X := X) (fun _ _ _ q => ew_of (pe_callTy call_list_of hg hm (by decide +kernel) (pa_cons ew pa_nil (star_cons n)) (by decide +kernel) (by decide +kernel) (star_cons n) rfl) q) ?_
  refine Fr.one (X := X) (R1 := RE U X.K Z) (t1 := Ew X a) (tt := fun x H1 Q => ∃ p ys, [x] = [.ref p] ∧ (SqL X.K H1 p ys ∨ SqT X.K H1 p ys) ∧ ∀ l, H1 l = none → Q (.ref l) (upd H1 l (.lst ys))) ha fun x u H1 Q e1 dx q => ?_
  cases x with
  | list ds =>
    obtain ⟨p, xs, rfl, k1, k2⟩ := dx.listH
    exact ⟨p, xs, rfl, .inl (SqL.of k1), fun z hz => q z _ _ hz (Ex.new hz) upd_same (k2.mono (ex_view_cons (Ex.new hz) hz))⟩
  | tuple ds =>
    obtain ⟨p, xs, rfl, k1, k2⟩ := dx.tupleH
    exact ⟨p, xs, rfl, .inr k1, fun z hz => q z _ _ hz (Ex.new hz) upd_same (k2.mono (ex_view_cons (Ex.new hz) hz))⟩
  | _ => exact (show False from q).elim

/-! ### isinstance -/
def tyD : D → Option String
  | .none => some "NoneType"
  | .bool _ => some "bool"
  | .int _ => some "int"
  | .str _ => some "str"
  | .list _ => some "list"
  | .tuple _ => some "tuple"
  | .dict _ => none
/-- the name x is what isinstance is asked about -/
structure TyIs (U : Ux) (X : Cx) (x : Str) (t : Ty) : Prop where
  val : ∃ (c : V) (cv : Value), (X.mg x = some cv ∨ (X.mg x = none ∧ bootBuiltins x = some cv ∧ x ≠ "__name__")) ∧ ClsV c cv ∧ (∀ d n k, tyD d = some n → isiD d t = .ok k → PySem.W.kitOne X.K (.type n) cv = some k) ∧
    ∀ c' C k, t = .cls k → U.ec c' = some C → ExcC X.K C ∧ PySem.W.kitOne X.K (.ref C) cv = some (below c' k)
theorem call_isiD {t : Ty} {cv : V} {cw : Value} (k1 : ClsV cv cw) (k2 : ∀ d n k, tyD d = some n → isiD d t = .ok k → PySem.W.kitOne X.K (.type n) cw = some k)
    (k3 : ∀ c' C k, t = .cls k → U.ec c' = some C → ExcC X.K C ∧ PySem.W.kitOne X.K (.ref C) cw = some (below c' k)) : CallR X (.builtin "isinstance") (fun vs H Q => ∃ x d k, vs = [x, cv] ∧ Dat U X.K (view H Z) x d ∧ isiD d t = .ok k ∧ Q (.bl k) H) := by
  intro pins s σ H vs us Q I r h
  obtain ⟨x, d, k, rfl, hd, hk, q⟩ := h
  have base : ∀ {n : String}, tyD d = some n → TyX X.K H x (.type n) → wpAny (model X.prog X.w) X.A (call (.builtin "isinstance") us) (EP X pins σ Q) X.xe s := fun {n} e ty =>
    call_isi pins s σ H _ us Q I r ⟨x, cv, .type n, cw, k, rfl, k1, ty, k2 d n k e hk, q⟩
  cases d with
  | none => cases hd.none_inv; exact base rfl (.base .non)
  | bool b => cases hd.bool_inv; exact base rfl (.base (.bl b))
  | int b => cases hd.int_inv; exact base rfl (.base (.int b))
  | str b => cases hd.str_inv; exact base rfl (.base (.str b))
  | list ds =>
    obtain ⟨p, xs, rfl, h1, _⟩ := hd.listH
    exact base rfl (.base (.lst h1))
  | tuple ds =>
    obtain ⟨p, xs, rfl, h1, _⟩ := hd.tupleH
    rcases h1 with h1 | ⟨o, its, n, h1, h2, _⟩
    · rcases h1 with h1 | ⟨o, h1⟩
      · exact base rfl (.base (.tup h1))
      · exact base rfl (.fTuple h1)
    · exact base rfl (.kTuple h1 h2)
  | dict kvs =>
    cases t with
    | cls m =>
      obtain ⟨c, h0, hk⟩ := bind_ok_inv (show (ofO (exnOf kvs)).bind _ = .ok k from hk)
      cases ok_inj hk
      cases exnOf_of (ofO_ok h0)
      have hd2 : ∃ a C, x = .ref a ∧ U.ec c = some C ∧ H a = some (ExT C a) := by
        generalize he : (PyData.dict [(.none, .int (c : Int))] : D) = d at hd
        cases hd with
        | exc hc h =>
          rename_i a C c'
          have e2 : (c' : Int) = (c : Int) := by
            injection he with he
            injection he with h1 h2
            injection h1 with h1 h3
            injection h3 with h3
            exact h3.symm
          have e3 : c' = c := by exact_mod_cast e2
          subst e3
          exact ⟨a, C, rfl, hc, view_ex H Z _ _ h⟩
        | any h hx =>
          obtain ⟨kvs, e, m⟩ := U.xd _ _ _ hx
          rw [← he] at e
          cases e
          exact absurd (show true = false from m) (by decide)
        | _ => cases he
      obtain ⟨a, C, rfl, hc, ha⟩ := hd2
      obtain ⟨E, kk⟩ := k3 c C m rfl hc
      obtain ⟨u1, u2, rfl, r1, r2⟩ := vals2 r
      cases r1
      have e2 := k1.eq r2
      subst e2
      obtain ⟨⟨oe, vs, h1, h2, h3⟩, _⟩ := (show ObjOk X.prog X.w H s.heap a (ExT C a) from I.hok a _ ha)
      have J : PySem.W.InstAt s.heap a oe C none := by
        obtain ⟨oc, od, oda, osl⟩ := oe
        obtain ⟨g1, g2⟩ := h2
        dsimp only at g1 g2 h3
        subst g1 g2 h3
        exact ⟨h1, rfl, rfl, trivial⟩
      exact PySem.W.kia_one (PySem.W.handS_kitx_exc E.hg E.hk E.hs E.hd E.ha E.hn E.ht E.hm) I.kIn J kk (fun z => nomatch z) fun tk => ⟨.bl _, H, I.kept (t' := tk) fun _ _ z => z, rfl, q⟩
    | _ => cases hk
theorem y_isi {x : Str} {p2 : Pos} {t : Ty} (T : TyIs U X x t) (hg : Gl X "isinstance") (hm : X.mg "isinstance" = none) (hgx : Gl X x) (hdb : (x == ("__debug__" : Str)) = false) (n : nst a = true) (ha : Yl U W (RE U X.K Z) (Ew X a) σ H ra) :
    Yl U W (RE U X.K Z) (Ew X (.Call (.Name "isinstance" p) [a, .Name x p2] [] pos)) σ H (ra.bind fun x => (isiD x t).bind fun b => .ok (.bool b)) := by
  obtain ⟨c, cv, hv, k1, k2, k3⟩ := T.val
  have rel : RelV c cv := by cases k1 <;> rfl
  have hn : PE X (.Name x p2) (tC c) := by
    rcases hv with hv | ⟨h1, h2, h3⟩
    · exact pe_glob hgx hv rel hdb
    · exact pe_bltn hgx h1 h2 rel h3 hdb
  refine Yl.imp (fun _ _ _ q => ew_of (pe_callB (call_isiD (Z := Z) k1 k2 k3) hg hm (by decide +kernel) (pa_cons ew (pa_cons hn pa_nil) (star_cons n)) (by decide +kernel) (by decide +kernel) (star_cons n) rfl) q) ?_
  refine Yl.one (t1 := Ew X a) (tt := fun u H Q => ∃ x d k, [u, c] = [x, c] ∧ Dat U X.K (view H Z) x d ∧ isiD d t = .ok k ∧ Q (V.bl k) H) ha fun d u H1 e1 dx => Yl.val (.bind (nox_isi d t) fun _ => .ok _) fun z H3 Q hr e3 q => ?_
  obtain ⟨k, h1, h2⟩ := bind_ok_inv hr
  cases ok_inj h2
  exact ⟨u, d, k, rfl, dx.mono (ex_view e3 Z), h1, q _ _ (Ex.refl _) (.bl _)⟩

/-! ### methods -/
def Mt.nm : Mt → Str
  | .index => "index"
  | .count => "count"
theorem few_ok {env : PySem.Env} {cpos : Pos} {e : Expr} (h : nst e = true) : ((backTo cpos (starEach [e] env)).all (fun x => !x.1) && (backToKw cpos (keywordEach [] env)).all (fun x => x.1.isSome) && decide (([e] : List Expr).length + ([] : List Keyword).length + (if ([] : List Keyword).isEmpty then 0 else 1) < 30)) = true := by
  rw [star_few (es := [e]) (by simpa using h)]
  rfl
theorem y_mt {apos : Pos} (m : Mt) (hu : X.A.units + 64 < cLine) (ns : nsup a = true) (n : nst b = true) (hline : (apos.endLine == pos.line) = true) (ha : Yl U W (RE U X.K Z) (Ew X a) σ H ra) (hl : Yl U W (RL U X.K Z) (Aw X [b]) σ H rl) :
    Yl U W (RE U X.K Z) (Ew X (.Call (.Attribute a m.nm apos) [b] [] pos)) σ H (ra.bind fun x => match x with
      | .list xs => rl.bind fun ds => mt m (.list xs) ds
      | _ => .bad) := by
  have go : Yl U W (RE U X.K Z) (tBM X.K "list" (rMt U X.K Z (mt m)) (Ew X a) (Aw X [b])) σ H (ra.bind fun x => match x with
      | .list xs => rl.bind fun ds => mt m (.list xs) ds
      | _ => .bad) := by
    refine Yl.bind (t := Ew X a) (tb := fun x σ H1 Q => tyV X.K "list" x H1 ∧ Aw X [b] σ H1 fun xs H2 => rMt U X.K Z (mt m) x xs H2 Q) ha fun x u H1 _ e1 dx => ?_
    cases x with
    | list xs =>
      intro H2 e2 Q q
      obtain ⟨p, ys, rfl, h1, h2⟩ := dx.listH
      refine ⟨Or.inl ⟨rfl, _, SqL.of (e2 _ _ h1)⟩, ?_⟩
      refine (Yl.one (U := U) (W := W) (R := RE U X.K Z) (t1 := Aw X [b]) (tt := fun xs H2 Q => rMt U X.K Z (mt m) (.ref p) xs H2 Q) ((hl.mono e1).mono e2) fun ds vs H3 e3 dv => Yl.val (nox_mt m (.list xs) ds) fun z H4 Q hr e4 q => ?_) H2 (Ex.refl _) Q q
      exact ⟨.list xs, ds, z, (dx.mono (ex_view e2 Z)).mono (ex_view (e3.trans e4) Z), dv.mono (ex_view e4 Z), hr, q⟩
    | _ => exact Yl.bad
  cases m with
  | index => exact Yl.imp (fun _ _ _ q => ew_of (pe_bm PySem.F.plainAttrs_list PySem.F.slot_list_index PySem.F.type_list_index (mt_D (U := U) (Z := Z) hu .index) ew aw (attr_base ns) (few_ok n) hline (star_cons n) rfl) q) go
  | count => exact Yl.imp (fun _ _ _ q => ew_of (pe_bm PySem.F.plainAttrs_list PySem.F.slot_list_count PySem.F.type_list_count (mt_D (U := U) (Z := Z) hu .count) ew aw (attr_base ns) (few_ok n) hline (star_cons n) rfl) q) go

/-! ### methods of texts -/
def Ms.nm : Ms → Str
  | .split => "split"
  | .join => "join"
theorem nox_ms (m : Ms) (x : Str) (ds : List D) : Nox (msD m x ds) := by
  unfold msD
  split <;> first
    | exact .bad
    | exact .req (.ok _)
    | exact .bind .ofO fun _ => .req (.ok _)
theorem y_ms {apos : Pos} (m : Ms) (zt : Zt Z H) (ns : nsup a = true) (n : nst b = true) (hline : (apos.endLine == pos.line) = true) (ha : Yl U W (RE U X.K Z) (Ew X a) σ H ra) (hl : Yl U W (RL U X.K Z) (Aw X [b]) σ H rl) :
    Yl U W (RE U X.K Z) (Ew X (.Call (.Attribute a m.nm apos) [b] [] pos)) σ H (ra.bind fun x => match x with
      | .str s => rl.bind fun ds => msD m s ds
      | _ => .bad) := by
  have go : Yl U W (RE U X.K Z) (tBM X.K "str" (rMs U X.K Z (msD m)) (Ew X a) (Aw X [b])) σ H (ra.bind fun x => match x with
      | .str s => rl.bind fun ds => msD m s ds
      | _ => .bad) := by
    refine Yl.bind (t := Ew X a) (tb := fun x σ H1 Q => tyV X.K "str" x H1 ∧ Aw X [b] σ H1 fun xs H2 => rMs U X.K Z (msD m) x xs H2 Q) ha fun x u H1 _ e1 dx => ?_
    cases x with
    | str s =>
      intro H2 e2 Q q
      cases dx.str_inv
      refine ⟨rfl, ?_⟩
      refine (Yl.one (U := U) (W := W) (R := RE U X.K Z) (t1 := Aw X [b]) (tt := fun xs H2 Q => rMs U X.K Z (msD m) (.str s) xs H2 Q) ((hl.mono e1).mono e2) fun ds vs H3 e3 dv => Yl.val (nox_ms m s ds) fun z H4 Q hr e4 q => ?_) H2 (Ex.refl _) Q q
      exact ⟨((((zt.mono e1).mono e2).mono e3).mono e4), s, ds, z, rfl, dv.mono (ex_view e4 Z), hr, q⟩
    | _ => exact Yl.bad
  cases m with
  | split => exact Yl.imp (fun _ _ _ q => ew_of (pe_bm PySem.F.plainAttrs_str PySem.F.slot_str_split PySem.F.type_str_split (ms_D (U := U) (Z := Z) .split) ew aw (attr_base ns) (few_ok n) hline (star_cons n) rfl) q) go
  | join => exact Yl.imp (fun _ _ _ q => ew_of (pe_bm PySem.F.plainAttrs_str PySem.F.slot_str_join PySem.F.type_str_join (ms_D (U := U) (Z := Z) .join) ew aw (attr_base ns) (few_ok n) hline (star_cons n) rfl) q) go

/-! ### what is walked -/
def WalkJ (U : Ux) (K : PySem.W.Frag) (Z : List Addr) (J : It) (H : Hp) (ds : List D) : Prop := ∀ H' Z', Ex (view H Z) (view H' Z') →
  (∀ i, i < ds.length → J.go i H' ∧ ∀ x H'', J.yld i H' x H'' → H'' = H' ∧ ∃ d, ds[i]? = some d ∧ Dat U K (view H' Z') x d) ∧ J.stop ds.length H'
abbrev RI (U : Ux) (K : PySem.W.Frag) (Z : List Addr) : It → List D → Hp → Prop := fun J ds H => WalkJ U K Z J H ds
theorem walk_list {K : PySem.W.Frag} {J : It} {xs : List V} {ds : List D} {l : Addr} (h : view H Z l = some (.lst xs)) (hd : DatL U K (view H Z) xs ds) : WalkJ U K Z (Itl K l) H ds := by
  intro H' Z' e
  have h' : SqL K H' l xs := SqL.of (view_ex H' Z' _ _ (e _ _ h))
  have hl := hd.length
  refine ⟨fun i hi => ⟨⟨xs, xs[i], h', by simp [hl, hi]⟩, fun x H'' y => ?_⟩, ⟨xs, h', by omega⟩⟩
  obtain ⟨e1, y⟩ := y
  obtain ⟨d, h1, h2⟩ := hd.get' (y xs h')
  exact ⟨e1, d, h1, h2.mono e⟩
theorem walk_tup {K : PySem.W.Frag} {J : It} {xs : List V} {ds : List D} {l : Addr} (h : SqT K (view H Z) l xs) (hd : DatL U K (view H Z) xs ds) : WalkJ U K Z (Itt K l) H ds := by
  intro H' Z' e
  have h' : SqT K H' l xs := ex_t (view_ex H' Z') (ex_t e h)
  have hl := hd.length
  refine ⟨fun i hi => ⟨⟨xs, xs[i], h', by simp [hl, hi]⟩, fun x H'' y => ?_⟩, ⟨xs, h', by omega⟩⟩
  obtain ⟨e1, y⟩ := y
  obtain ⟨d, h1, h2⟩ := hd.get' (y xs h')
  exact ⟨e1, d, h1, h2.mono e⟩
theorem walk_str {K : PySem.W.Frag} {x : Str} : WalkJ U K Z (Its x) H (x.cps.toList.map fun c => .str ⟨#[c]⟩) := by
  intro H' Z' e
  rw [List.length_map, Array.length_toList]
  refine ⟨fun i hi => ⟨hi, fun v H'' y => ?_⟩, Nat.le_refl _⟩
  obtain ⟨e1, c, e2, e3⟩ := y
  refine ⟨e1, .str ⟨#[c]⟩, ?_, by rw [e3]; exact .str _⟩
  rw [List.getElem?_map, Array.getElem?_toList, e2]
  rfl
theorem rngD_get {m n : Int} {i : Nat} (h : i < (n - m).toNat) : (rngD m n)[i]? = some (.int (m + i)) := by
  unfold rngD
  rw [List.getElem?_map, List.getElem?_range h]
  rfl
theorem rngD_length (m n : Int) : (rngD m n).length = (n - m).toNat := by unfold rngD; rw [List.length_map, List.length_range]
theorem walk_rng {K : PySem.W.Frag} {m n : Int} : WalkJ U K Z (Itr m (n - m).toNat) H (rngD m n) := by
  intro H' Z' e
  rw [rngD_length]
  refine ⟨fun i hi => ⟨hi, fun x H'' y => ?_⟩, Nat.le_refl _⟩
  obtain ⟨e1, e2⟩ := y
  exact ⟨e1, _, rngD_get hi, by rw [e2]; exact .int _⟩
theorem y_rng1 {tg : Expr} (hg : Gl X "range") (hm : X.mg "range" = none) (n : nst a = true) (ha : Yl U W (RE U X.K Z) (Ew X a) σ H ra) :
    Yl U W (RI U X.K Z) (Iw X tg (.Call (.Name "range" p) [a] [] pos)) σ H (ra.bind fun x => (asInt x).bind fun n => req (decide (-1000000 ≤ n) && decide (n ≤ 1000000)) (.ok (rngD 0 n))) := by
  refine Yl.imp (t := fun σ H R => Ew X a σ H fun v H1 => ∃ j : Int, [v] = [.int j] ∧ -(2 ^ 62) ≤ j ∧ j < 2 ^ 62 ∧ R (Itr 0 j.toNat) H1) (fun _ _ _ q => iw_of (pi_range1 hg hm (pa_cons ew pa_nil (star_cons n)) (by rw [star_cons n]; rfl)) q) ?_
  refine Yl.one (t1 := Ew X a) (tt := fun v H1 R => ∃ j : Int, [v] = [.int j] ∧ -(2 ^ 62) ≤ j ∧ j < 2 ^ 62 ∧ R (Itr 0 j.toNat) H1) ha fun x u H1 e1 dx => Yl.val (.bind (nox_int x) fun _ => .req (.ok _)) fun z H3 Q hr e3 q => ?_
  obtain ⟨j, h1, h2⟩ := bind_ok_inv hr
  obtain ⟨h3, h4⟩ := req_ok h2
  cases ok_inj h4
  have h5 : -1000000 ≤ j ∧ j ≤ 1000000 := by simpa using h3
  cases x with
  | int i =>
    cases ok_inj h1
    cases dx.int_inv
    refine ⟨_, rfl, by omega, by omega, q _ _ (Ex.refl _) ?_⟩
    have w := walk_rng (U := U) (K := X.K) (Z := Z) (H := H3) (m := 0) (n := j)
    rwa [show (j - 0).toNat = j.toNat by omega] at w
  | _ => cases h1
theorem y_rng2 {tg : Expr} (hg : Gl X "range") (hm : X.mg "range" = none) (n : nst a = true) (n2 : nst b = true) (ha : Yl U W (RE U X.K Z) (Ew X a) σ H ra) (hb : Yl U W (RE U X.K Z) (Ew X b) σ H rb) :
    Yl U W (RI U X.K Z) (Iw X tg (.Call (.Name "range" p) [a, b] [] pos)) σ H (ra.bind fun x => (asInt x).bind fun m => rb.bind fun y => (asInt y).bind fun n =>
      req (decide (-1000000 ≤ m) && decide (m ≤ 1000000) && decide (-1000000 ≤ n) && decide (n ≤ 1000000)) (.ok (rngD m n))) := by
  refine Yl.imp (t := fun σ H R => Ew X a σ H fun v H1 => Ew X b σ H1 fun w H2 => ∃ i j : Int, [v, w] = [.int i, .int j] ∧ (-(2 ^ 62) ≤ i ∧ i < 2 ^ 62 ∧ -(2 ^ 62) ≤ j ∧ j < 2 ^ 62) ∧ R (Itr i (j - i).toNat) H2)
    (fun _ _ _ q => iw_of (pi_range2 hg hm (pa_cons ew (pa_cons ew pa_nil (star_cons n2)) (star_cons n)) (by rw [star_cons n, star_cons n2]; rfl) (by rw [star_cons n2]; rfl)) q) ?_
  refine Yl.bind (t := Ew X a) (tb := fun v σ H1 R => Ew X b σ H1 fun w H2 => ∃ i j : Int, [v, w] = [.int i, .int j] ∧ (-(2 ^ 62) ≤ i ∧ i < 2 ^ 62 ∧ -(2 ^ 62) ≤ j ∧ j < 2 ^ 62) ∧ R (Itr i (j - i).toNat) H2) ha fun x u H1 _ e1 dx => ?_
  cases x with
  | int i =>
    show Yl U W (RI U X.K Z) _ σ H1 (rb.bind fun y => (asInt y).bind fun n => req (decide (-1000000 ≤ i) && decide (i ≤ 1000000) && decide (-1000000 ≤ n) && decide (n ≤ 1000000)) (.ok (rngD i n)))
    refine Yl.one (t1 := Ew X b) (tt := fun w H2 R => ∃ i j : Int, [u, w] = [.int i, .int j] ∧ (-(2 ^ 62) ≤ i ∧ i < 2 ^ 62 ∧ -(2 ^ 62) ≤ j ∧ j < 2 ^ 62) ∧ R (Itr i (j - i).toNat) H2) (hb.mono e1) fun y w H2 e2 dy => Yl.val (.bind (nox_int y) fun _ => .req (.ok _)) fun z H3 Q hr e3 q => ?_
    obtain ⟨j, h1, h2⟩ := bind_ok_inv hr
    obtain ⟨h3, h4⟩ := req_ok h2
    cases ok_inj h4
    have h5 : ((-1000000 ≤ i ∧ i ≤ 1000000) ∧ -1000000 ≤ j) ∧ j ≤ 1000000 := by simpa using h3
    cases y with
    | int j' =>
      cases ok_inj h1
      cases dx.int_inv
      cases dy.int_inv
      exact ⟨_, _, rfl, ⟨by omega, by omega, by omega, by omega⟩, q _ _ (Ex.refl _) walk_rng⟩
    | _ => cases h1
  | _ => exact Yl.bad
theorem y_seq {tg : Expr} (ha : Yl U W (RE U X.K Z) (Ew X a) σ H ra) : Yl U W (RI U X.K Z) (Iw X tg a) σ H (ra.bind seqOf) := by
  intro H1 e1 Q q
  cases ra with
  | ok d =>
    cases d with
    | list ds =>
      refine iw_of (pi_list ew) (ha H1 e1 _ ?_)
      intro v H2 e2 dv
      obtain ⟨l, xs, rfl, h1, h2⟩ := dv.list_inv
      exact ⟨l, rfl, ⟨xs, SqL.of (view_ex H2 Z _ _ h1)⟩, q _ _ e2 (walk_list (J := Itl X.K l) h1 h2)⟩
    | tuple ds =>
      refine iw_of (pi_tup ew) (ha H1 e1 _ ?_)
      intro v H2 e2 dv
      obtain ⟨l, xs, rfl, h1, h2⟩ := dv.tuple_inv
      exact ⟨l, rfl, ⟨xs, ex_t (view_ex H2 Z) h1⟩, q _ _ e2 (walk_tup (J := Itt X.K l) h1 h2)⟩
    | str x =>
      cases hl : decide (x.length ≤ lim) with
      | false =>
        have q : FinG U W σ (RI U X.K Z) H1 Q (req (decide (x.length ≤ lim)) (.ok (x.cps.toList.map fun c => .str ⟨#[c]⟩))) := q
        rw [hl] at q
        exact (show False from q).elim
      | true =>
        have q : FinG U W σ (RI U X.K Z) H1 Q (req (decide (x.length ≤ lim)) (.ok (x.cps.toList.map fun c => .str ⟨#[c]⟩))) := q
        rw [hl] at q
        refine iw_of (pi_str ew) (ha H1 e1 _ ?_)
        intro v H2 e2 dv
        cases dv.str_inv
        exact ⟨x, rfl, q _ _ e2 walk_str⟩
    | _ => exact (show False from q).elim
  | exc c =>
    refine iw_of (pi_list ew) (ha H1 e1 _ q)
  | bad => exact (show False from q).elim
end
end Rwl

set_option Elab.async false
set_option linter.all false
set_option maxRecDepth 100000
set_option maxHeartbeats 2000000
/-! Rwl, part Gx: a comprehension whose turns may let an exception out. -/
namespace Rwl
open PySem PySem.Spec PyProof.Rows L2 Evl

section
variable {M : Model} {A : Around} {E : Value → Shared → Prop} {s : Shared} {Zp : Obj → Prop} {base : Heap} {env : PySem.Env} {outer : List PySem.Env} {L L' e : Addr}
theorem note_eq {a b : PySem.Env} (h : a.frame = b.frame) (x : Value) : noteFrame x a = noteFrame x b := by
  unfold noteFrame PySem.frameOf
  rw [h]
/-- noted in another's name: the frame is put ahead of it -/
theorem note_other {Q : Unit → Shared → Prop} (st : HandSPX.Steady Zp) (fr : A.frames = some (env :: outer)) (hf : env.frame = some L) (ne : L' ≠ L) (held : HandSPX.HeldZ base (env :: outer) e Zp L' s.heap)
    (k : ∀ g, HandSPX.HeldZ base (env :: outer) e Zp L g → s.heap.UpToSlots g → Q () { s with heap := g }) : wpAny M A (noteFrame (.ref e) env) Q E s := by
  obtain ⟨g1, g2, g3, oe, vs, T, oT, ts, ge, gz, gd, e1, gT0, gTe, gT, gdT, e3⟩ := held
  unfold noteFrame
  simp only [hf]
  refine wpAny_bind (wpAny_field ge gd e1 ?_)
  have t1 : (Value.ref T != Value.none) = true := by simp
  rw [if_pos t1]
  refine wpAny_bind (wpAny_field gT gdT e3 ?_)
  have t2 : ¬ ((rawInt L' == rawInt L) = true) := by
    simp only [rawInt, beq_iff_eq, Value.int.injEq, not_and]
    intro z
    exact absurd (Int.ofNat_inj.mp z) ne
  rw [if_neg t2]
  refine wpAny_bind (wpAny_setField gT gdT (Array.getElem?_eq_some_iff.mp e3).1 ?_)
  generalize hh : s.heap.update T (Obj.mapFields (·.setIfInBounds 3 Value.none)) = h1
  have oth : ∀ b, b ≠ T → h1.get? b = s.heap.get? b := fun b hb => by rw [← hh]; exact Heap.get?_update_other _ _ (Ne.symm hb)
  have notT : ∀ b o, s.heap.get? b = some o → (∀ vs, o.data ≠ .fields vs) → b ≠ T := fun b o q nf z => by
    rw [z, gT] at q
    cases q
    exact nf ts gdT
  refine HandSPX.wpAny_entryZ (s := { s with heap := h1 }) st fr (Heap.FunFrames.of_keeps (fun b o q nf => ⟨o, (oth b (notT b o q nf)).trans q, rfl⟩) g3) hf ((oth e (Ne.symm gTe)).trans ge)
    (fun b o q => (oth b (fun z => by rw [z, gT0] at q; cases q)).trans (g1 b o q)) g2 gd (Array.getElem?_eq_some_iff.mp e1).1 gz fun g n => ?_
  obtain ⟨n1, n2, n3, n4⟩ := n
  exact k g ⟨n1, g2, n2, n3⟩ fun b o q nf => n4 b o ((oth b (notT b o q nf)).trans q) nf
theorem frames_keep {h h' b' : Heap} : ∀ {l : List PySem.Env}, h.FunFrames base l → (∀ F ∈ frs l, ∀ o, h.get? F = some o → h'.get? F = some o) → (∀ F ∈ frs l, b'.get? F = none) → h'.FunFrames b' l
  | [], _, _, _ => trivial
  | x :: l, q, k, n => by
    obtain ⟨q1, ⟨F, o, q2, _, q4, q5⟩, q6⟩ := q
    have hm : F ∈ frs (x :: l) := List.mem_filterMap.mpr ⟨x, List.mem_cons_self, q2⟩
    have sub : ∀ G ∈ frs l, G ∈ frs (x :: l) := fun G hG => by
      obtain ⟨y, hy, z⟩ := List.mem_filterMap.mp hG
      exact List.mem_filterMap.mpr ⟨y, List.mem_cons_of_mem _ hy, z⟩
    exact ⟨q1, ⟨F, o, q2, n F hm, k F hm o q4, q5⟩, frames_keep q6 (fun G hG => k G (sub G hG)) fun G hG => n G (sub G hG)⟩
end

/-- the block, when what leaves its turns is wished for by W -/
abbrev blkW (X : Cx) (W : WX) (s : Shared) (H : Hp) (scope : Scope) (ce : PySem.Env) (fp : List Addr) : Cx := (X.blk s H scope ce fp).tr [] (XE (X.blk s H scope ce fp) W)
/-- a wish that knows the frame ahead of the block -/
abbrev Wc (W : WX) (σ : L2.St) : WX := fun cls d _ H => W cls d σ H
theorem blkW_takes {X : Cx} {W : WX} {s : Shared} {H : Hp} {scope : Scope} {ce : PySem.Env} {fp : List Addr} : Takes (blkW X W s H scope ce fp) W := by
  rintro u s' ⟨a, B, sI, pins, σ, H', cls, d, e, I, nb, up, sky, na, os, ag, w⟩
  exact ⟨a, B, sI, pins, σ, H', cls, d, e, ⟨I.ok.ofTry, I.os, I.bare, I.base, I.loc, I.cell, I.free, I.freeC, I.pin, I.hok, I.len⟩, nb, up, sky, na, os, ag, w⟩

section
variable {X : Cx} {pins : List (Addr × Obj)} {σ : L2.St} {H : Hp} {W : WX}
/-- what leaves a turn leaves the comprehension -/
theorem blk_out {s3 : Shared} {scope : Scope} {ce : PySem.Env} {fp : List Addr} {use : Option (Value → Sem Unit)} {Qf : Value → Shared → Prop} {acc : Value} (hst : X.stack = X.env :: X.outer) (hf : X.env.frame = some X.env.locals) (tk : Takes X W)
    (I : L2.Inv X pins σ H s3) (hfp : ∀ b ∈ fp, FpOk X pins H b ∧ b < s3.heap.objs.size) (hcl : ce.locals = s3.heap.objs.size) (hcf : ce.frame = X.env.frame) {u : Value} {s' : Shared} (x : XE (X.blk s3 H scope ce fp) (Wc W σ) u s') :
    notedBy (model X.prog X.w) X.A ce (fun e s => compEnds (model X.prog X.w) X.A X.xe use Qf acc ce (.error e) s) u s' := by
  obtain ⟨a, B, sI, pins', σ', H', cls, d, rfl, J, nb, up, sky, na, os, ag, w⟩ := x
  have hfr : X.A.frames = some (X.env :: X.outer) := by rw [I.ok.frames, hst]
  have nL : ce.locals ≠ X.env.locals := by rw [hcl]; exact Nat.ne_of_gt I.lt
  unfold notedBy
  rw [note_eq hcf]
  have sky : Sky B X.stack a (Zc cls d) ce.locals s'.heap := sky
  rw [hst] at sky
  have go : ∀ g, HandSPX.HeldZ B (X.env :: X.outer) a (Zc cls d) X.env.locals g → s'.heap.UpToSlots g → compEnds (model X.prog X.w) X.A X.xe use Qf acc ce (.error (.ref a)) { s' with heap := g } := fun g held up2 => by
    have fails : CompFails (model X.prog X.w) X.A X.xe ce (.ref a) { s' with heap := g } := by
      have J2 := J.landed (s' := { s' with heap := g }) nb held.1 (up.trans up2) os ag
      obtain ⟨m, hn, _⟩ := J2.loc
      refine ⟨m, hn, fun h' m' hn' sb => ?_⟩
      have JX : L2.Inv X pins σ H' sI := I.call' (ch := fp) J.os J.base J.hok J.bare fun b hb => ⟨(hfp b hb).1.2.2.2.1, (hfp b hb).1.2.1, (hfp b hb).1.2.2.2.2.1, (hfp b hb).1.2.2.2.2.2⟩
      have hC0 : H' ce.locals = none := J.free
      have fC : FpOk X pins H' ce.locals := I.fpOk (by rw [hcl]; exact Nat.le_refl _) hC0
      have nfr : ce.locals ∉ frs (X.env :: X.outer) := fun hm => by
        obtain ⟨y, hy, z⟩ := List.mem_filterMap.mp hm
        rcases List.mem_cons.mp hy with rfl | hy
        · rw [hf] at z
          exact nL (Option.some.inj z).symm
        · exact fC.2.2.1 (List.mem_filterMap.mpr ⟨y, hy, z⟩)
      have frNe : ∀ F ∈ frs (X.env :: X.outer), F ≠ ce.locals := fun F hF z => nfr (by rw [← z]; exact hF)
      have cls0 : ∃ o, sI.heap.get? ce.locals = some o := by
        obtain ⟨m0, ⟨o, es, ep, ho, r⟩, _⟩ := J.loc
        exact ⟨o, ho⟩
      have aC : a ≠ ce.locals := fun z => by
        obtain ⟨o, ho⟩ := cls0
        have q := nb ce.locals o ho (by show ce.locals ∉ frs X.stack; rw [hst]; exact nfr)
        have q2 := held.2.1
        rw [z, q] at q2
        cases q2
      -- without the block's own names
      generalize hs2 : ({ sI with heap := PySem.W.hideAll sI.heap [ce.locals] } : Shared) = sI2
      have hid : ∀ b o, sI2.heap.get? b = some o → sI.heap.get? b = some o ∧ b ≠ ce.locals := fun b o q => by
        rw [← hs2] at q
        refine ⟨PySem.W.of_hideAll _ q, fun z => ?_⟩
        have n := PySem.W.hideAll_none (h := sI.heap) [ce.locals] (b := ce.locals) (List.mem_singleton_self _)
        rw [z] at q
        exact absurd (show (PySem.W.hideAll sI.heap [ce.locals]).get? ce.locals = some o from q) (by rw [n]; exact fun z => nomatch z)
      have JX2 : L2.Inv X pins σ H' sI2 := by
        rw [← hs2]
        exact JX.turned (t' := sI.toks) (fun b o hb q => PySem.W.hideAll_get _ q (by simpa using hb)) fC.1 fC.2.1 fC.2.2.2.1 fC.2.2.2.2.1 fC.2.2.2.2.2
      have hidB : ∀ b o, (PySem.W.hideAll B [ce.locals]).get? b = some o → B.get? b = some o ∧ b ≠ ce.locals := fun b o q => by
        refine ⟨PySem.W.of_hideAll _ q, fun z => ?_⟩
        have n := PySem.W.hideAll_none (h := B) [ce.locals] (b := ce.locals) (List.mem_singleton_self _)
        rw [z, n] at q
        cases q
      have same : ∀ b, b ≠ ce.locals → h'.get? b = g.get? b := fun b hb => sb.2 b hb
      obtain ⟨k1, k2, k3, oe, vs, T, oT, ts, ge, gz, gd, e1, gT0, gTe, gT, gdT, e3⟩ := held
      have TC : T ≠ ce.locals := fun z => by
        obtain ⟨o, ho⟩ := cls0
        have q := nb ce.locals o ho (by show ce.locals ∉ frs X.stack; rw [hst]; exact nfr)
        rw [z, q] at gT0
        cases gT0
      have noneB : ∀ b, B.get? b = none → (PySem.W.hideAll B [ce.locals]).get? b = none := fun b q => by
        cases hq : (PySem.W.hideAll B [ce.locals]).get? b with
        | none => rfl
        | some o => rw [(hidB b o hq).1] at q; cases q
      have held2 : HandSPX.HeldZ (PySem.W.hideAll B [ce.locals]) (X.env :: X.outer) a (Zc cls d) X.env.locals h' := by
        refine ⟨fun b o q => ?_, noneB a k2, frames_keep k3 (fun F hF o q => (same F (frNe F hF)).trans q) (fun F hF => ?_), oe, vs, T, oT, ts, (same a aC).trans ge, gz, gd, e1, noneB T gT0, gTe, (same T TC).trans gT, gdT, e3⟩
        · obtain ⟨q1, q2⟩ := hidB b o q
          exact (same b q2).trans (k1 b o q1)
        · exact noneB F (k3.mem hF).1
      have fin : wpAny (model X.prog X.w) X.A (setFlight (.ref a) (some X.env.locals)) (fun _ s4 => wpAny (model X.prog X.w) X.A (throw (.ref a) : Sem Value) (fun _ _ => False) X.xe s4) X.xe { s' with heap := h' } := by
        refine HandSPX.setFlight_onZ held2 fun h4 held4 up4 => wpAny_throw (tk _ _ ?_)
        refine ⟨a, PySem.W.hideAll B [ce.locals], sI2, pins, σ, H', cls, d, rfl, JX2, fun b o q nf => ?_, fun b o q nf => ?_, .inr (.inr (by rw [hst]; exact held4)), na, os.trans (by rw [← hs2]), ag, w⟩
        · obtain ⟨q1, q2⟩ := hid b o q
          exact PySem.W.hideAll_get _ (nb b o q1 nf) (by simpa using q2)
        · obtain ⟨q1, q2⟩ := hid b o q
          obtain ⟨sl, r1⟩ := up b o q1 nf
          obtain ⟨sl2, r2⟩ := up2 b _ r1 nf
          obtain ⟨sl3, r3⟩ := up4 b _ ((same b q2).trans r2) nf
          exact ⟨sl3, r3⟩
      unfold PySem.passOn
      refine wpAny_bind (wpAny_field ((same a aC).trans ge) gd e1 ?_)
      have t1 : ¬ ((Value.ref T == Value.none) = true) := by simp
      rw [if_neg t1, hcf, hf]
      first
        | exact wpAny_bind (wpAny_pure (wpAny_bind fin))
        | exact wpAny_bind fin
    cases use <;> exact fails
  rcases sky with ⟨q1, q2, q3, oe, vs, q4, q5, q6, q7⟩ | fl | hh
  · exact HandSPX.look_newZ Zc.steady hfr q3 hf q4 q1 q2 q6 q7 q5 go
  · exact HandSPX.looks_onZ Zc.steady hfr hf fl go
  · exact note_other Zc.steady hfr hf nL hh go
/-- the comprehension's run: as the kit's, but what leaves a turn goes on -/
theorem lc_run {s : Shared} {Q : VK} {elt tg iter : Expr} {ifs : List Expr} {scope : Scope} {own : List (Str × Nat)} {pos pos' : Pos} {wi : TI} {gt : TG} {tt : TT} {te : TE} {use : Option (Value → Sem Unit)} {Qf : Value → Shared → Prop}
    (hcalm : X.calm = true) (hst : X.stack = X.env :: X.outer) (hf : X.env.frame = some X.env.locals) (tk : Takes X W) (nodup : X.N.Nodup) (I : L2.Inv X pins σ H s) (hi : PI X tg iter wi) (bo : BlkOk X.N X.env.scope scope own)
    (tgo : ∀ (s : Shared) (H : Hp) (C : Addr) (cl : List (Str × Addr)) (fp : List Addr), PG (blkW X (Wc W σ) s H scope (compEnvC scope cl C X.env) fp) tg gt)
    (tto : ∀ (s : Shared) (H : Hp) (C : Addr) (cl : List (Str × Addr)) (fp : List Addr), PTs (blkW X (Wc W σ) s H scope (compEnvC scope cl C X.env) fp) ifs tt)
    (teo : ∀ (s : Shared) (H : Hp) (C : Addr) (cl : List (Str × Addr)) (fp : List Addr), PE (blkW X (Wc W σ) s H scope (compEnvC scope cl C X.env) fp) elt te)
    (hfold : ∀ x, foldedSetIterable iter X.env x = pure x) (h : tLc wi gt tt te (own.map (·.2)) σ H Q)
    (fin : ∀ D ce s' m H', L2.Inv X pins σ H' s' → Q (.ref D) H' → s'.heap.Ns ce.locals m → FpOk X pins H' ce.locals → compEnds (model X.prog X.w) X.A X.xe use Qf (.ref D) ce (.ok .next) s') :
    wpAny (model X.prog X.w) X.A (comprehension (.ListComp elt [⟨tg, iter, ifs, 0⟩] scope pos) scope X.env pos' (newList []) false (eval iter X.env) use) Qf X.xe s := by
  have cells : ∀ y ∈ scope.names, y.2 = .free → ∃ c, X.env.cells.lookup y.1 = some c := fun y hy e => I.ok.has _ ((bo.free y hy e).imp id id)
  refine comprehension_at (use := use) rfl hfold (closure_ok cells) bo.kind (fun y hy e => (bo.uniq y hy).trans (congrArg some e)) ?_
  refine thn (hi.run pins s σ H _ I h) fun xv s1 hx => thn hx fun itv s2 h2 => ?_
  obtain ⟨it, fp, tn, J, H2, e, I2, T, st2, f2, q⟩ := h2
  cases e
  refine wpAny_newObj_type (newEnv_comp ?_) (Nat.zero_le _)
  generalize hD : s2.heap.objs.size = D
  obtain ⟨Wl, ⟨m0, w0⟩, turn⟩ := q D (I2.hok.fresh (Nat.le_of_eq hD))
  generalize hs3 : ({ s2 with heap := s2.heap.push { cls := .type "list", data := .seq ([] : List Value).toArray } } : Shared) = s3
  have h3 : s3.heap = s2.heap.push { cls := .type "list", data := .seq ([] : List Value).toArray } := by rw [← hs3]
  have I3 : L2.Inv X pins σ (upd H2 D (.lst [])) s3 := by
    rw [← hs3]
    refine I2.laid (t' := s2.toks) (fun b o e => Heap.get?_push_of_some _ e) (Nat.le_of_eq hD) ⟨Nat.zero_le _, [], 0, .nil, ?_⟩
    rw [← hD]
    exact Heap.get?_push_size _ rfl
  have f3 : ∀ b ∈ fp, FpOk X pins (upd H2 D (.lst [])) b ∧ b < s3.heap.objs.size := fun b hb => by
    obtain ⟨o, e, _⟩ := T.obj _ _ st2 b hb
    have lt2 := Heap.lt_size e
    refine ⟨⟨(upd_ne (by rw [← hD]; exact Nat.ne_of_lt lt2)).trans (f2 b hb).1, (f2 b hb).2⟩, ?_⟩
    rw [h3, Heap.size_push]
    exact Nat.lt_succ_of_lt lt2
  have st3 : tn 0 s3.heap := T.keep _ _ _ st2 fun b _ o e => (congrArg (fun h => h.get? b) h3).trans (Heap.get?_push_of_some _ e)
  have I4a := block_start I3 bo nodup f3
  have pg := tgo s3 (upd H2 D (.lst [])) s3.heap.objs.size (cellsFrom (s3.heap.objs.size + 1) scope.names (cloFrom X.env.cells scope.names [])) fp
  have pt := tto s3 (upd H2 D (.lst [])) s3.heap.objs.size (cellsFrom (s3.heap.objs.size + 1) scope.names (cloFrom X.env.cells scope.names [])) fp
  have pe := teo s3 (upd H2 D (.lst [])) s3.heap.objs.size (cellsFrom (s3.heap.objs.size + 1) scope.names (cloFrom X.env.cells scope.names [])) fp
  show codeAny _ _ (.compStart (.ListComp elt [⟨tg, iter, ifs, 0⟩] scope pos) 0 (.ref it) (.ref D) (compEnvC scope (cellsFrom (s3.heap.objs.size + 1) scope.names (cloFrom X.env.cells scope.names [])) s3.heap.objs.size X.env))
    (compEnds (model X.prog X.w) X.A X.xe use Qf (.ref D) (compEnvC scope (cellsFrom (s3.heap.objs.size + 1) scope.names (cloFrom X.env.cells scope.names [])) s3.heap.objs.size X.env)) { s3 with heap := pushCells (s3.heap.push { cls := .type "dict", data := .dict #[] }) scope.names }
  generalize hce : compEnvC scope (cellsFrom (s3.heap.objs.size + 1) scope.names (cloFrom X.env.cells scope.names [])) s3.heap.objs.size X.env = ce at I4a pg pt pe ⊢
  have cL : ce.locals = s3.heap.objs.size := by rw [← hce]; rfl
  have cF : ce.frame = X.env.frame := by rw [← hce]; rfl
  have nfp : ∀ b ∈ fp, (upd H2 D (.lst [])) b = none := fun b hb => (f3 b hb).1.1
  generalize hH3 : upd H2 D (.lst []) = H3 at I3 I4a pg pt pe w0 nfp f3
  generalize hs4 : ({ s3 with heap := pushCells (s3.heap.push { cls := .type "dict", data := .dict #[] }) scope.names } : Shared) = s4 at I4a ⊢
  have st4 : tn 0 s4.heap := T.keep _ _ _ st3 fun b _ o e => by rw [← hs4]; exact pushCells_keeps _ _ _ _ (Heap.get?_push_of_some _ e)
  have out : ∀ {u : Value} {s' : Shared}, XE (X.blk s3 H3 scope ce fp) (Wc W σ) u s' → notedBy (model X.prog X.w) X.A ce (fun e s => compEnds (model X.prog X.w) X.A X.xe use Qf (.ref D) ce (.error e) s) u s' := fun x =>
    blk_out hst hf tk I3 f3 cL cF x
  have I4 : L2.Inv (blkW X (Wc W σ) s3 H3 scope ce fp) [] (L2.wipe σ (own.map (·.2))) H3 s4 := I4a.toTry _
  clear I4a
  generalize hB : blkW X (Wc W σ) s3 H3 scope ce fp = B at I4 pg pt pe
  have b1 : B.prog = X.prog := by rw [← hB]
  have stat : ∀ {σ' : L2.St} {H' : Hp} {s' : Shared}, L2.Inv (blkW X (Wc W σ) s3 H3 scope ce fp) [] σ' H' s' → (∀ b ∈ fp, H' b = none) → ∀ b ∈ fp, FpOk (blkW X (Wc W σ) s3 H3 scope ce fp) [] H' b := fun {σ' H' s'} I' hn b hb =>
    ⟨hn b hb, (I'.ok.exf b hb).1, I'.ok.exfs b hb, Or.inl hb, fun x c e => (I'.ok.exf b hb).2 x c e, fun p hp => absurd (show p ∈ ([] : List (Addr × Obj)) ++ [] from hp) (by simp)⟩
  subst hB
  have loop : codeAny (model X.prog X.w) X.A (.compLoop (.ListComp elt [⟨tg, iter, ifs, 0⟩] scope pos) 0 (.ref it) (.ref D) ce) (compEnds (model X.prog X.w) X.A X.xe use Qf (.ref D) ce) s4 := by
    refine compLoop_any (fun n s' => ∃ i H', L2.Inv (blkW X (Wc W σ) s3 H3 scope ce fp) [] (L2.wipe σ (own.map (·.2))) H' s' ∧ tn i s'.heap ∧ (∀ b ∈ fp, H' b = none) ∧ Wl i n H') (fun n s5 hI => ?_) m0 ⟨0, H3, I4, st4, nfp, w0⟩
    obtain ⟨i, H5, I5, st5, n5, w5⟩ := hI
    rcases turn i n H5 w5 with ⟨stop, qq⟩ | ⟨go, Nx, hNx, step⟩
    · refine thnF (T.done (blkW X (Wc W σ) s3 H3 scope ce fp) rfl rfl rfl hcalm i [] s5 _ H5 (fun _ _ => False) I5 (stat I5 n5) st5 stop) fun r s6 hr6 => ?_
      obtain ⟨rfl, I6⟩ := hr6
      have I7 : L2.Inv X pins σ H5 s6 := I3.call' (ch := fp) I6.os I6.base I6.hok I6.bare fun b hb => ⟨(f3 b hb).1.2.2.2.1, (f3 b hb).1.2.1, (f3 b hb).1.2.2.2.2.1, (f3 b hb).1.2.2.2.2.2⟩
      obtain ⟨m, hn, _⟩ := I6.loc
      exact fin D ce s6 m H5 I7 qq hn (I3.fpOk (by rw [cL]; exact Nat.le_refl _) I6.free)
    · refine thnF (T.item (blkW X (Wc W σ) s3 H3 scope ce fp) rfl rfl rfl hcalm i [] s5 _ H5 (fun _ _ => False) I5 (stat I5 n5) st5 go) fun r s6 hr6 => ?_
      obtain ⟨u, rfl, h6⟩ := hr6
      refine thnF h6 fun _ s7 h7 => ?_
      obtain ⟨x, H7, I7, r7, y7, st7, n7⟩ := h7
      have I7p := I7.pinned (stat I7 n7) (T.obj _ _ st7)
      refine wpAny_mono (pg.run _ s7 _ H7 x u _ I7p r7 (step x H7 y7)) (fun _ s8 h8 => ?_) fun _ _ z => out z
      obtain ⟨σ8, H8, I8, hw8, q8⟩ := h8
      refine wpAny_mono (pt.run _ s8 σ8 H8 _ I8 q8) (fun b s9 h9 => ?_) fun _ _ z => out z
      obtain ⟨H9, I9, q9⟩ := h9
      have next : ∀ {s' : Shared} {H' : Hp}, L2.Inv (blkW X (Wc W σ) s3 H3 scope ce fp) ([] ++ pinsAt fp s7.heap) σ8 H' s' → Nx H' →
          ∃ m, m < n ∧ ∃ i H', L2.Inv (blkW X (Wc W σ) s3 H3 scope ce fp) [] (L2.wipe σ (own.map (·.2))) H' s' ∧ tn i s'.heap ∧ (∀ b ∈ fp, H' b = none) ∧ Wl i m H' := fun {s' H'} I' nx => by
        obtain ⟨m', hm, w'⟩ := hNx H' nx
        have pinned : ∀ b ∈ fp, ∀ o, s7.heap.get? b = some o → s'.heap.get? b = some o ∧ H' b = none := fun b hb o e =>
          ⟨(I'.pin (b, o) (List.mem_append_right _ (List.mem_append_right _ (mem_pinsAt hb e)))).1, (I'.pin (b, o) (List.mem_append_right _ (List.mem_append_right _ (mem_pinsAt hb e)))).2.1⟩
        have hl : (L2.wipe σ (own.map (·.2))).length = σ8.length := by rw [← hw8, L2.wipe_length]
        refine ⟨m', hm, i + 1, H', (I'.unpinned (pins := [])).weak hl (fun j v e => (L2.wipe_some (by rw [hw8]; exact e)).1), T.keep _ _ _ st7 fun b hb o e => (pinned b hb o e).1, fun b hb => ?_, w'⟩
        obtain ⟨o, e, _⟩ := T.obj _ _ st7 b hb
        exact (pinned b hb o e).2
      cases b with
      | false =>
        rw [if_neg Bool.false_ne_true] at q9 ⊢
        exact next I9 q9
      | true =>
        rw [if_pos rfl] at q9 ⊢
        refine wpAny_mono (pe.run _ s9 σ8 H9 _ I9 q9) (fun z s10 h10 => ?_) fun _ _ z => out z
        obtain ⟨yv, H10, I10, r10, acc, hD10, hz10, nx⟩ := h10
        exact app_ok (X := blkW X (Wc W σ) s3 H3 scope ce fp) I10 hD10 hz10 r10 fun s11 I11 => next I11 nx
  exact codeAny_compStart_list loop (T.self X.A 0 _ _ _ st4 loop)
/-- its reading: what the turns come to may know the frame ahead -/
def tLcX (wi : TI) (g : TG) (tt : L2.St → TT) (te : L2.St → TE) (vs : List Nat) : TE := fun σ H Q => tLc wi g (tt σ) (te σ) vs σ H Q
theorem pe_lcX {elt tg iter : Expr} {ifs : List Expr} {scope : Scope} {own : List (Str × Nat)} {pos : Pos} {wi : TI} {gt : TG} {tt : L2.St → TT} {te : L2.St → TE}
    (hcalm : X.calm = true) (hst : X.stack = X.env :: X.outer) (hf : X.env.frame = some X.env.locals) (tk : Takes X W) (nodup : X.N.Nodup) (hi : PI X tg iter wi) (bo : BlkOk X.N X.env.scope scope own)
    (tgo : ∀ (σ : L2.St) (s : Shared) (H : Hp) (C : Addr) (cl : List (Str × Addr)) (fp : List Addr), PG (blkW X (Wc W σ) s H scope (compEnvC scope cl C X.env) fp) tg gt)
    (tto : ∀ (σ : L2.St) (s : Shared) (H : Hp) (C : Addr) (cl : List (Str × Addr)) (fp : List Addr), PTs (blkW X (Wc W σ) s H scope (compEnvC scope cl C X.env) fp) ifs (tt σ))
    (teo : ∀ (σ : L2.St) (s : Shared) (H : Hp) (C : Addr) (cl : List (Str × Addr)) (fp : List Addr), PE (blkW X (Wc W σ) s H scope (compEnvC scope cl C X.env) fp) elt (te σ))
    (hfold : ∀ x, foldedSetIterable iter X.env x = pure x) : PE X (.ListComp elt [⟨tg, iter, ifs, 0⟩] scope pos) (tLcX wi gt tt te (own.map (·.2))) := by
  refine ⟨fun pins s σ H Q I h => ?_⟩
  rw [eval_ListComp]
  refine lc_run hcalm hst hf tk nodup I hi bo (tgo σ) (tto σ) (teo σ) hfold h fun D ce s' m H' I' q hn fo => ?_
  obtain ⟨p0, p1, p2, p3, p4, p5⟩ := fo
  exact ⟨m, hn, fun h'' sb => ⟨.ref D, H', I'.turned (t' := s'.toks) (fun b o hb e => (sb.2 b hb).trans e) p0 p1 p3 p4 p5, rfl, q⟩⟩
theorem ps_lcX {i : Nat} {y : Str} {py : Pos} {elt tg iter : Expr} {ifs : List Expr} {scope : Scope} {own : List (Str × Nat)} {pos spos : Pos} {wi : TI} {gt : TG} {tt : L2.St → TT} {te : L2.St → TE}
    (hcalm : X.calm = true) (hst : X.stack = X.env :: X.outer) (hf : X.env.frame = some X.env.locals) (tk : Takes X W) (nodup : X.N.Nodup) (hy : X.N[i]? = some y) (hyl : X.env.scope.names.lookup y = some .local)
    (hsw : swapsWith (.ListComp elt [⟨tg, iter, ifs, 0⟩] scope pos) (some (.Name y py)) spos.line X.env = pure true) (hi : PI X tg iter wi) (bo : BlkOk X.N X.env.scope scope own)
    (tgo : ∀ (σ : L2.St) (s : Shared) (H : Hp) (C : Addr) (cl : List (Str × Addr)) (fp : List Addr), PG (blkW X (Wc W σ) s H scope (compEnvC scope cl C X.env) fp) tg gt)
    (tto : ∀ (σ : L2.St) (s : Shared) (H : Hp) (C : Addr) (cl : List (Str × Addr)) (fp : List Addr), PTs (blkW X (Wc W σ) s H scope (compEnvC scope cl C X.env) fp) ifs (tt σ))
    (teo : ∀ (σ : L2.St) (s : Shared) (H : Hp) (C : Addr) (cl : List (Str × Addr)) (fp : List Addr), PE (blkW X (Wc W σ) s H scope (compEnvC scope cl C X.env) fp) elt (te σ))
    (hfold : ∀ x, foldedSetIterable iter X.env x = pure x) : PS X (.Assign [.Name y py] (.ListComp elt [⟨tg, iter, ifs, 0⟩] scope pos) spos) (tAsg (tLcX wi gt tt te (own.map (·.2))) (gName i)) := by
  refine ⟨fun pins s σ H D I h => ?_⟩
  rw [exec_Assign_Name_used _ _ _ _ hsw]
  refine wpAny_bind (wpAny_standAt (wpAny_bind ?_))
  have h : tLc wi gt (tt σ) (te σ) (own.map (·.2)) σ H (fun x H1 => gName i x σ H1 D.nx) := h
  refine wpAny_bind (thn (lc_run (Qf := fun _ s' => SP X pins D .next s') (use := some (assign (.Name y py) X.env)) hcalm hst hf tk nodup I hi bo (tgo σ) (tto σ) (teo σ) hfold h fun L ce s' m H' I' q hn fo => ?_) fun _ s' hq => wpAny_pure (wpAny_pure hq))
  show wpAny (model X.prog X.w) X.A (assign (.Name y py) X.env (.ref L)) _ X.xe s'
  obtain ⟨p0, p1, p2, p3, p4, p5⟩ := fo
  refine wpAny_assign_Name (store_ok2 (v := V.ref L) I' nodup hy (.inl hyl) rfl (fun s2 I2 k2 => ?_) (.inr hyl))
  obtain ⟨a, sb, ha⟩ := k2
  have neq : ce.locals ≠ a := by
    rcases ha with z | z
    · rw [z]; exact p1
    · exact fun e => p4 y a z e.symm
  exact ⟨m, hn.sameBut sb neq, fun h3 sb3 => ⟨_, H', I2.turned (t' := s2.toks) (fun b o hb e => (sb3.2 b hb).trans e) p0 p1 p3 p4 p5, q⟩⟩
end
end Rwl

set_option Elab.async false
set_option linter.all false
set_option maxRecDepth 100000
set_option maxHeartbeats 1000000
/-! Rwl, part H: targets, comprehensions, try. -/
namespace Rwl
open PySem PySem.Spec PyProof.Rows L2 Evl

/-! ### targets -/
def gNames : List Nat → TGs
  | [] => gNil
  | i :: is => gCons (gName i) (gNames is)
def Tg.g (K : PySem.W.Frag) (t : Tg) : TG := match t.many with
  | false => match t.is with
    | [i] => gName i
    | _ => fun _ _ _ _ => False
  | true => gTup K t.is.length (gNames t.is)
theorem wipe_get (σ : L2.St) (j : Nat) : ∀ vs : List Nat, (L2.wipe σ vs)[j]? = if j ∈ vs ∧ j < σ.length then some none else σ[j]?
  | [] => by simp [L2.wipe]
  | v :: vs => by
    have ih := wipe_get σ j vs
    have hl := L2.wipe_length σ vs
    show ((L2.wipe σ vs).set v none)[j]? = _
    rw [List.getElem?_set, hl]
    by_cases hv : v = j
    · subst hv
      rw [if_pos rfl]
      by_cases hj : v < σ.length
      · rw [if_pos hj, if_pos ⟨List.mem_cons_self, hj⟩]
      · rw [if_neg hj, if_neg (fun z => hj z.2), List.getElem?_eq_none (by omega)]
    · rw [if_neg hv, ih]
      by_cases hj : j ∈ vs ∧ j < σ.length
      · rw [if_pos hj, if_pos ⟨List.mem_cons_of_mem _ hj.1, hj.2⟩]
      · rw [if_neg hj, if_neg (fun z => hj ⟨(List.mem_cons.mp z.1).resolve_left (fun e => hv e.symm), z.2⟩)]
theorem wipe_set {σ : L2.St} {i : Nat} {x : Option V} {vs : List Nat} (h : i ∈ vs) : L2.wipe (σ.set i x) vs = L2.wipe σ vs := by
  apply List.ext_getElem?
  intro j
  rw [wipe_get, wipe_get, List.length_set]
  by_cases hj : j ∈ vs ∧ j < σ.length
  · rw [if_pos hj, if_pos hj]
  · rw [if_neg hj, if_neg hj]
    by_cases e : i = j
    · subst e
      have hn : ¬ i < σ.length := fun z => hj ⟨h, z⟩
      rw [List.getElem?_eq_none (by rw [List.length_set]; omega), List.getElem?_eq_none (by omega)]
    · rw [List.getElem?_set_ne e]
theorem wipe_wipe (σ : L2.St) (vs : List Nat) : L2.wipe (L2.wipe σ vs) vs = L2.wipe σ vs := by
  apply List.ext_getElem?
  intro j
  rw [wipe_get, wipe_get, L2.wipe_length]
  by_cases hj : j ∈ vs ∧ j < σ.length
  · rw [if_pos hj, if_pos hj]
  · rw [if_neg hj]
section
variable {U : Ux} {K : PySem.W.Frag} {Y Z : List Addr} {H : Hp} {vs : List V} {ds : List D} {Q : L2.St → Hp → Prop}
theorem g_names (own : List Nat) : ∀ {is : List Nat} {vs : List V} {ds : List D} {σ : L2.St} {env env' : Env}, EnvOk U K Y Z H σ env → DatL U K (view H Z) vs ds → bindT env is ds = .ok env' → (∀ i ∈ is, i ∈ own ∨ own = []) →
    (∀ σ', EnvOk U K Y Z H σ' env' → (own ≠ [] → L2.wipe σ' own = L2.wipe σ own) → Q σ' H) → gNames is vs σ H Q
  | [], _, _, _, _, _, h, hd, he, _, k => by
    cases hd with
    | nil =>
      cases ok_inj he
      exact ⟨rfl, k _ h fun _ => rfl⟩
    | cons _ _ => cases he
  | i :: is, _, _, _, _, _, h, hd, he, ho, k => by
    cases hd with
    | nil => cases he
    | cons h1 h2 =>
      refine ⟨_, _, rfl, ?_⟩
      refine g_names own (h.set i h1) h2 he (fun j hj => ho j (List.mem_cons_of_mem _ hj)) fun σ' h' hw => k σ' h' fun hn => ?_
      rw [hw hn]
      exact wipe_set ((ho i List.mem_cons_self).resolve_right hn)
theorem g_run (own : List Nat) {t : Tg} {v : V} {d : D} {σ : L2.St} {env env' : Env} (h : EnvOk U K Y Z H σ env) (hd : Dat U K (view H Z) v d) (he : t.run env d = .ok env') (ho : ∀ i ∈ t.is, i ∈ own ∨ own = [])
    (k : ∀ σ', EnvOk U K Y Z H σ' env' → (own ≠ [] → L2.wipe σ' own = L2.wipe σ own) → Q σ' H) : t.g K v σ H Q := by
  obtain ⟨m, is⟩ := t
  cases m with
  | false =>
    match is, he, ho with
    | [i], he, ho =>
      cases ok_inj he
      exact k _ (h.set i hd) fun hn => wipe_set ((ho i List.mem_cons_self).resolve_right hn)
  | true =>
    cases d with
    | tuple ds =>
      obtain ⟨a, xs, rfl, h1, h2⟩ := hd.tupleH
      have hl : ds.length = is.length := by
        have : ∀ {is : List Nat} {ds : List D} {env env' : Env}, bindT env is ds = .ok env' → ds.length = is.length := by
          intro is
          induction is with
          | nil => intro ds env env' e; cases ds with
            | nil => rfl
            | cons _ _ => cases e
          | cons i is ih => intro ds env env' e; cases ds with
            | nil => cases e
            | cons d ds => exact congrArg (· + 1) (ih e)
        exact this he
      exact ⟨a, xs, rfl, h1, by rw [h2.length]; exact hl, g_names own h h2 he ho k⟩
    | _ => cases he
end

/-! ### comprehensions -/
/-- a turn's element, with what leaves it -/
def Ebl (X : Cx) (W : WX) (scope : Scope) (e : Expr) (σ : L2.St) : TE := fun σ2 H Q => ∀ s H0 C cl fp, Ew (blkW X (Wc W σ) s H0 scope (compEnvC scope cl C X.env) fp) e σ2 H Q
/-- tests: none, or one -/
def Pw (X : Cx) (ifs : List Expr) : TT := fun σ H Q => ∀ pins s, L2.Inv X pins σ H s → wpAny (model X.prog X.w) X.A (forIn ifs true fun c r => if r = true then do let ok ← isTrue c X.env (eval c X.env); pure (ForInStep.yield ok) else pure (ForInStep.yield r)) (TP X pins σ Q) X.xe s
theorem pw {X : Cx} {ifs : List Expr} : PTs X ifs (Pw X ifs) := ⟨fun pins s _ _ _ I h => h pins s I⟩
theorem pw_of {X : Cx} {ifs : List Expr} {t : TT} {σ : L2.St} {H : Hp} {Q : Bool → Hp → Prop} (p : PTs X ifs t) (h : t σ H Q) : Pw X ifs σ H Q := fun pins s I => p.run pins s σ H Q I h
def Pbl (X : Cx) (W : WX) (scope : Scope) (ifs : List Expr) (σ : L2.St) : TT := fun σ2 H Q => ∀ s H0 C cl fp, Pw (blkW X (Wc W σ) s H0 scope (compEnvC scope cl C X.env) fp) ifs σ2 H Q
/-- what one datum of the walked list gives -/
def lcOne (env : Env) (vs : List Nat) (t : Tg) (c e : E) (d : D) : Res (Option D) := (t.run (env.wipe vs) d).bind fun env' => (evP env' c).bind fun k => match k with
  | true => (evE env' e).bind fun y => .ok (some y)
  | false => .ok none
section
variable {U : Ux} {W : WX} {X : Cx} {Y Z : List Addr} {σ : L2.St} {H : Hp}
theorem y_P0 {W : WX} : Yl U W RQ (Pw X []) σ H (.ok true) := Yl.imp (fun _ _ _ q => pw_of pts_nil q) (Yl.ret (R := RQ) (b := true) fun _ _ => rfl)
theorem y_P1 {W : WX} {c : Expr} {r : Res Bool} (h : Yl U W RQ (Tw X c) σ H r) : Yl U W RQ (Pw X [c]) σ H r := Yl.imp (fun _ _ _ q => pw_of (pts_one tw) q) h
theorem bindT_nox {is : List Nat} : ∀ {ds : List D} {env : Env}, Nox (bindT env is ds) := by
  induction is with
  | nil => intro ds env; cases ds with
    | nil => exact .ok _
    | cons _ _ => exact .bad
  | cons i is ih => intro ds env; cases ds with
    | nil => exact .bad
    | cons d ds => exact ih
theorem tg_nox {tg : Tg} {env : Env} {d : D} : Nox (tg.run env d) := by
  obtain ⟨m, is⟩ := tg
  cases m with
  | false => exact bindT_nox
  | true => cases d <;> first | exact bindT_nox | exact .bad
/-- what is wanted when ys is there and the rest of the list is to be walked -/
def LcG (U : Ux) (W : WX) (K : PySem.W.Frag) (Z : List Addr) (σ : L2.St) (H1 : Hp) (Q : VK) (f : D → Res (Option D)) (ys rest : List D) : Prop := FinF U W K Z σ H1 Q ((lcRun f rest).bind fun zs => .ok (.list (ys ++ zs)))
theorem LcG.step {K : PySem.W.Frag} {H1 : Hp} {Q : VK} {f : D → Res (Option D)} {ys rest : List D} {d : D} {o : Option D} (h : LcG U W K Z σ H1 Q f ys (d :: rest)) (e : f d = .ok o) : LcG U W K Z σ H1 Q f (ys ++ o.toList) rest := by
  have h : FinF U W K Z σ H1 Q (((f d).bind fun o => (lcRun f rest).bind fun zs => .ok (o.toList ++ zs)).bind fun zs => .ok (.list (ys ++ zs))) := h
  rw [e] at h
  show FinF U W K Z σ H1 Q ((lcRun f rest).bind fun zs => .ok (.list (ys ++ o.toList ++ zs)))
  cases hr : lcRun f rest with
  | ok zs =>
    rw [hr] at h
    have h : FinF U W K Z σ H1 Q (.ok (.list (ys ++ (o.toList ++ zs)))) := h
    rw [← List.append_assoc] at h
    exact h
  | exc c => rw [hr] at h; exact h
  | bad => rw [hr] at h; exact h
theorem LcG.leave {K : PySem.W.Frag} {H1 : Hp} {Q : VK} {f : D → Res (Option D)} {ys rest : List D} {d : D} {c : Nat} (h : LcG U W K Z σ H1 Q f ys (d :: rest)) (e : f d = .exc c) : ∃ C, U.ec c = some C ∧ ∀ H', Ex H1 H' → W (.ref C) none σ H' := by
  have h : FinF U W K Z σ H1 Q (((f d).bind fun o => (lcRun f rest).bind fun zs => .ok (o.toList ++ zs)).bind fun zs => .ok (.list (ys ++ zs))) := h
  rw [e] at h
  exact h
theorem LcG.not {K : PySem.W.Frag} {H1 : Hp} {Q : VK} {f : D → Res (Option D)} {ys rest : List D} {d : D} (h : LcG U W K Z σ H1 Q f ys (d :: rest)) (e : f d = .bad) : False := by
  have h : FinF U W K Z σ H1 Q (((f d).bind fun o => (lcRun f rest).bind fun zs => .ok (o.toList ++ zs)).bind fun zs => .ok (.list (ys ++ zs))) := h
  rw [e] at h
  exact h
/-- the reading of a comprehension; what is wanted: a fresh list -/
theorem f_lcT {scope : Scope} {own : List (Str × Nat)} {tg iter elt : Expr} {ifs : List Expr} {t : Tg} {env : Env} {c e : E} {ri : Res (List D)} (hE : EnvOk U X.K Y Z H σ env)
    (hi : Yl U W (RI U X.K Z) (Iw X tg iter) σ H ri) (hne : own.map (·.2) ≠ []) (sub : ∀ i ∈ t.is, i ∈ own.map (·.2))
    (hc : ∀ σ' H' Z' env', EnvOk U X.K Y Z' H' σ' env' → Yl U (Wc W σ) RQ (Pbl X W scope ifs σ) σ' H' (evP env' c))
    (he : ∀ σ' H' Z' env', EnvOk U X.K Y Z' H' σ' env' → Yl U (Wc W σ) (RE U X.K Z') (Ebl X W scope elt σ) σ' H' (evE env' e)) :
    Fr U W X.K Z (tLcX (Iw X tg iter) (t.g X.K) (Pbl X W scope ifs) (Ebl X W scope elt) (own.map (·.2))) σ H (ri.bind fun ds => req (decide (ds.length ≤ lim)) ((lcRun (lcOne env (own.map (·.2)) t c e) ds).bind fun ys => .ok (.list ys))) := by
  generalize hvs : own.map (·.2) = vs at sub hne ⊢
  generalize hf : lcOne env vs t c e = f
  intro H0 e0 Q0 q0
  refine (Fr.one (X := X) (U := U) (W := W) (Z := Z) (t1 := Iw X tg iter) (tt := fun J H1 Q => ∀ D, H1 D = none → ∃ W : Nat → Nat → Hp → Prop, (∃ m, W 0 m (upd H1 D (.lst []))) ∧ ∀ i m H, W i m H →
    (J.stop i H ∧ Q (V.ref D) H) ∨ (J.go i H ∧ ∃ Nx : Hp → Prop, (∀ H', Nx H' → ∃ m', m' < m ∧ W (i + 1) m' H') ∧ ∀ x H', J.yld i H x H' → t.g X.K x (L2.wipe σ vs) H' fun σ2 H2 => L2.wipe σ2 vs = L2.wipe σ vs ∧ Pbl X _ scope ifs σ σ2 H2 fun b H3 =>
      if b = true then Ebl X _ scope elt σ σ2 H3 fun y H4 => ∃ acc, H4 D = some (.lst acc) ∧ acc.length < sizeLine ∧ Nx (upd H4 D (.lst (acc ++ [y]))) else Nx H3)) hi fun ds J H1 Q e1 wk q => ?_) H0 e0 Q0 q0
  intro L hD
  cases hlen : decide (ds.length ≤ lim) with
  | false => rw [hlen] at q; exact (show False from q).elim
  | true =>
    rw [hlen] at q
    have hlim := of_decide_eq_true hlen
    have q : LcG U W X.K Z σ H1 Q f [] ds := q
    -- the state between the turns
    refine ⟨fun i m H' => m = ds.length - i ∧ i ≤ ds.length ∧ Ex H1 H' ∧ ∃ acc ys, H' L = some (.lst acc) ∧ DatL U X.K (view H' (L :: Z)) acc ys ∧ LcG U W X.K Z σ H1 Q f ys (ds.drop i) ∧ ys.length ≤ i,
      ⟨ds.length, by simp, Nat.zero_le _, Ex.new hD, [], [], upd_same, .nil, by rw [List.drop_zero]; exact q, Nat.le_refl _⟩, ?_⟩
    rintro i m H' ⟨rfl, hil, ex, acc, ys, hacc, hdl, hz, hyl⟩
    have zt1 : Zt Z H1 := hE.zt.mono e1
    have vw : Ex (view H1 Z) (view H' (L :: Z)) := ex_view_cons ex hD
    obtain ⟨walk, stop⟩ := wk H' (L :: Z) vw
    by_cases hlt : i < ds.length
    · obtain ⟨go, yl⟩ := walk i hlt
      refine .inr ⟨go, fun H'' => Ex H1 H'' ∧ ∃ acc ys, H'' L = some (.lst acc) ∧ DatL U X.K (view H'' (L :: Z)) acc ys ∧ LcG U W X.K Z σ H1 Q f ys (ds.drop (i + 1)) ∧ ys.length ≤ i + 1, ?_, ?_⟩
      · rintro H'' ⟨ex', acc', ys', r1, r2, r3, r5⟩
        exact ⟨ds.length - (i + 1), by omega, rfl, hlt, ex', acc', ys', r1, r2, r3, r5⟩
      · intro x H'' hy
        obtain ⟨rfl, d, hd, dx⟩ := yl x H'' hy
        have hdrop : ds.drop i = d :: ds.drop (i + 1) := by
          rw [List.drop_eq_getElem_cons hlt]
          have e2 : ds[i] = d := by
            rw [List.getElem?_eq_getElem hlt] at hd
            exact Option.some.inj hd
          rw [e2]
        rw [hdrop] at hz
        have hEH : EnvOk U X.K Y (L :: Z) H'' σ env := (hE.mono e1).hide ex hD hacc
        have hEw := hEH.wipe vs
        cases ht : t.run (env.wipe vs) d with
        | exc c' => exact absurd ht (tg_nox c')
        | bad => exact (hz.not (by rw [← hf]; unfold lcOne; rw [ht]; rfl)).elim
        | ok env' =>
          have hfd : f d = (evP env' c).bind fun k => match k with
            | true => (evE env' e).bind fun y => .ok (some y)
            | false => .ok none := by rw [← hf]; unfold lcOne; rw [ht]; rfl
          refine g_run vs hEw dx ht (fun j hj => .inl (sub j hj)) fun σ' hE' hw => ?_
          have hw' : L2.wipe σ' vs = L2.wipe σ vs := by rw [hw hne, wipe_wipe]
          refine ⟨hw', ?_⟩
          have hcc := hc σ' H'' (L :: Z) env' hE'
          refine hcc H'' (Ex.refl _) _ ?_
          cases hk : evP env' c with
          | bad => exact (hz.not (by rw [hfd, hk]; rfl)).elim
          | exc c' =>
            obtain ⟨C, l1, l2⟩ := hz.leave (c := c') (by rw [hfd, hk]; rfl)
            exact ⟨C, l1, fun H3 e3 => l2 H3 (ex.trans e3)⟩
          | ok k =>
            rw [hk, bind_ok] at hfd
            rintro b H3 e3 rfl
            cases b with
            | true =>
              show Ebl X W scope elt σ σ' H3 _
              have hee := he σ' H3 (L :: Z) env' (hE'.mono e3)
              refine hee H3 (Ex.refl _) _ ?_
              cases hy : evE env' e with
              | bad => exact (hz.not (by rw [hfd]; dsimp only; rw [hy]; rfl)).elim
              | exc c' =>
                obtain ⟨C, l1, l2⟩ := hz.leave (c := c') (by rw [hfd]; dsimp only; rw [hy]; rfl)
                exact ⟨C, l1, fun H4 e4 => l2 H4 ((ex.trans e3).trans e4)⟩
              | ok y =>
                have hnx := hz.step (o := some y) (by rw [hfd]; dsimp only; rw [hy]; rfl)
                intro v H4 e4 dv
                have e34 := e3.trans e4
                refine ⟨acc, e34 _ _ hacc, by rw [hdl.length]; exact lim_lt (by omega), Ex.mut (ex.trans e34) hD, acc ++ [v], ys ++ [y], upd_same, ?_, hnx, ?_⟩
                · rw [view_upd List.mem_cons_self]
                  exact (hdl.mono (ex_view e34 (L :: Z))).append (.one dv)
                · rw [List.length_append, List.length_singleton]; omega
            | false =>
              have hnx := hz.step (o := none) hfd
              exact ⟨ex.trans e3, acc, ys, e3 _ _ hacc, hdl.mono (ex_view e3 (L :: Z)), by rw [show ys ++ (none : Option D).toList = ys from List.append_nil ys] at hnx; exact hnx, by omega⟩
    · have hi' : i = ds.length := by omega
      subst hi'
      rw [List.drop_length] at hz
      have hz : FinF U W X.K Z σ H1 Q (.ok (.list (ys ++ []))) := hz
      rw [List.append_nil] at hz
      exact .inl ⟨stop, hz L acc H' hD ex hacc hdl⟩
end
end Rwl

set_option Elab.async false
set_option linter.all false
set_option maxRecDepth 100000
set_option maxHeartbeats 1000000
/-! Rwl, part I: a comprehension as an expression and as a stored one; an exception that is caught and kept. -/
namespace Rwl
open PySem PySem.Spec PyProof.Rows L2 Evl
section
variable {U : Ux} {W : WX} {X : Cx} {Y Z : List Addr} {σ : L2.St} {H : Hp}
/-! ### comprehensions -/
theorem ebl {scope : Scope} {e : Expr} (σ : L2.St) (s : Shared) (H0 : Hp) (C : Addr) (cl : List (Str × Addr)) (fp : List Addr) : PE (blkW X (Wc W σ) s H0 scope (compEnvC scope cl C X.env) fp) e (Ebl X W scope e σ) :=
  ⟨fun pins s' _ _ _ I h => h s H0 C cl fp pins s' I⟩
theorem pbl {scope : Scope} {ifs : List Expr} (σ : L2.St) (s : Shared) (H0 : Hp) (C : Addr) (cl : List (Str × Addr)) (fp : List Addr) : PTs (blkW X (Wc W σ) s H0 scope (compEnvC scope cl C X.env) fp) ifs (Pbl X W scope ifs σ) :=
  ⟨fun pins s' _ _ _ I h => h s H0 C cl fp pins s' I⟩
/-- the reading of the comprehension -/
def Lw (X : Cx) (W : WX) (scope : Scope) (own : List (Str × Nat)) (t : Tg) (tg iter elt : Expr) (ifs : List Expr) : TE := tLcX (Iw X tg iter) (t.g X.K) (Pbl X W scope ifs) (Ebl X W scope elt) (own.map (·.2))
theorem pe_lcw {elt tg iter : Expr} {ifs : List Expr} {scope : Scope} {own : List (Str × Nat)} {pos : Pos} {t : Tg} (hc : X.calm = true) (hst : X.stack = X.env :: X.outer) (hf : X.env.frame = some X.env.locals) (tk : Takes X W) (hN : X.N.Nodup) (ok : BlkOk X.N X.env.scope scope own)
    (hg : ∀ (σ : L2.St) (s : Shared) (H : Hp) (C : Addr) (cl : List (Str × Addr)) (fp : List Addr), PG (blkW X (Wc W σ) s H scope (compEnvC scope cl C X.env) fp) tg (t.g X.K)) (hs : nset iter = true) :
    PE X (.ListComp elt [⟨tg, iter, ifs, 0⟩] scope pos) (Lw X W scope own t tg iter elt ifs) :=
  pe_lcX hc hst hf tk hN iw ok hg pbl ebl (folded_no hs)
theorem ps_lcw {i : Nat} {y : Str} {py spos : Pos} {elt tg iter : Expr} {ifs : List Expr} {scope : Scope} {own : List (Str × Nat)} {pos : Pos} {t : Tg} (hc : X.calm = true) (hst : X.stack = X.env :: X.outer) (hf : X.env.frame = some X.env.locals) (tk : Takes X W) (hN : X.N.Nodup)
    (hk : X.env.scope.kind = .function) (hy : X.N[i]? = some y) (hyl : X.env.scope.names.lookup y = some .local) (hl : (py.line == pos.line) = true) (ha : (scope.names.any fun (n, k) => n == y && (k == .local || k == .cell)) = false) (ok : BlkOk X.N X.env.scope scope own)
    (hg : ∀ (σ : L2.St) (s : Shared) (H : Hp) (C : Addr) (cl : List (Str × Addr)) (fp : List Addr), PG (blkW X (Wc W σ) s H scope (compEnvC scope cl C X.env) fp) tg (t.g X.K)) (hs : nset iter = true) :
    PS X (.Assign [.Name y py] (.ListComp elt [⟨tg, iter, ifs, 0⟩] scope pos) spos) (tAsg (Lw X W scope own t tg iter elt ifs) (gName i)) :=
  ps_lcX hc hst hf tk hN hy hyl (sw_true hk hyl hl ha) iw ok hg pbl ebl (folded_no hs)

/-! ### an exception is kept -/
theorem inv_track {pins : List (Addr × Obj)} {s : Shared} {a : Addr} {o : HO} (I : L2.Inv X pins σ H s) (na : H a = none) (old : ∀ o, X.s_0.heap.get? a ≠ some o) (nL : a ≠ X.env.locals) (nC : ∀ x c, X.env.cells.lookup x = some c → c ≠ a) (np : ∀ p ∈ X.pn ++ pins, p.1 ≠ a)
    (new : ObjOk X.prog X.w (upd H a o) s.heap a o) : L2.Inv X pins σ (upd H a o) s := by
  have b0 := I.base
  refine ⟨I.ok, I.os, I.bare, ⟨b0.keep, b0.slot, fun b u e n hx => ?_, b0.there, fun b xs e => ?_, fun b u xs e => ?_, fun b ps e => ?_⟩, I.loc, I.cell, ?_, fun x c e => ?_, fun p hp => ?_, fun b u e => ?_, I.len⟩
  · rw [upd_ne (fun z => old u (by rw [← z]; exact e))]
    exact b0.free b u e n hx
  · have e1 := b0.tups b xs e
    rw [upd_ne (ne_of_none e1 na)]
    exact e1
  · have e1 := b0.frzs b u xs e
    rw [upd_ne (ne_of_none e1 na)]
    exact e1
  · obtain ⟨m, e1⟩ := b0.tbls b ps e
    exact ⟨m, by rw [upd_ne (ne_of_none e1 na)]; exact e1⟩
  · rw [upd_ne (Ne.symm nL)]; exact I.free
  · rw [upd_ne (nC x c e)]; exact I.freeC x c e
  · obtain ⟨h1, h2, h3⟩ := I.pin p hp
    exact ⟨h1, by rw [upd_ne (np p hp)]; exact h2, h3⟩
  · by_cases hb : b = a
    · subst hb; rw [upd_same] at e; cases e; exact new
    · rw [upd_ne hb] at e
      exact (I.hok b u e).stay (fun c v _ q => q) (fun c q => by rw [upd_ne (ne_of_none q na)]; exact q) fun c xs q => by rw [upd_ne (ne_of_none q na)]; exact q
/-- the context of the clause -/
theorem inv_suite {pins : List (Addr × Obj)} {s : Shared} {a : Addr} (I : L2.Inv X pins σ H s) : L2.Inv (X.suite a (X.pn ++ pins)) [] σ H s :=
  ⟨I.ok.suite _ _, I.os, I.bare, I.base, I.loc, I.cell, I.free, I.freeC, fun p hp => I.pin p (by rw [List.append_nil] at hp; exact hp), I.hok, I.len⟩
theorem inv_unsuite {pins pn' : List (Addr × Obj)} {s : Shared} {a : Addr} (I : L2.Inv (X.suite a (X.pn ++ pins)) pn' σ H s) (ok : X.Ok) : L2.Inv X pins σ H s :=
  ⟨ok, I.os, I.bare, I.base, I.loc, I.cell, I.free, I.freeC, fun p hp => I.pin p (List.mem_append_left _ hp), I.hok, I.len⟩
/-- what the clause 'except x as n: k = n' wishes: slot j is k's, i is n's -/
def wKeep (K : PySem.W.Frag) (c : Value) (i j : Nat) (Wout : WX) (D : Ends) : WX := fun cls d σ H =>
  ∃ b, PySem.W.exmOne K cls c = some b ∧ (b = true → ∃ C, cls = .ref C ∧ d = none ∧ ∀ a, H a = none → D.nx (((σ.set i (some (.ref a))).set j (some (.ref a))).set i none) (upd H a (ExT C a))) ∧ (b = false → Wout cls d σ H)
theorem ps_try_keep {x n m : Str} {c : Value} {i j : Nat} {body : List Stmt} {np kp ep sp pos pos' : Pos} {tb : WX → TS} {Wout : WX} (hs : X.stack = X.env :: X.outer) (hf : X.env.frame = some X.env.locals) (hex : X.ex = []) (hN : X.N.Nodup) (hi : X.N[i]? = some n) (hln : X.env.kindOf n = some .local)
    (hj : X.N[j]? = some m) (hlm : X.env.scope.names.lookup m = some .local) (hlt : i < X.N.length) (hc : Names X x c) (tk : Takes X Wout) (nd : (n == ("__debug__" : Str)) = false) (ncd : (n == ("__classdict__" : Str)) = false)
    (hb : ∀ (W : WX) (pn : List (Addr × Obj)) (xe : Value → Shared → Prop), Takes (X.tr pn xe) W → PassesOwn (model X.prog X.w) X.A X.env xe → PSs (X.tr pn xe) body (tb W)) :
    PS X (.Try body [.ExceptHandler (some (.Name x np)) (some n) [.Assign [.Name m kp] (.Name n ep) sp] pos'] [] [] pos) (fun D σ H => tb (wKeep X.K c i j Wout D) D σ H) := by
  refine ⟨fun pins s σ H D I h => ?_⟩
  have ok := I.ok
  have hfr : X.A.frames = some (X.env :: X.outer) := by rw [ok.frames, hs]
  have hloc : Loc X.env.scope n := .inl hln
  refine wpAny_Try_except ?_
  refine wpAny_mono ((hb (wKeep X.K c i j Wout D) (X.pn ++ pins) (fun e s₁ => wpAny (model X.prog X.w) X.A (noteFrame e X.env) (fun _ s₂ => wpAny (model X.prog X.w) X.A (setFlight e none) (fun _ s₃ =>
    wpAny (model X.prog X.w) X.A (handleBy e X.env [.ExceptHandler (some (.Name x np)) (some n) [.Assign [.Name m kp] (.Name n ep) sp] pos']) (SP X pins D) X.xe s₃) X.xe s₂) X.xe s₁) (fun u s' xx => ?_) PassesOwn.looking).run [] s σ H D (I.toTry _) h) (fun f s1 hsp => ?_) (fun e s1 he => he)
  · -- the catch
    obtain ⟨a, B, sI, pins', σ', H', cls, d, rfl, J', nb, up, sky, na, os, ag, b, hb1, hyes, hno⟩ := xx
    have J : L2.Inv X pins σ' H' sI := J'.ofTry ok
    have sky' : Sky B (X.env :: X.outer) a (Zc cls d) X.env.locals s'.heap := by rw [← hs]; exact sky
    show wpAny (model X.prog X.w) X.A (noteFrame (.ref a) X.env) _ _ _
    refine Sky.land Zc.steady hfr hf sky' fun h3 fl3 up3 => ?_
    have J3 : L2.Inv X pins σ' H' { s' with heap := h3 } := J.landed nb fl3.1 (up.trans up3) os ag
    obtain ⟨oe3, vs3, he3, hz3, hd3⟩ := fl3.there
    have notFr : ∀ {h : Heap} {o : Obj} {vs : Array Value}, h.FunFrames B (X.env :: X.outer) → h.get? a = some o → o.data = .fields vs → a ∉ frs (X.env :: X.outer) := fun {h o vs} ff e dd hm => by
      obtain ⟨_, o', e', hnf⟩ := ff.mem hm
      rw [e] at e'; cases e'
      exact hnf _ dd
    have nfr := notFr fl3.2.2.1 he3 hd3
    have nL : a ≠ X.env.locals := fun z => nfr (List.mem_filterMap.mpr ⟨X.env, List.mem_cons_self, by rw [hf, z]⟩)
    have nF : a ∉ X.fs := fun hm => by
      obtain ⟨e, he, q⟩ := List.mem_filterMap.mp hm
      exact nfr (List.mem_filterMap.mpr ⟨e, List.mem_cons_of_mem _ he, q⟩)
    have nB : B.get? a = none := fl3.2.1
    have nI : ∀ o, sI.heap.get? a ≠ some o := fun o e => by
      have z := nb a o e (by rw [hs]; exact nfr)
      rw [nB] at z; cases z
    have old : ∀ o, X.s_0.heap.get? a ≠ some o := fun o e => by
      obtain ⟨o', e'⟩ := J.base.there a o e (by rw [hex]; simp)
      exact nI o' e'
    have npa : ∀ p ∈ X.pn ++ pins, p.1 ≠ a := fun p hp z => nI p.2 (by rw [← z]; exact (J.pin p hp).1)
    have nC : ∀ x c, X.env.cells.lookup x = some c → c ≠ a := fun x c e z => by
      obtain ⟨v, oc, q, _⟩ := J.cell x c e
      exact nI oc (by rw [← z]; exact q)
    have S3 := J3.suite he3 hd3 na nL nF
    refine wpAny_handleBy_cons (codeAny_handlers_test ?_) (by intro q; cases q)
    have LT : PySem.W.Looks (model X.prog X.w) h3 (typeOf (.ref a)) cls := fun A Q E s k q => wpAny_typeOf_ref (k _ _ he3) (by rw [hz3.1]; exact q)
    have LM := PySem.W.exm_one (M := model X.prog X.w) (J3.kIn) LT hb1
    have test : ∀ {Q : Value → Shared → Prop} {E : Value → Shared → Prop}, Q c { s' with heap := h3 } → wpAny (model X.prog X.w) (X.A.mark (some (.ref a))) (eval (.Name x np) X.env) Q E { s' with heap := h3 } := fun {Q E} q => by
      obtain ⟨hg, hdbg, hm | ⟨hm, hv, hnn⟩⟩ := hc
      · exact ld_glob (X := X.suite a ((a, oe3) :: (X.pn ++ pins))) S3 hg hm q hdbg
      · exact ld_blt (X := X.suite a ((a, oe3) :: (X.pn ++ pins))) S3 hg hm hv q hnn hdbg
    refine test (LM.here ?_)
    cases b with
    | true =>
      obtain ⟨C, rfl, rfl, hq⟩ := hyes rfl
      refine codeAny_handlers_suite_as ?_
      refine HandSPX.lands_againZ fl3 fun h4 fl4 up4 => ?_
      have J4 : L2.Inv X pins σ' H' { s' with heap := h4 } := J.landed nb fl4.1 ((up.trans up3).trans up4) os ag
      obtain ⟨oe4, vs4, he4, hz4, hd4⟩ := fl4.there
      have T4 : L2.Inv X pins σ' (upd H' a (ExT C a)) { s' with heap := h4 } := inv_track J4 na old nL nC npa
        ⟨⟨oe4, vs4, he4, hz4, hd4⟩, ⟨oe4, he4⟩, fun h1 h2 ⟨oe, vs, q1, q2, q3⟩ k => ⟨oe, vs, k _ q1, q2, q3⟩⟩
      have S4 := inv_suite (a := a) T4
      refine store_ok (X := X.suite a (X.pn ++ pins)) (v := .ref a) S4 hN hi hloc rfl (fun s5 S5 => ?_) (.inr hln)
      have su : PSs (X.suite a (X.pn ++ pins)) [.Assign [.Name m kp] (.Name n ep) sp] (tAsg (tVar i) (gName j)) :=
        pss_one (ps_set (X := X.suite a (X.pn ++ pins)) hN hj (.inl hlm) (pe_var hi (.inl hln) nd ncd) rfl (.inr hlm))
      refine wpAny_mono (su.run [] s5 _ _ { nx := fun σ' H' => D.nx (σ'.set i none) H', rt := D.rt, bk := fun σ' H' => D.bk (σ'.set i none) H', ct := fun σ' H' => D.ct (σ'.set i none) H' } S5 ⟨.ref a, ?_, hq a na⟩) (fun f s6 hsp => ?_) (fun _ _ z => False.elim z)
      · rw [List.getElem?_set_self (by rw [J.len]; exact hlt)]
      have end_ : ∀ {σ6 : L2.St} {H6 : Hp} {Q : Shared → Prop}, L2.Inv (X.suite a (X.pn ++ pins)) [] σ6 H6 s6 → (∀ s7, L2.Inv X pins (σ6.set i none) H6 s7 → Q s7) →
          wpAny (model X.prog X.w) X.A (do bindName X.env n .none; unbindBehindTheSuite X.env n pos') (fun _ s7 => Q s7) X.xe s6 := fun {σ6 H6 Q} S6 hq => gone_ok (inv_unsuite S6 ok) hN hi hln hq
      cases f with
      | next =>
        obtain ⟨σ6, H6, S6, q6⟩ := hsp
        exact end_ S6 fun s7 J7 => ⟨_, _, J7, q6⟩
      | brk =>
        obtain ⟨σ6, H6, S6, q6⟩ := hsp
        exact end_ S6 fun s7 J7 => ⟨_, _, J7, q6⟩
      | cont =>
        obtain ⟨σ6, H6, S6, q6⟩ := hsp
        exact end_ S6 fun s7 J7 => ⟨_, _, J7, q6⟩
      | ret u =>
        obtain ⟨v6, σ6, H6, S6, r6, q6⟩ := hsp
        exact end_ S6 fun s7 J7 => ⟨_, _, _, J7, r6, q6⟩
    | false =>
      show wpAny _ X.A (handleBy (.ref a) X.env []) _ _ _
      refine wpAny_handleBy_nil ?_
      obtain ⟨k1, k2, k3, oe, vs, T, oT, ts', he, hz, hd, h1, hr⟩ := id fl3
      unfold PySem.passOn
      refine wpAny_bind (wpAny_field he hd h1 ?_)
      rw [if_neg (show ¬ ((Value.ref T == Value.none) = true) from by simp)]
      have fin : wpAny (model X.prog X.w) X.A (setFlight (.ref a) X.env.frame) (fun _ s4 => wpAny (model X.prog X.w) X.A (throw (.ref a) : Sem Flow) (SP X pins D) X.xe s4) X.xe { s' with heap := h3 } := by
        rw [hf]
        refine HandSPX.setFlight_upZ fl3 fun h4 hh4 up4 => wpAny_throw (tk _ _ ?_)
        exact ⟨a, B, sI, pins, σ', H', cls, d, rfl, J, nb, (up.trans up3).trans up4, .inr (.inr (by rw [hs]; exact hh4)), na, os, ag, hno rfl⟩
      first
        | exact wpAny_bind (wpAny_pure (wpAny_bind fin))
        | exact wpAny_bind fin
  · cases f with
    | next =>
      obtain ⟨σ', H', J', q⟩ := hsp
      exact wpAny_execs_nil ⟨σ', H', J'.ofTry ok, q⟩
    | brk =>
      obtain ⟨σ', H', J', q⟩ := hsp
      exact ⟨σ', H', J'.ofTry ok, q⟩
    | cont =>
      obtain ⟨σ', H', J', q⟩ := hsp
      exact ⟨σ', H', J'.ofTry ok, q⟩
    | ret u =>
      obtain ⟨v, σ', H', J', r, q⟩ := hsp
      exact ⟨v, σ', H', J'.ofTry ok, r, q⟩
end
end Rwl

set_option Elab.async false
set_option linter.all false
set_option maxRecDepth 100000
set_option maxHeartbeats 1000000
/-! Rwl, part J: what statements come to; one rule for each. -/
namespace Rwl
open PySem PySem.Spec PyProof.Rows L2 Evl

/-! ### what is kept since the beginning -/
def sv (H : Hp) (Z Y : List Addr) : Hp := fun a => if a ∈ Z ∧ a ∉ Y then none else H a
abbrev Kp (Hb : Hp) (Y Z : List Addr) (H : Hp) : Prop := Ex Hb (sv H Z Y)
section
variable {Hb H H' : Hp} {Y Z Z' : List Addr} {p : Addr} {o : HO}
theorem sv_some {a : Addr} (h : sv H Z Y a = some o) : ¬ (a ∈ Z ∧ a ∉ Y) ∧ H a = some o := by
  unfold sv at h
  split at h
  · cases h
  · rename_i n; exact ⟨n, h⟩
theorem sv_of {a : Addr} (n : ¬ (a ∈ Z ∧ a ∉ Y)) (h : H a = some o) : sv H Z Y a = some o := by
  unfold sv
  rw [if_neg n]
  exact h
theorem Kp.start : Kp H Y Y H := fun a o h => sv_of (fun z => z.2 z.1) h
theorem Kp.mono (k : Kp Hb Y Z H) (e : Ex H H') : Kp Hb Y Z H' := fun a o h => by
  obtain ⟨n, q⟩ := sv_some (k a o h)
  exact sv_of n (e _ _ q)
theorem Kp.new (k : Kp Hb Y Z H) (hp : H p = none) (e : Ex H H') : Kp Hb Y (p :: Z) H' := fun a o h => by
  obtain ⟨n, q⟩ := sv_some (k a o h)
  refine sv_of (fun z => ?_) (e _ _ q)
  rcases List.mem_cons.mp z.1 with r | r
  · rw [r, hp] at q; cases q
  · exact n ⟨r, z.2⟩
theorem Kp.write (k : Kp Hb Y Z H) (hz : p ∈ Z ∧ p ∉ Y) : Kp Hb Y Z (upd H p o) := fun a u h => by
  obtain ⟨n, q⟩ := sv_some (k a u h)
  refine sv_of n ?_
  rw [upd_ne (fun e => n (by rw [e]; exact hz))]
  exact q
theorem Kp.frz (k : Kp Hb Y Z H) : Kp Hb Y Y H := fun a o h => sv_of (fun z => z.2 z.1) (sv_some (k a o h)).2
theorem Kp.ex (k : Kp Hb Y Z H) : Ex Hb H := fun a o h => (sv_some (k a o h)).2
theorem Kp.trans (k : Kp Hb Y Z H) (k' : Kp (sv H Z Y) Y Z' H') : Kp Hb Y Z' H' := fun a o h => k' a o (k a o h)
theorem Kp.view (k : Kp (sv H Z Y) Y Z' H') (sub : ∀ z ∈ Y, z ∈ Z) : Ex (view H Z) (Rwl.view H' Z') := fun a o h => by
  have hz : a ∉ Z := fun z => by rw [view_in z] at h; cases h
  rw [view_out hz] at h
  obtain ⟨n, q⟩ := sv_some (k a o (sv_of (fun z => hz z.1) h))
  have hz' : a ∉ Z' := fun z => n ⟨z, fun y => hz (sub _ y)⟩
  rw [view_out hz']
  exact q
end

/-! ### what is wanted behind a statement -/
def Cnt (U : Ux) (W : WX) (K : PySem.W.Frag) (Y : List Addr) (Hb : Hp) (D : Ends) : Out → Prop
  | .nx env => ∀ σ Z H, Kp Hb Y Z H → EnvOk U K Y Z H σ env → D.nx σ H
  | .brk env => ∀ σ Z H, Kp Hb Y Z H → EnvOk U K Y Z H σ env → D.bk σ H
  | .ret d => ∀ v H, Ex Hb H → Dat U K (view H Y) v d → D.rt v H
  | .exc c env => ∃ C, U.ec c = some C ∧ ∀ σ Z H, Kp Hb Y Z H → EnvOk U K Y Z H σ env → W (.ref C) none σ H
  | .bad => False
def Ys (U : Ux) (W : WX) (K : PySem.W.Frag) (Y : List Addr) (t : TS) (f : Env → Out) : Prop :=
  ∀ Hb D σ Z H env, Kp Hb Y Z H → EnvOk U K Y Z H σ env → Cnt U W K Y Hb D (f env) → t D σ H
def Ye (U : Ux) (W : WX) (K : PySem.W.Frag) (Y : List Addr) (t : TE) (f : Env → Res D) : Prop :=
  ∀ σ Z H env, EnvOk U K Y Z H σ env → Yl U W (RE U K Z) t σ H (f env)
def Sw (X : Cx) (st : Stmt) : TS := fun D σ H => ∀ pins s, L2.Inv X pins σ H s → wpAny (model X.prog X.w) X.A (exec st X.env) (SP X pins D) X.xe s
def Bs (X : Cx) (st : List Stmt) : TS := fun D σ H => ∀ pins s, L2.Inv X pins σ H s → wpAny (model X.prog X.w) X.A (execs st X.env) (SP X pins D) X.xe s
theorem sw {X : Cx} {st : Stmt} : PS X st (Sw X st) := ⟨fun pins s _ _ _ I h => h pins s I⟩
theorem bs {X : Cx} {st : List Stmt} : PSs X st (Bs X st) := ⟨fun pins s _ _ _ I h => h pins s I⟩

section
variable {U : Ux} {W : WX} {X : Cx} {K : PySem.W.Frag} {Y Z : List Addr} {σ : L2.St} {H Hb : Hp} {Dd : Ends} {env : Env} {s1 : Stmt} {ss : List Stmt} {t u : TS} {te tk : TE} {f g : Env → Out} {fe fk : Env → Res D}
theorem Ys.one (p : PS X s1 t) (h : Ys U W X.K Y t f) : Ys U W X.K Y (Sw X s1) f := fun Hb D σ Z H env k hE c pins s I => p.run pins s σ H D I (h Hb D σ Z H env k hE c)
theorem Ys.all (p : PSs X ss t) (h : Ys U W X.K Y t f) : Ys U W X.K Y (Bs X ss) f := fun Hb D σ Z H env k hE c pins s I => p.run pins s σ H D I (h Hb D σ Z H env k hE c)
theorem Cnt.mono {Hb' : Hp} {o : Out} (e : Ex Hb Hb') (h : Cnt U W K Y Hb Dd o) : Cnt U W K Y Hb' Dd o := by
  cases o with
  | nx env => exact fun σ Z H k => h σ Z H (e.trans k)
  | brk env => exact fun σ Z H k => h σ Z H (e.trans k)
  | ret d => exact fun v H k => h v H (e.trans k)
  | exc c env => obtain ⟨C, h1, h2⟩ := h; exact ⟨C, h1, fun σ Z H k => h2 σ Z H (e.trans k)⟩
  | bad => exact h
theorem fin_out {α β : Type} {R : β → α → Hp → Prop} {r : Res α} {fo : α → Out} {Q : β → Hp → Prop} (k : Kp Hb Y Z H) (hE : EnvOk U K Y Z H σ env) (h : Cnt U W K Y Hb Dd (r.out env fo))
    (g : ∀ a b H', Ex H H' → R b a H' → Cnt U W K Y Hb Dd (fo a) → Q b H') : FinG U W σ R H Q r := by
  cases r with
  | ok a => exact fun b H' e rb => g a b H' e rb h
  | exc c => obtain ⟨C, h1, h2⟩ := h; exact ⟨C, h1, fun H' e => h2 σ Z H' (k.mono e) (hE.mono e)⟩
  | bad => exact h
theorem get_own {i : Nat} {xs : List D} (h : env.get i = .own xs) : env[i]? = some (.own xs) := by
  unfold Env.get at h
  cases e : env[i]? with
  | none => rw [e] at h; cases h
  | some s => rw [e] at h; exact congrArg some h
theorem get_dct {i : Nat} {xs : List (Int × D)} (h : env.get i = .dct xs) : env[i]? = some (.dct xs) := by
  unfold Env.get at h
  cases e : env[i]? with
  | none => rw [e] at h; cases h
  | some s => rw [e] at h; exact congrArg some h
/-- a value that is kept -/
theorem y_V {e : E} (h : Ye U W K Y te fun env => evE env e) : Ye U W K Y te fun env => evV env e := fun σ Z H env hE => by
  have h1 : Yl U W (RE U K Y) te σ H (evE env.frz e) := h σ Y H env.frz hE.frz
  have h2 : Yl U W (RE U K Z) te σ H (evE env e) := h σ Z H env hE
  show Yl U W (RE U K Z) te σ H (evV env e)
  unfold evV
  cases hr : evE env.frz e with
  | ok d =>
    rw [hr] at h1
    cases hs : scal d with
    | true =>
      dsimp only
      rw [hs]
      intro H1 e1 Q q
      exact h1 H1 e1 Q fun b H2 e2 r => q b H2 e2 (r.scal hs _)
    | false =>
      dsimp only
      rw [hs]
      exact h2
  | exc c =>
    rw [hr] at h1
    intro H1 e1 Q q
    exact h1 H1 e1 Q q
  | bad => exact h2
theorem view_le {H : Hp} (sub : ∀ z ∈ Y, z ∈ Z) : Ex (view H Z) (view H Y) := fun a o h => by
  have hz : a ∉ Z := fun z => by rw [view_in z] at h; cases h
  rw [view_out hz] at h
  rw [view_out (fun y => hz (sub _ y))]
  exact h
/-- a value that leaves -/
theorem y_R {e : E} (h : Ye U W K Y te fun env => evE env e) (hE : EnvOk U K Y Z H σ env) : Yl U W (RE U K Y) te σ H (evR env e) := by
  have h1 : Yl U W (RE U K Y) te σ H (evE env.frz e) := h σ Y H env.frz hE.frz
  have h2 : Yl U W (RE U K Z) te σ H (evE env e) := h σ Z H env hE
  unfold evR
  cases hr : evE env.frz e with
  | ok d => rw [hr] at h1; exact h1
  | exc c => rw [hr] at h1; exact h1
  | bad => exact h2.rel fun b a H1 _ r => r.mono (view_le hE.sub)
theorem y_B {e : E} {tc : TT} (hc : ∀ σ Z H env, EnvOk U K Y Z H σ env → Yl U W RQ tc σ H (evT env e)) (hE : EnvOk U K Y Z H σ env) : Yl U W RQ tc σ H (evB env e) := by
  have h1 := hc σ Y H env.frz hE.frz
  have h2 := hc σ Z H env hE
  unfold evB
  cases hr : evT env.frz e with
  | ok d => rw [hr] at h1; exact h1
  | exc c => rw [hr] at h1; exact h1
  | bad => exact h2

/-! ### the rules -/
theorem s_seq {D0 : Unit} (ht : Ys U W K Y t f) (hu : Ys U W K Y u g) : Ys U W K Y (tSeq t u) fun env => (f env).seq g := fun Hb D σ Z H env k hE c => by
  refine ht Hb { D with nx := u D } σ Z H env k hE ?_
  cases hf : f env with
  | nx env' =>
    have c : Cnt U W K Y Hb D ((f env).seq g) := c
    rw [hf] at c
    exact fun σ' Z' H' k' hE' => hu Hb D σ' Z' H' env' k' hE' c
  | brk env' => have c : Cnt U W K Y Hb D ((f env).seq g) := c; rw [hf] at c; exact c
  | ret d => have c : Cnt U W K Y Hb D ((f env).seq g) := c; rw [hf] at c; exact c
  | exc c' env' => have c : Cnt U W K Y Hb D ((f env).seq g) := c; rw [hf] at c; exact c
  | bad => have c : Cnt U W K Y Hb D ((f env).seq g) := c; rw [hf] at c; exact c
theorem s_nx : Ys U W K Y tNext fun env => .nx env := fun Hb D σ Z H env k hE c => c σ Z H k hE
theorem s_brk : Ys U W K Y tBreak fun env => .brk env := fun Hb D σ Z H env k hE c => c σ Z H k hE
theorem s_frz (h : Ys U W K Y t f) : Ys U W K Y t fun env => f env.frz := fun Hb D σ Z H env k hE c => h Hb D σ Y H env.frz k.frz hE.frz c
theorem s_asg {i : Nat} (h : Ye U W K Y te fe) : Ys U W K Y (tAsg te (gName i)) fun env => (fe env).out env fun d => .nx (env.set i (.dat d)) := fun Hb D σ Z H env k hE c =>
  h σ Z H env hE H (Ex.refl H) _ (fin_out k hE c fun d v H' e rb c' => c' _ _ _ (k.mono e) ((hE.mono e).set i rb))
theorem out_run {α : Type} {r : Res α} {fo : α → Out} (n : Nox r) (h : Cnt U W K Y Hb Dd (r.out env fo)) : ∃ a, r = .ok a ∧ Cnt U W K Y Hb Dd (fo a) := by
  cases r with
  | ok a => exact ⟨a, rfl, h⟩
  | exc c => exact absurd rfl (n c)
  | bad => exact h.elim
theorem s_asgT {is : List Nat} (h : Ye U W K Y te fe) : Ys U W K Y (tAsg te ((⟨true, is⟩ : Tg).g K)) fun env => (fe env).out env fun d => match d with
    | .tuple ds => (bindT env is ds).out env .nx
    | _ => .bad := fun Hb D σ Z H env k hE c =>
  h σ Z H env hE H (Ex.refl H) _ (fin_out k hE c fun d v H' e rb c' => by
    cases d with
    | tuple ds =>
      obtain ⟨env', h1, h2⟩ := out_run bindT_nox c'
      exact g_run [] (hE.mono e) rb (show (⟨true, is⟩ : Tg).run env (.tuple ds) = .ok env' from h1) (fun _ _ => .inr rfl) fun σ' hE' _ => h2 _ _ _ (k.mono e) hE'
    | _ => exact c'.elim)
theorem own_new {p : Addr} {vs : List V} {xs : List D} {i : Nat} (k : Kp Hb Y Z H) (hE : EnvOk U K Y Z H σ env) {H' : Hp} (hp : H p = none) (e : Ex H H') (hl : H' p = some (.lst vs)) (hd : DatL U K (view H' (p :: Z)) vs xs) :
    Kp Hb Y (p :: Z) H' ∧ EnvOk U K Y (p :: Z) H' (σ.set i (some (.ref p))) (env.set i (.own xs)) := by
  refine ⟨k.new hp e, (hE.hide e hp hl).put i (fun ov ho => ⟨p, vs, ho, ⟨List.mem_cons_self, fun hy => ?_⟩, hl, hd⟩) fun j s _ hj ho hs => ?_⟩
  · obtain ⟨o, q⟩ := hE.zt p (hE.sub p hy)
    rw [hp] at q; cases q
  · have r := hE.at_ j s hj
    cases s with
    | none => cases ho
    | dat d => cases ho
    | own xs => obtain ⟨a, ws, q1, q2, q3, q4⟩ := r; rw [hs] at q1; cases q1; rw [hp] at q3; cases q3
    | dct xs => obtain ⟨a, ws, q1, q2, q3, q4⟩ := r; rw [hs] at q1; cases q1; rw [hp] at q3; cases q3
theorem s_new {i : Nat} (h : ∀ σ Z H env, EnvOk U K Y Z H σ env → Fr U W K Z te σ H (fe env)) : Ys U W K Y (tAsg te (gName i)) fun env => (fe env).out env fun d => match d with
    | .list xs => .nx (env.set i (.own xs))
    | _ => .bad := fun Hb D σ Z H env k hE c => by
  refine h σ Z H env hE H (Ex.refl H) _ ?_
  have c : Cnt U W K Y Hb D ((fe env).out env fun d => match d with
    | .list xs => .nx (env.set i (.own xs))
    | _ => .bad) := c
  cases hr : fe env with
  | ok d =>
    rw [hr] at c
    cases d with
    | list xs => exact fun p vs H' hp e hl hd => c _ _ _ (own_new (i := i) k hE hp e hl hd).1 (own_new (i := i) k hE hp e hl hd).2
    | _ => exact c.elim
  | exc c' =>
    rw [hr] at c
    obtain ⟨C, h1, h2⟩ := c
    exact ⟨C, h1, fun H' e => h2 σ Z H' (k.mono e) (hE.mono e)⟩
  | bad => rw [hr] at c; exact c.elim
theorem s_newd {i : Nat} : Ys U W K Y (tAsg tDNewK (gName i)) fun env => .nx (env.set i (.dct [])) := fun Hb D σ Z H env k hE c => by
  intro p hp
  refine c _ (p :: Z) _ (k.new hp (Ex.new hp)) ((hE.hide (Ex.new hp) hp upd_same).put i (fun ov ho => ⟨p, [], ho, ⟨List.mem_cons_self, fun hy => ?_⟩, upd_same, .nil⟩) fun j s _ hj ho hs => ?_)
  · obtain ⟨o, q⟩ := hE.zt p (hE.sub p hy)
    rw [hp] at q; cases q
  · have r := hE.at_ j s hj
    cases s with
    | none => cases ho
    | dat d => cases ho
    | own xs => obtain ⟨a, ws, q1, q2, q3, q4⟩ := r; rw [hs] at q1; cases q1; rw [hp] at q3; cases q3
    | dct xs => obtain ⟨a, ws, q1, q2, q3, q4⟩ := r; rw [hs] at q1; cases q1; rw [hp] at q3; cases q3
theorem own_at {i : Nat} {xs : List D} (hE : EnvOk U K Y Z H σ env) (h : env.get i = .own xs) : ∃ p vs, σ[i]? = some (some (.ref p)) ∧ (p ∈ Z ∧ p ∉ Y) ∧ H p = some (.lst vs) ∧ DatL U K (view H Z) vs xs := hE.at_ i _ (get_own h)
theorem dct_at {i : Nat} {xs : List (Int × D)} (hE : EnvOk U K Y Z H σ env) (h : env.get i = .dct xs) : ∃ p vs, σ[i]? = some (some (.ref p)) ∧ (p ∈ Z ∧ p ∉ Y) ∧ H p = some (.dK vs) ∧ DatK U K (view H Z) vs xs := hE.at_ i _ (get_dct h)
/-- an own list is changed -/
theorem own_write {i : Nat} {xs ys : List D} {p : Addr} {ws : List V} (k : Kp Hb Y Z H) (hE : EnvOk U K Y Z H σ env) (h : env.get i = .own xs) (hp : σ[i]? = some (some (.ref p))) (hz : p ∈ Z ∧ p ∉ Y) (hd : DatL U K (view H Z) ws ys) :
    Kp Hb Y Z (upd H p (.lst ws)) ∧ EnvOk U K Y Z (upd H p (.lst ws)) σ (env.set i (.own ys)) :=
  ⟨k.write hz, hE.write i (get_own h) rfl hp hz.1 ⟨p, ws, rfl, hz, upd_same, by rw [view_upd hz.1]; exact hd⟩⟩
theorem s_app {i : Nat} (h : Ye U W K Y te fe) : Ys U W K Y (tDrop (tBM K "list" rAppend (tVar i) (tCons te tNil))) fun env => match env.get i with
    | .own xs => (fe env).out env fun d => match decide (xs.length < lim) with
      | true => .nx (env.set i (.own (xs ++ [d])))
      | false => .bad
    | _ => .bad := fun Hb D σ Z H env k hE c => by
  cases hg : env.get i with
  | own xs =>
    have c : Cnt U W K Y Hb D (match env.get i with
      | .own xs => (fe env).out env fun d => match decide (xs.length < lim) with
        | true => .nx (env.set i (.own (xs ++ [d])))
        | false => .bad
      | _ => .bad) := c
    rw [hg] at c
    obtain ⟨p, vs, h1, h2, h3, h4⟩ := own_at hE hg
    refine ⟨_, h1, .inl ⟨rfl, vs, SqL.of h3⟩, ?_⟩
    refine h σ Z H env hE H (Ex.refl H) _ (fin_out k hE c fun d v H' e rb c' => ?_)
    cases hl : decide (xs.length < lim) with
    | true =>
      rw [hl] at c'
      refine ⟨p, vs, v, rfl, rfl, e _ _ h3, ?_, ?_⟩
      · rw [h4.length]; exact lim_lt (of_decide_eq_true hl)
      · obtain ⟨q1, q2⟩ := own_write (k.mono e) (hE.mono e) hg h1 h2 ((h4.mono (ex_view e Z)).append (.one rb))
        exact c' _ _ _ q1 q2
    | false => rw [hl] at c'; exact c'.elim
  | _ =>
    have c : Cnt U W K Y Hb D (match env.get i with
      | .own xs => (fe env).out env fun d => match decide (xs.length < lim) with
        | true => .nx (env.set i (.own (xs ++ [d])))
        | false => .bad
      | _ => .bad) := c
    rw [hg] at c
    exact c.elim
theorem s_ext {i : Nat} (h : Ye U W K Y te fe) : Ys U W K Y (tDrop (tBM K "list" rExtend (tVar i) (tCons te tNil))) fun env => match env.get i with
    | .own xs => (fe env).out env fun d => match d with
      | .list ys => match decide (xs.length + ys.length < lim) with
        | true => .nx (env.set i (.own (xs ++ ys)))
        | false => .bad
      | _ => .bad
    | _ => .bad := fun Hb D σ Z H env k hE c => by
  cases hg : env.get i with
  | own xs =>
    have c : Cnt U W K Y Hb D (match env.get i with
      | .own xs => (fe env).out env fun d => match d with
        | .list ys => match decide (xs.length + ys.length < lim) with
          | true => .nx (env.set i (.own (xs ++ ys)))
          | false => .bad
        | _ => .bad
      | _ => .bad) := c
    rw [hg] at c
    obtain ⟨p, vs, h1, h2, h3, h4⟩ := own_at hE hg
    refine ⟨_, h1, .inl ⟨rfl, vs, SqL.of h3⟩, ?_⟩
    refine h σ Z H env hE H (Ex.refl H) _ (fin_out k hE c fun d v H' e rb c' => ?_)
    cases d with
    | list ys =>
      obtain ⟨q, ws, rfl, r1, r2⟩ := rb.list_inv
      cases hl : decide (xs.length + ys.length < lim) with
      | true =>
        dsimp only at c'
        rw [hl] at c'
        have hlt := of_decide_eq_true hl
        refine ⟨p, q, vs, ws, rfl, rfl, e _ _ h3, view_ex H' Z _ _ r1, ?_, ?_⟩
        · rw [h4.length, r2.length]
          unfold lim at hlt
          unfold sizeLine
          omega
        · obtain ⟨q1, q2⟩ := own_write (k.mono e) (hE.mono e) hg h1 h2 ((h4.mono (ex_view e Z)).append r2)
          exact c' _ _ _ q1 q2
      | false => dsimp only at c'; rw [hl] at c'; exact c'.elim
    | _ => exact c'.elim
  | _ =>
    have c : Cnt U W K Y Hb D (match env.get i with
      | .own xs => (fe env).out env fun d => match d with
        | .list ys => match decide (xs.length + ys.length < lim) with
          | true => .nx (env.set i (.own (xs ++ ys)))
          | false => .bad
        | _ => .bad
      | _ => .bad) := c
    rw [hg] at c
    exact c.elim
theorem ixN_of {n : Nat} {j : Int} (h : (decide (0 ≤ j) && decide (j < n)) = true) : ixN n j = some j.toNat := by
  have h' : 0 ≤ j ∧ j < n := by simpa using h
  unfold ixN
  rw [if_pos h'.1, if_pos h'.2]
theorem s_seti {i : Nat} (h : Ye U W K Y te fe) (hk : Ye U W K Y tk fk) : Ys U W K Y (tAsg te (gSub (tVar i) tk rSetL)) fun env => match env.get i with
    | .own xs => (fe env).out env fun d => (fk env).out env fun y => match y with
      | .int j => match decide (0 ≤ j) && decide (j < xs.length) with
        | true => .nx (env.set i (.own (xs.set j.toNat d)))
        | false => .bad
      | _ => .bad
    | _ => .bad := fun Hb D σ Z H env k hE c => by
  have c : Cnt U W K Y Hb D (match env.get i with
    | .own xs => (fe env).out env fun d => (fk env).out env fun y => match y with
      | .int j => match decide (0 ≤ j) && decide (j < xs.length) with
        | true => .nx (env.set i (.own (xs.set j.toNat d)))
        | false => .bad
      | _ => .bad
    | _ => .bad) := c
  cases hg : env.get i with
  | own xs =>
    rw [hg] at c
    obtain ⟨p, vs, h1, h2, h3, h4⟩ := own_at hE hg
    refine h σ Z H env hE H (Ex.refl H) _ (fin_out k hE c fun d v H1 e rb c1 => ?_)
    refine ⟨_, h1, ?_⟩
    refine hk σ Z H1 env (hE.mono e) H1 (Ex.refl H1) _ (fin_out (k.mono e) (hE.mono e) c1 fun y w H2 e2 ry c2 => ?_)
    have e12 := e.trans e2
    cases y with
    | int j =>
      cases ry.int_inv
      cases hl : decide (0 ≤ j) && decide (j < xs.length) with
      | true =>
        dsimp only at c2
        rw [hl] at c2
        obtain ⟨q1, q2⟩ := own_write (k.mono e12) (hE.mono e12) hg h1 h2 (DatL.set (rb.mono (ex_view e2 Z)) j.toNat (h4.mono (ex_view e12 Z)))
        exact ⟨p, vs, j, j.toNat, rfl, rfl, e12 _ _ h3, by rw [h4.length]; exact ixN_of hl, c2 _ _ _ q1 q2⟩
      | false => dsimp only at c2; rw [hl] at c2; exact c2.elim
    | _ => exact c2.elim
  | _ => rw [hg] at c; exact c.elim
theorem datK_put {H : Hp} {v : V} {d : D} {j : Int} {vs : List (Key × V)} {kvs : List (Int × D)} (h : DatK U K H vs kvs) (hv : Dat U K H v d) : DatK U K H (putK vs (.inl j) v) (kput kvs j d) := by
  have hany : ∀ {vs : List (Key × V)} {kvs : List (Int × D)}, DatK U K H vs kvs → (vs.any fun kv => decide (kv.1 = (.inl j : Key))) = (kvs.any fun kv => decide (kv.1 = j)) := by
    intro vs kvs h
    induction h with
    | nil => rfl
    | cons _ _ ih =>
      rw [List.any_cons, List.any_cons, ih]
      congr 1
      rw [decide_eq_decide]
      exact ⟨fun e => Sum.inl.inj e, fun e => congrArg Sum.inl e⟩
  have hmap : ∀ {vs : List (Key × V)} {kvs : List (Int × D)}, DatK U K H vs kvs → DatK U K H (vs.map fun kv => if kv.1 = (.inl j : Key) then (kv.1, v) else kv) (kvs.map fun kv => if kv.1 = j then (kv.1, d) else kv) := by
    intro vs kvs h
    induction h with
    | nil => exact .nil
    | @cons k w e vs ds h hs ih =>
      rw [List.map_cons, List.map_cons]
      by_cases hj : k = j
      · subst hj
        rw [if_pos rfl, if_pos rfl]
        exact .cons hv ih
      · rw [if_neg (fun e => hj (Sum.inl.inj e)), if_neg hj]
        exact .cons h ih
  have happ : ∀ {vs : List (Key × V)} {kvs : List (Int × D)}, DatK U K H vs kvs → DatK U K H (vs ++ [(.inl j, v)]) (kvs ++ [(j, d)]) := by
    intro vs kvs h
    induction h with
    | nil => exact .cons hv .nil
    | cons h hs ih => exact .cons h ih
  unfold putK kput
  rw [hany h]
  split
  · exact hmap h
  · exact happ h
theorem DatK.len {H : Hp} {vs : List (Key × V)} {kvs : List (Int × D)} (h : DatK U K H vs kvs) : vs.length = kvs.length := by
  induction h with
  | nil => rfl
  | cons _ _ ih => exact congrArg (· + 1) ih
theorem s_setd {i : Nat} (h : Ye U W K Y te fe) (hk : Ye U W K Y tk fk) : Ys U W K Y (sDPut (tVar i) tk te) fun env => match env.get i with
    | .dct kvs => (fe env).out env fun d => (fk env).out env fun y => match y with
      | .int j => match decide (kvs.length < lim) with
        | true => .nx (env.set i (.dct (kput kvs j d)))
        | false => .bad
      | _ => .bad
    | _ => .bad := fun Hb D σ Z H env k hE c => by
  have c : Cnt U W K Y Hb D (match env.get i with
    | .dct kvs => (fe env).out env fun d => (fk env).out env fun y => match y with
      | .int j => match decide (kvs.length < lim) with
        | true => .nx (env.set i (.dct (kput kvs j d)))
        | false => .bad
      | _ => .bad
    | _ => .bad) := c
  cases hg : env.get i with
  | dct kvs =>
    rw [hg] at c
    obtain ⟨p, vs, h1, h2, h3, h4⟩ := dct_at hE hg
    refine h σ Z H env hE H (Ex.refl H) _ (fin_out k hE c fun d v H1 e rb c1 => ?_)
    refine ⟨_, h1, ?_⟩
    refine hk σ Z H1 env (hE.mono e) H1 (Ex.refl H1) _ (fin_out (k.mono e) (hE.mono e) c1 fun y w H2 e2 ry c2 => ?_)
    have e12 := e.trans e2
    cases y with
    | int j =>
      cases ry.int_inv
      cases hl : decide (kvs.length < lim) with
      | true =>
        dsimp only at c2
        rw [hl] at c2
        have hn : vs.length < sizeLine := by rw [h4.len]; exact lim_lt (of_decide_eq_true hl)
        refine ⟨p, _, rfl, DPut.k (k := .inl j) (e12 _ _ h3) hn, ?_⟩
        refine c2 _ Z _ ((k.mono e12).write h2) ((hE.mono e12).write i (get_dct hg) rfl h1 h2.1 ⟨p, _, rfl, h2, upd_same, ?_⟩)
        rw [view_upd h2.1]
        exact datK_put (h4.mono (ex_view e12 Z)) (rb.mono (ex_view e2 Z))
      | false => dsimp only at c2; rw [hl] at c2; exact c2.elim
    | _ => exact c2.elim
  | _ => rw [hg] at c; exact c.elim
theorem s_appPop {i j : Nat} (h : Ye U W K Y te fe) : Ys U W K Y (tDrop (tBM K "list" rAppend (tVar i) (tCons (tBM K "list" rPopAt (tVar j) (tCons te tNil)) tNil))) fun env => match env.get i, env.get j with
    | .own xs, .own ys => (fe env).out env fun y => match y with
      | .int k => match decide (0 ≤ k) && decide (k < ys.length) && decide (xs.length < lim) && decide (ys.length < lim) && (i != j) with
        | true => .nx ((env.set j (.own (ys.eraseIdx k.toNat))).set i (.own (xs ++ [ys.getD k.toNat .none])))
        | false => .bad
      | _ => .bad
    | _, _ => .bad := fun Hb D σ Z H env k hE c => by
  have c : Cnt U W K Y Hb D (match env.get i, env.get j with
    | .own xs, .own ys => (fe env).out env fun y => match y with
      | .int k => match decide (0 ≤ k) && decide (k < ys.length) && decide (xs.length < lim) && decide (ys.length < lim) && (i != j) with
        | true => .nx ((env.set j (.own (ys.eraseIdx k.toNat))).set i (.own (xs ++ [ys.getD k.toNat .none])))
        | false => .bad
      | _ => .bad
    | _, _ => .bad) := c
  cases hg : env.get i with
  | own xs =>
    cases hg2 : env.get j with
    | own ys =>
      rw [hg, hg2] at c
      obtain ⟨p, vs, h1, h2, h3, h4⟩ := own_at hE hg
      obtain ⟨p', vs', k1, k2, k3, k4⟩ := own_at hE hg2
      refine ⟨_, h1, .inl ⟨rfl, vs, SqL.of h3⟩, ?_⟩
      refine ⟨_, k1, .inl ⟨rfl, vs', SqL.of k3⟩, ?_⟩
      refine h σ Z H env hE H (Ex.refl H) _ (fin_out k hE c fun y w H1 e ry c1 => ?_)
      cases y with
      | int z =>
        cases ry.int_inv
        cases hl : decide (0 ≤ z) && decide (z < ys.length) && decide (xs.length < lim) && decide (ys.length < lim) && (i != j) with
        | true =>
          dsimp only at c1
          rw [hl] at c1
          have hh : (((0 ≤ z ∧ z < ys.length) ∧ xs.length < lim) ∧ ys.length < lim) ∧ i ≠ j := by simpa using hl
          obtain ⟨⟨⟨⟨g1, g2⟩, g3⟩, g5⟩, g4⟩ := hh
          have g5' : ys.length < 100000 := g5
          have hlim := lim_lt g3
          have hlen : vs'.length = ys.length := k4.length
          have hix : ixN vs'.length z = some z.toNat := ixN_of (by rw [hlen]; simp [g1, g2])
          obtain ⟨s1, s2, s3, s4⟩ := ixN_seq hix
          have hgd : ys[z.toNat]? = some (ys.getD z.toNat .none) := by
            rw [List.getD_eq_getElem?_getD, List.getElem?_eq_getElem (by omega)]
            rfl
          obtain ⟨v, hv1, hv2⟩ := (k4.mono (ex_view e Z)).get hgd
          have hbig : vs'.length ≤ sizeLine ∨ True := .inr trivial
          obtain ⟨q1, q2⟩ := own_write (k.mono e) (hE.mono e) hg2 k1 k2 ((k4.mono (ex_view e Z)).eraseIdx z.toNat)
          have hne : p ≠ p' := fun z => g4 (hE.inj i j _ _ p (get_own hg) (get_own hg2) rfl rfl h1 (by rw [z]; exact k1))
          have hg' : Env.get (env.set j (.own (ys.eraseIdx z.toNat))) i = .own xs := by
            unfold Env.get
            rw [List.getElem?_set_ne (Ne.symm g4)]
            exact hg
          have h4' : DatL U K (view (upd H1 p' (.lst (vs'.eraseIdx z.toNat))) Z) vs xs := by
            rw [view_upd k2.1]
            exact h4.mono (ex_view e Z)
          obtain ⟨r1, r2⟩ := own_write q1 q2 hg' h1 h2 (h4'.append (.one (by rw [view_upd k2.1]; exact hv2)))
          refine ⟨p', vs', z, z.toNat, v, rfl, rfl, e _ _ k3, ?_, ?_, s1, hv1, ?_⟩
          · omega
          · omega
          · refine ⟨p, vs, v, rfl, rfl, ?_, ?_, c1 _ _ _ r1 r2⟩
            · rw [upd_ne hne]; exact e _ _ h3
            · rw [h4.length]; exact hlim
        | false => dsimp only at c1; rw [hl] at c1; exact c1.elim
      | _ => exact c1.elim
    | _ => rw [hg, hg2] at c; exact c.elim
  | _ => rw [hg] at c; exact c.elim
theorem s_drop {e : E} (h : Ye U W K Y te fun env => evE env e) : Ys U W K Y (tDrop te) fun env => (evR env e).out env fun _ => .nx env := fun Hb D σ Z H env k hE c =>
  y_R h hE H (Ex.refl H) _ (fin_out k hE c fun d v H' e rb c' => c' _ _ _ (k.mono e) (hE.mono e))
theorem s_ret {e : E} (h : Ye U W K Y te fun env => evE env e) : Ys U W K Y (tRet te) fun env => (evR env e).out env .ret := fun Hb D σ Z H env k hE c =>
  y_R h hE H (Ex.refl H) _ (fin_out k hE c fun d v H' e rb c' => c' v H' (k.ex.trans e) rb)
theorem s_ifs {c : E} {tc : TT} (hc : ∀ σ Z H env, EnvOk U K Y Z H σ env → Yl U W RQ tc σ H (evT env c)) (ht : Ys U W K Y t f) (hu : Ys U W K Y u g) : Ys U W K Y (tIfS tc t u) fun env => (evB env c).out env fun k => match k with
    | true => f env
    | false => g env := fun Hb D σ Z H env k hE cn =>
  y_B hc hE H (Ex.refl H) _ (fin_out k hE cn fun d v H' e rb c' => by
    cases rb
    cases d with
    | true => exact ht Hb D σ Z H' env (k.mono e) (hE.mono e) c'
    | false => exact hu Hb D σ Z H' env (k.mono e) (hE.mono e) c')
theorem s_rai {c : Nat} {C : Addr} (hC : U.ec c = some C) : Ys U W K Y (fun _ σ H => W (.ref C) none σ H) fun env => .exc c env := fun Hb D σ Z H env k hE cn => by
  obtain ⟨C', h1, h2⟩ := cn
  rw [hC] at h1
  cases h1
  exact h2 σ Z H k hE
/-- a loop's body, by what follows -/
theorem cnt_turn {o : Out} {rest : Env → Out} {N : L2.St → Hp → Prop} {Hb' : Hp} (e : Ex Hb Hb') (h : Cnt U W K Y Hb Dd (o.turn rest)) (hN : ∀ env σ Z H, Cnt U W K Y Hb Dd (rest env) → Kp Hb' Y Z H → EnvOk U K Y Z H σ env → N σ H) :
    Cnt U W K Y Hb' { Dd with nx := N, ct := N, bk := Dd.nx } o := by
  cases o with
  | nx env => exact fun σ Z H k hE => hN env σ Z H h k hE
  | brk env => exact fun σ Z H k => h σ Z H (e.trans k)
  | ret d => exact fun v H k => h v H (e.trans k)
  | exc c env => obtain ⟨C, h1, h2⟩ := h; exact ⟨C, h1, fun σ Z H k => h2 σ Z H (e.trans k)⟩
  | bad => exact h
theorem s_for {wi : TI} {tb : TS} {fi : Env → Res (List D)} {tg : Tg} {fb : Env → Out} (hi : ∀ σ Z H env, EnvOk U K Y Z H σ env → Yl U W (RI U K Z) wi σ H (fi env)) (hb : Ys U W K Y tb fb) :
    Ys U W K Y (tFor wi (tg.g K) tb) fun env => (fi env).out env fun ds => forGo (fun d env => (tg.run env d).out env fb) ds env := fun Hb D σ Z H env k hE c => by
  refine hi σ Z H env hE H (Ex.refl H) _ (fin_out k hE c fun ds J H1 e wk c1 => ?_)
  refine ⟨fun i m σ' H' => m = ds.length - i ∧ i ≤ ds.length ∧ ∃ Z' env', Kp (sv H1 Z Y) Y Z' H' ∧ EnvOk U K Y Z' H' σ' env' ∧ Cnt U W K Y Hb D (forGo (fun d env => (tg.run env d).out env fb) (ds.drop i) env'),
    ⟨ds.length, by simp, Nat.zero_le _, Z, env, Ex.refl _, hE.mono e, by rw [List.drop_zero]; exact c1⟩, ?_⟩
  rintro i m σ' H' ⟨rfl, hil, Z', env', k', hE', c'⟩
  have k1 := k.mono e
  obtain ⟨walk, stop⟩ := wk H' Z' (k'.view hE.sub)
  by_cases hlt : i < ds.length
  · obtain ⟨go, yl⟩ := walk i hlt
    refine .inr ⟨go, fun σ3 H3 => ∃ Z3 env3, Kp (sv H' Z' Y) Y Z3 H3 ∧ EnvOk U K Y Z3 H3 σ3 env3 ∧ Cnt U W K Y Hb D (forGo (fun d env => (tg.run env d).out env fb) (ds.drop (i + 1)) env3), ?_, ?_⟩
    · rintro σ3 H3 ⟨Z3, env3, k3, hE3, c3⟩
      exact ⟨ds.length - (i + 1), by omega, rfl, hlt, Z3, env3, k'.trans k3, hE3, c3⟩
    · intro x H'' hy
      obtain ⟨rfl, d, hd, dx⟩ := yl x H'' hy
      have hdrop : ds.drop i = d :: ds.drop (i + 1) := by
        rw [List.drop_eq_getElem_cons hlt]
        rw [List.getElem?_eq_getElem hlt] at hd
        rw [Option.some.inj hd]
      rw [hdrop] at c'
      have c' : Cnt U W K Y Hb D (((tg.run env' d).out env' fb).turn (forGo (fun d env => (tg.run env d).out env fb) (ds.drop (i + 1)))) := c'
      cases ht : tg.run env' d with
      | ok env2 =>
        rw [ht] at c'
        refine g_run [] hE' dx ht (fun _ _ => .inr rfl) fun σ2 hE2 _ => ?_
        exact hb (sv H'' Z' Y) _ σ2 Z' H'' env2 (Ex.refl _) hE2 (cnt_turn (k1.trans k') c' fun env3 σ3 Z3 H3 c3 k3 hE3 => ⟨Z3, env3, k3, hE3, c3⟩)
      | exc c2 => exact absurd ht (tg_nox c2)
      | bad => rw [ht] at c'; exact c'.elim
  · have hi' : i = ds.length := by omega
    subst hi'
    rw [List.drop_length] at c'
    exact .inl ⟨stop, c' _ _ _ (k1.trans k') hE'⟩
theorem s_whil {n : Nat} {c : E} {tc : TT} {tb : TS} {fb : Env → Out} (hc : ∀ σ Z H env, EnvOk U K Y Z H σ env → Yl U W RQ tc σ H (evT env c)) (hb : Ys U W K Y tb fb) :
    Ys U W K Y (tWhile tc tb) fun env => whGo (fun env => evB env c) fb n env := fun Hb D σ Z H env k hE cn => by
  refine ⟨fun m σ' H' => ∃ Z' env', Kp Hb Y Z' H' ∧ EnvOk U K Y Z' H' σ' env' ∧ Cnt U W K Y Hb D (whGo (fun env => evB env c) fb m env'), ⟨n, Z, env, k, hE, cn⟩, ?_⟩
  rintro m σ' H' ⟨Z', env', k', hE', c'⟩
  cases m with
  | zero => exact c'.elim
  | succ m =>
    refine y_B hc hE' H' (Ex.refl H') _ (fin_out k' hE' c' fun b b' H2 e rb c2 => ?_)
    cases rb
    cases b with
    | true =>
      refine ⟨fun σ3 H3 => ∃ Z3 env3, Kp Hb Y Z3 H3 ∧ EnvOk U K Y Z3 H3 σ3 env3 ∧ Cnt U W K Y Hb D (whGo (fun env => evB env c) fb m env3), fun σ3 H3 q => ⟨m, Nat.lt_succ_self m, q⟩, ?_⟩
      exact hb Hb _ σ' Z' H2 env' (k'.mono e) (hE'.mono e) (cnt_turn (Ex.refl _) c2 fun env3 σ3 Z3 H3 c3 k3 hE3 => ⟨Z3, env3, k3, hE3, c3⟩)
    | false => exact c2 _ _ _ (k'.mono e) (hE'.mono e)
theorem s_try {cv : Value} {c i j : Nat} {tb : WX → TS} {fb : Env → Out} {Wout : WX} (hij : i ≠ j) (hec : ∀ c', c' < 5 → ∃ C, U.ec c' = some C ∧ PySem.W.exmOne K (.ref C) cv = some (below c' c)) (hb : ∀ W, Ys U W K Y (tb W) fb) :
    Ys U Wout K Y (fun D σ H => tb (wKeep K cv i j Wout D) D σ H) fun env => match fb env with
      | .exc c' env' => match decide (c' < 5), below c' c with
        | true, true => .nx ((env'.set j (.dat (exn c'))).set i .none)
        | true, false => .exc c' env'
        | false, _ => .bad
      | o => o := fun Hb D σ Z H env k hE cn => by
  have cn : Cnt U Wout K Y Hb D (match fb env with
      | .exc c' env' => match decide (c' < 5), below c' c with
        | true, true => .nx ((env'.set j (.dat (exn c'))).set i .none)
        | true, false => .exc c' env'
        | false, _ => .bad
      | o => o) := cn
  refine hb _ Hb D σ Z H env k hE ?_
  cases hf : fb env with
  | nx env' => rw [hf] at cn; exact cn
  | brk env' => rw [hf] at cn; exact cn
  | ret d => rw [hf] at cn; exact cn
  | bad => rw [hf] at cn; exact cn
  | exc c' env' =>
    rw [hf] at cn
    cases h5 : decide (c' < 5) with
    | false => dsimp only at cn; rw [h5] at cn; exact cn.elim
    | true =>
      obtain ⟨C, hC, hm⟩ := hec c' (of_decide_eq_true h5)
      dsimp only at cn
      rw [h5] at cn
      refine ⟨C, hC, fun σ' Z' H' k' hE' => ⟨below c' c, hm, fun hb1 => ?_, fun hb1 => ?_⟩⟩
      · rw [hb1] at cn
        refine ⟨C, rfl, rfl, fun a na => ?_⟩
        have e : Ex H' (upd H' a (ExT C a)) := Ex.new na
        refine cn _ Z' _ (k'.mono e) ?_
        have hd : Dat U K (view (upd H' a (ExT C a)) Z') (.ref a) (exn c') := .exc hC (by rw [view_out (hE'.zt.not na)]; exact upd_same)
        have r := ((hE'.mono e).set j hd).unset i none
        rw [List.set_comm _ _ hij, List.set_set]
        exact r
      · rw [hb1] at cn
        obtain ⟨C', h1, h2⟩ := cn
        rw [hC] at h1
        cases h1
        exact h2 σ' Z' H' k' hE'
end
end Rwl

set_option Elab.async false
set_option linter.all false
set_option maxRecDepth 100000
set_option maxHeartbeats 2000000
/-! Rwl, part K: the checker of expressions, and that it is sound. -/
namespace Rwl
open PySem PySem.Spec PyProof.Rows L2 Evl

/-! ### the checker -/
/-- N: the frame's names; sc: the block's scope; inn: within a comprehension, its own scope; T: the defs that are called, by number -/
structure Ck where
  N : List Str
  sc : Scope
  inn : Option Scope
  T : List (Str × Nat)
def visC (sc : Scope) (x : Str) : Bool := match sc.names.lookup x with
  | some .local => true
  | some .cell => true
  | some .free => true
  | _ => false
def locC (sc : Scope) (inn : Option Scope) (x : Str) : Bool := match sc.names.lookup x with
  | some .local => true
  | some .cell => match inn with
    | none => true
    | some s => match s.names.lookup x with
      | some .cell => true
      | _ => false
  | _ => false
def Ck.var (c : Ck) (i : Nat) (x : Str) : Bool := decide (c.N[i]? = some x) && visC c.sc x && !(x == ("__debug__" : Str)) && !(x == ("__classdict__" : Str))
def Ck.loc (c : Ck) (i : Nat) (x : Str) : Bool := decide (c.N[i]? = some x) && locC c.sc c.inn x
def Ck.gl (c : Ck) (x : Str) : Bool := (match c.sc.names.lookup x with
  | some .globalImplicit => true
  | _ => false) && !(x == ("__debug__" : Str))
def Ty.nm : Ty → Str
  | .int => "int"
  | .bool => "bool"
  | .tuple => "tuple"
  | .cls 0 => "BadKind"
  | .cls 1 => "BadOrder"
  | .cls 2 => "BadSpot"
  | .cls 3 => "BadText"
  | .cls 4 => "BadWeb"
  | .cls 5 => "LayError"
  | .cls _ => "ValueError"
def E.len : E → Nat
  | .cons _ b => b.len + 1
  | _ => 0
def ownN (N : List Str) (own : List Nat) : List (Str × Nat) := own.map fun i => ((N[i]?).getD ("" : Str), i)
def chkNames (c : Ck) : List Nat → List Expr → Bool
  | [], es => match es with
    | [] => true
    | _ => false
  | i :: is, es => match es with
    | .Name x _ :: r => c.loc i x && chkNames c is r
    | _ => false
def chkTg (c : Ck) (t : Tg) (e : Expr) : Bool := match t.many with
  | false => match t.is, e with
    | [i], .Name x _ => c.loc i x
    | _, _ => false
  | true => match e with
    | .Tuple es _ _ => chkNames c t.is es
    | _ => false
/-- within a comprehension -/
def Ck.cmp (c : Ck) (scope : Scope) : Ck := { c with sc := relS scope c.sc, inn := some scope }
structure Chk where
  e : Expr → Bool := fun _ => false
  t : Expr → Bool := fun _ => false
  l : List Expr → Bool := fun _ => false
  tl : List Expr → Bool := fun _ => false
  i : Expr → Bool := fun _ => false
def Chk.both (f : Expr → Bool) : Chk := { e := f, t := f, i := f }
def pickCO (i : E) (f : Expr → Bool) : Option Expr → Bool := match i with
  | .nop => fun o => match o with
    | none => true
    | some _ => false
  | _ => fun o => match o with
    | some x => f x
    | none => false
def pickCP (i : E) (f : Expr → Bool) : List Expr → Bool := match i with
  | .nop => fun o => match o with
    | [] => true
    | _ => false
  | _ => fun o => match o with
    | [x] => f x
    | _ => false
def chk : E → Ck → Chk
  | .var i, c => .both fun e => match e with
    | .Name x _ => c.var i x
    | _ => false
  | .int n, _ => .both fun e => match e with
    | .Constant (.int m) _ _ => decide (n = m)
    | _ => false
  | .str s, _ => .both fun e => match e with
    | .Constant (.str t) _ _ => decide (s = t)
    | _ => false
  | .bl b, _ => .both fun e => match e with
    | .Constant (.bool k) _ _ => decide (b = k)
    | _ => false
  | .non, _ => .both fun e => match e with
    | .Constant .none _ _ => true
    | _ => false
  | .glb x _, c => .both fun e => match e with
    | .Name y _ => decide (x = y) && c.gl y
    | _ => false
  | .bin o a b, c => .both fun e => match e with
    | .BinOp x op y _ => decide (op = o.op) && (chk a c).e x && (chk b c).e y
    | _ => false
  | .neg a, c => .both fun e => match e with
    | .UnaryOp .USub x _ => (chk a c).e x
    | _ => false
  | .not a, c => {
    e := fun e => match e with
      | .UnaryOp .Not x _ => (chk a c).e x
      | _ => false
    t := fun e => match e with
      | .UnaryOp .Not x _ => (chk a c).t x
      | _ => false }
  | .cmp o a b, c => .both fun e => match e with
    | .Compare x [op] [y] _ => decide (op = o.op) && nset y && (chk a c).e x && (chk b c).e y
    | _ => false
  | .ch2 o p a b d, c => .both fun e => match e with
    | .Compare x [op, op2] [y, z] _ => decide (op = o.op) && decide (op2 = p.op) && !lastMarks [o.op, p.op] [y, z] && (chk a c).e x && (chk b c).e y && (chk d c).e z
    | _ => false
  | .ch3 o p q a b d f, c => .both fun e => match e with
    | .Compare x [op, op2, op3] [y, z, w] _ => decide (op = o.op) && decide (op2 = p.op) && decide (op3 = q.op) && !lastMarks [o.op, p.op, q.op] [y, z, w] && (chk a c).e x && (chk b c).e y && (chk d c).e z && (chk f c).e w
    | _ => false
  | .and es, c => {
    e := fun e => match e with
      | .BoolOp .And vs _ => (chk es c).l vs
      | _ => false
    t := fun e => match e with
      | .BoolOp .And vs _ => (chk es c).tl vs
      | _ => false
    i := fun e => match e with
      | .BoolOp .And vs _ => (chk es c).l vs
      | _ => false }
  | .or es, c => {
    e := fun e => match e with
      | .BoolOp .Or vs _ => (chk es c).l vs
      | _ => false
    t := fun e => match e with
      | .BoolOp .Or vs _ => (chk es c).tl vs
      | _ => false
    i := fun e => match e with
      | .BoolOp .Or vs _ => (chk es c).l vs
      | _ => false }
  | .ite t a b, c => {
    e := fun e => match e with
      | .IfExp x y z _ => (chk t c).t x && (chk a c).e y && (chk b c).e z
      | _ => false
    i := fun e => match e with
      | .IfExp x y z _ => (chk t c).t x && (chk a c).e y && (chk b c).e z
      | _ => false }
  | .nil, _ => { l := fun es => match es with
    | [] => true
    | _ => false }
  | .cons a b, c => {
    l := fun es => match es with
      | e :: r => nst e && (chk a c).e e && (chk b c).l r
      | _ => false
    tl := fun es => match b with
      | .nil => match es with
        | [e] => (chk a c).t e
        | _ => false
      | _ => match es with
        | e :: x :: r => (chk a c).t e && (chk b c).tl (x :: r)
        | _ => false }
  | .tup es, c => .both fun e => match e with
    | .Tuple vs _ _ => (chk es c).l vs
    | _ => false
  | .lst es, c => .both fun e => match e with
    | .List vs _ => (chk es c).l vs
    | _ => false
  | .ix a i, c => .both fun e => match e with
    | .Subscript x y _ => nsl y && (chk a c).e x && (chk i c).e y
    | _ => false
  | .nop, _ => {}
  | .sl a lo hi, c => .both fun e => match e with
    | .Subscript x (.Slice l h none _) _ => (chk a c).e x && pickCO lo (chk lo c).e l && pickCO hi (chk hi c).e h
    | _ => false
  | .rev a, c => .both fun e => match e with
    | .Subscript x (.Slice none none (some (.UnaryOp .USub (.Constant (.int 1) _ _) _)) _) _ => (chk a c).e x
    | _ => false
  | .bi k es, c => .both fun e => match e with
    | .Call (.Name x _) (a :: as) [] _ => decide (x = k.name) && c.gl x && (a :: as).all nst && (chk es c).l (a :: as)
    | _ => false
  | .maxd a d, c => .both fun e => match e with
    | .Call (.Name x _) [y] [⟨some w, z, _⟩] _ => decide (x = ("max" : Str)) && decide (w = ("default" : Str)) && c.gl x && nst y && (chk a c).e y && (chk d c).e z
    | _ => false
  | .lrg a, c => .both fun e => match e with
    | .Call (.Name x _) [.Call (.Name y _) [z] [] _] [] _ => decide (x = ("list" : Str)) && decide (y = ("range" : Str)) && c.gl x && c.gl y && nst z && (chk a c).e z
    | _ => false
  | .isi a t, c => .both fun e => match e with
    | .Call (.Name x _) [y, .Name z _] [] _ => decide (x = ("isinstance" : Str)) && decide (z = t.nm) && c.gl x && c.gl z && nst y && (chk a c).e y
    | _ => false
  | .call k _ es, c => .both fun e => match e with
    | .Call (.Name x _) (a :: as) [] _ => decide (c.T[k]? = some (x, es.len)) && c.gl x && (a :: as).all nst && (chk es c).l (a :: as)
    | _ => false
  | .mt m a es, c => .both fun e => match e with
    | .Call (.Attribute o nm ap) [y] [] pos => decide (nm = m.nm) && nsup o && nst y && (ap.endLine == pos.line) && (chk a c).e o && (chk es c).l [y]
    | _ => false
  | .ms m a es, c => .both fun e => match e with
    | .Call (.Attribute o nm ap) [y] [] pos => decide (nm = m.nm) && nsup o && nst y && (ap.endLine == pos.line) && (chk a c).e o && (chk es c).l [y]
    | _ => false
  | .lc own t it cn el, c => .both fun e => match e with
    | .ListComp elt [⟨tg, iter, ifs, 0⟩] scope _ => c.inn.isNone && blkC c.N c.sc scope (ownN c.N own) && nset iter && !own.isEmpty && t.is.all (fun i => own.contains i) && chkTg (c.cmp scope) t tg && (chk it c).i iter && pickCP cn (chk cn (c.cmp scope)).t ifs && (chk el (c.cmp scope)).e elt
    | _ => false
  | .rng1 a, c => { i := fun e => match e with
    | .Call (.Name x _) [y] [] _ => decide (x = ("range" : Str)) && c.gl x && nst y && (chk a c).e y
    | _ => false }
  | .rng2 a b, c => { i := fun e => match e with
    | .Call (.Name x _) [y, z] [] _ => decide (x = ("range" : Str)) && c.gl x && nst y && nst z && (chk a c).e y && (chk b c).e z
    | _ => false }
def chkE (c : Ck) (i : E) (e : Expr) : Bool := (chk i c).e e
def chkT (c : Ck) (i : E) (e : Expr) : Bool := (chk i c).t e
def chkL (c : Ck) (i : E) (es : List Expr) : Bool := (chk i c).l es
def chkTL (c : Ck) (i : E) (es : List Expr) : Bool := (chk i c).tl es
def chkI (c : Ck) (i : E) (e : Expr) : Bool := (chk i c).i e
def chkO (c : Ck) (i : E) (e : Option Expr) : Bool := pickCO i (chk i c).e e
def chkP (c : Ck) (i : E) (es : List Expr) : Bool := pickCP i (chk i c).t es
example (a : E) (env : Env) : evE env (.neg a) = (evE env a).bind negD := rfl
example (a : E) (c : Ck) (x : Expr) (pos : Pos) : chkE c (.neg a) (.UnaryOp .USub x pos) = chkE c a x := rfl
end Rwl

set_option Elab.async false
set_option linter.all false
set_option maxRecDepth 100000
set_option maxHeartbeats 2000000
/-! Rwl, part L: the checker of expressions is sound. -/
namespace Rwl
open PySem PySem.Spec PyProof.Rows L2 Evl

/-- what a context must bear -/
structure Cok (U : Ux) (c : Ck) (X : Cx) (W : WX) : Prop where
  N : X.N = c.N
  nd : c.N.Nodup
  sc : X.env.scope = c.sc
  fn : ∀ x, locC c.sc c.inn x = true → X.fn x = true ∨ X.env.scope.names.lookup x = some .local
  calm : X.calm = true
  tk : Takes X W
  hu : X.A.units + 64 < cLine
  bi : ∀ k : Bi, X.mg k.name = none
  rg : X.mg "range" = none
  isi : X.mg "isinstance" = none
  ty : ∀ t : Ty, TyIs U X t.nm t
  fr : c.inn = none → X.stack = X.env :: X.outer ∧ X.env.frame = some X.env.locals
def FC (U : Ux) (T : List (Str × Nat)) (X : Cx) : Nat → (List D → Res D) → Prop := fun k f => ∃ x m, T[k]? = some (x, m) ∧ FOk U X x m f
def GC (U : Ux) (X : Cx) : Str → D → Prop := fun x d => ∃ v cv, X.mg x = some cv ∧ RelV v cv ∧ ∀ H, Dat U X.K H v d
/-- what is called, what is read of the module -/
def E.cl (pc : Nat → (List D → Res D) → Prop) (pg : Str → D → Prop) : E → Prop
  | .glb x d => pg x d
  | .bin _ a b => a.cl pc pg ∧ b.cl pc pg
  | .neg a => a.cl pc pg
  | .not a => a.cl pc pg
  | .cmp _ a b => a.cl pc pg ∧ b.cl pc pg
  | .ch2 _ _ a b c => a.cl pc pg ∧ b.cl pc pg ∧ c.cl pc pg
  | .ch3 _ _ _ a b c d => a.cl pc pg ∧ b.cl pc pg ∧ c.cl pc pg ∧ d.cl pc pg
  | .and es => es.cl pc pg
  | .or es => es.cl pc pg
  | .ite c a b => c.cl pc pg ∧ a.cl pc pg ∧ b.cl pc pg
  | .cons a b => a.cl pc pg ∧ b.cl pc pg
  | .tup es => es.cl pc pg
  | .lst es => es.cl pc pg
  | .ix a i => a.cl pc pg ∧ i.cl pc pg
  | .sl a lo hi => a.cl pc pg ∧ lo.cl pc pg ∧ hi.cl pc pg
  | .rev a => a.cl pc pg
  | .bi _ es => es.cl pc pg
  | .maxd a d => a.cl pc pg ∧ d.cl pc pg
  | .lrg a => a.cl pc pg
  | .isi a _ => a.cl pc pg
  | .call k f es => pc k f ∧ es.cl pc pg
  | .mt _ a es => a.cl pc pg ∧ es.cl pc pg
  | .ms _ a es => a.cl pc pg ∧ es.cl pc pg
  | .lc _ _ it c e => it.cl pc pg ∧ c.cl pc pg ∧ e.cl pc pg
  | .rng1 a => a.cl pc pg
  | .rng2 a b => a.cl pc pg ∧ b.cl pc pg
  | _ => True
section
variable {U : Ux} {Y : List Addr} {X : Cx} {W : WX} {c : Ck}
abbrev E.ok (U : Ux) (c : Ck) (X : Cx) (i : E) : Prop := i.cl (FC U c.T X) (GC U X)
theorem and2 {a b : Bool} (h : (a && b) = true) : a = true ∧ b = true := by simpa using h
theorem not1 {a : Bool} (h : (!a) = true) : a = false := by simpa using h
theorem gl_of (k : Cok U c X W) {x : Str} (h : c.gl x = true) : Gl X x ∧ (x == ("__debug__" : Str)) = false := by
  obtain ⟨h1, h2⟩ := and2 h
  refine ⟨?_, not1 h2⟩
  show X.env.scope.names.lookup x = _
  rw [k.sc]
  split at h1
  · assumption
  · cases h1
theorem var_pe (k : Cok U c X W) {i : Nat} {x : Str} {pos : Pos} (h : c.var i x = true) : PE X (.Name x pos) (tVar i) := by
  obtain ⟨h, h4⟩ := and2 h
  obtain ⟨h, h3⟩ := and2 h
  obtain ⟨h1, h2⟩ := and2 h
  refine pe_var (by rw [k.N]; exact of_decide_eq_true h1) ?_ (not1 h3) (not1 h4)
  unfold Vis
  rw [k.sc]
  unfold visC at h2
  split at h2
  · exact .inl (by assumption)
  · exact .inr (.inl (by assumption))
  · exact .inr (.inr (by assumption))
  · cases h2
theorem loc_of (k : Cok U c X W) {i : Nat} {x : Str} (h : c.loc i x = true) : X.N[i]? = some x ∧ L2.Loc X.env.scope x ∧ (X.fn x = true ∨ X.env.scope.names.lookup x = some .local) := by
  obtain ⟨h1, h2⟩ := and2 h
  refine ⟨by rw [k.N]; exact of_decide_eq_true h1, ?_, k.fn x h2⟩
  unfold L2.Loc
  rw [k.sc]
  unfold locC at h2
  split at h2
  · exact .inl (by assumption)
  · exact .inr (by assumption)
  · cases h2
theorem nd_of (k : Cok U c X W) : X.N.Nodup := by rw [k.N]; exact k.nd
theorem names_len {env : PySem.Env} : ∀ {is : List Nat} {es : List Expr}, chkNames c is es = true → (assignEach es env).length = is.length ∧ (assignEach es env).findIdx? (·.1) = none
  | [], es, h => by
    cases es with
    | nil => exact ⟨rfl, rfl⟩
    | cons _ _ => cases h
  | i :: is, es, h => by
    cases es with
    | nil => cases h
    | cons e r =>
      cases e with
      | Name x pos =>
        obtain ⟨h1, h2⟩ := names_len (env := env) (and2 h).2
        refine ⟨congrArg (· + 1) h1, ?_⟩
        show List.findIdx? (·.1) ((false, assign (.Name x pos) env) :: assignEach r env) = none
        rw [List.findIdx?_cons, h2]
        rfl
      | _ => cases h
theorem names_pg (k : Cok U c X W) : ∀ {is : List Nat} {es : List Expr}, chkNames c is es = true → PGs X es (gNames is)
  | [], es, h => by
    cases es with
    | nil => exact pgs_nil
    | cons _ _ => cases h
  | i :: is, es, h => by
    cases es with
    | nil => cases h
    | cons e r =>
      cases e with
      | Name x pos =>
        obtain ⟨h1, h2⟩ := and2 h
        obtain ⟨l1, l2, l3⟩ := loc_of k h1
        exact pgs_cons (pg_name (nd_of k) l1 l2 l3) (names_pg k h2)
      | _ => cases h
theorem tg_pg (k : Cok U c X W) {t : Tg} {e : Expr} (h : chkTg c t e = true) : PG X e (t.g X.K) := by
  obtain ⟨m, is⟩ := t
  cases m with
  | false =>
    match is, h with
    | [], h => cases h
    | [i], h =>
      cases e with
      | Name x pos =>
        obtain ⟨l1, l2, l3⟩ := loc_of k h
        exact pg_name (nd_of k) l1 l2 l3
      | _ => cases h
    | _ :: _ :: _, h => cases h
  | true =>
    cases e with
    | Tuple es kk pos =>
      have h : chkNames c is es = true := h
      obtain ⟨q1, q2⟩ := names_len (env := X.env) h
      exact pg_tup k.calm (names_pg k h) q1 q2
    | _ => cases h
theorem cok_blk (k : Cok U c X W) (scope : Scope) (σ : L2.St) (s : Shared) (H0 : Hp) (C : Addr) (cl : List (Str × Addr)) (fp : List Addr) : Cok U (c.cmp scope) (blkW X (Wc W σ) s H0 scope (compEnvC scope cl C X.env) fp) (Wc W σ) := by
  have hs : (compEnvC scope cl C X.env).scope = relS scope c.sc := by
    show relabel scope X.env = _
    rw [← k.sc]
    rfl
  refine ⟨k.N, k.nd, hs, fun x h => ?_, k.calm, blkW_takes, k.hu, k.bi, k.rg, k.isi, (fun t => ⟨(k.ty t).val⟩), (fun h => nomatch h)⟩
  have h : locC (relS scope c.sc) (some scope) x = true := h
  show (scope.names.lookup x == some .cell) = true ∨ (compEnvC scope cl C X.env).scope.names.lookup x = some .local
  rw [hs]
  unfold locC at h
  split at h
  · exact .inr (by assumption)
  · dsimp only at h
    split at h
    · left
      rename_i q
      rw [q]
      rfl
    · cases h
  · cases h

/-! ### soundness, by kinds -/
def SndE (U : Ux) (Y : List Addr) (i : E) : Prop := ∀ {c : Ck} {X : Cx} {W : WX} {e : Expr}, Cok U c X W → i.ok U c X → chkE c i e = true → ∀ {σ : L2.St} {Z : List Addr} {H : Hp} {env : Env}, EnvOk U X.K Y Z H σ env → Yl U W (RE U X.K Z) (Ew X e) σ H (evE env i)
def SndC (U : Ux) (Y : List Addr) (i : E) : Prop := ∀ {c : Ck} {X : Cx} {W : WX} {e : Expr}, Cok U c X W → i.ok U c X → chkE c i e = true → ∀ {σ : L2.St} {Z : List Addr} {H : Hp} {env : Env}, EnvOk U X.K Y Z H σ env → Yl U W (RC U X.K Z) (Ew X e) σ H (evC env i)
def SndT (U : Ux) (Y : List Addr) (i : E) : Prop := ∀ {c : Ck} {X : Cx} {W : WX} {e : Expr}, Cok U c X W → i.ok U c X → chkT c i e = true → ∀ {σ : L2.St} {Z : List Addr} {H : Hp} {env : Env}, EnvOk U X.K Y Z H σ env → Yl U W RQ (Tw X e) σ H (evT env i)
def SndL (U : Ux) (Y : List Addr) (i : E) : Prop := ∀ {c : Ck} {X : Cx} {W : WX} {es : List Expr}, Cok U c X W → i.ok U c X → chkL c i es = true → ∀ {σ : L2.St} {Z : List Addr} {H : Hp} {env : Env}, EnvOk U X.K Y Z H σ env → Yl U W (RL U X.K Z) (Aw X es) σ H (evL env i)
def SndA (U : Ux) (Y : List Addr) (i : E) : Prop := ∀ {c : Ck} {X : Cx} {W : WX} {es : List Expr} {pos : Pos}, Cok U c X W → i.ok U c X → chkL c i es = true → ∀ {σ : L2.St} {Z : List Addr} {H : Hp} {env : Env}, EnvOk U X.K Y Z H σ env → Yl U W (RE U X.K Z) (Ew X (.BoolOp .And es pos)) σ H (evAnd env i)
def SndR (U : Ux) (Y : List Addr) (i : E) : Prop := ∀ {c : Ck} {X : Cx} {W : WX} {es : List Expr} {pos : Pos}, Cok U c X W → i.ok U c X → chkL c i es = true → ∀ {σ : L2.St} {Z : List Addr} {H : Hp} {env : Env}, EnvOk U X.K Y Z H σ env → Yl U W (RE U X.K Z) (Ew X (.BoolOp .Or es pos)) σ H (evOr env i)
def SndTA (U : Ux) (Y : List Addr) (i : E) : Prop := ∀ {c : Ck} {X : Cx} {W : WX} {es : List Expr} {pos : Pos}, Cok U c X W → i.ok U c X → chkTL c i es = true → ∀ {σ : L2.St} {Z : List Addr} {H : Hp} {env : Env}, EnvOk U X.K Y Z H σ env → Yl U W RQ (Bw X (.BoolOp .And es pos)) σ H (evTAnd env i)
def SndTR (U : Ux) (Y : List Addr) (i : E) : Prop := ∀ {c : Ck} {X : Cx} {W : WX} {es : List Expr} {pos : Pos}, Cok U c X W → i.ok U c X → chkTL c i es = true → ∀ {σ : L2.St} {Z : List Addr} {H : Hp} {env : Env}, EnvOk U X.K Y Z H σ env → Yl U W RQ (Bw X (.BoolOp .Or es pos)) σ H (evTOr env i)
def SndO (U : Ux) (Y : List Addr) (i : E) : Prop := ∀ {c : Ck} {X : Cx} {W : WX} {e : Option Expr}, Cok U c X W → i.ok U c X → chkO c i e = true → ∀ {σ : L2.St} {Z : List Addr} {H : Hp} {env : Env}, EnvOk U X.K Y Z H σ env → Yl U W RQ (Ow X e) σ H (evO env i)
def SndP (U : Ux) (Y : List Addr) (i : E) : Prop := ∀ {c : Ck} {X : Cx} {W : WX} {es : List Expr}, Cok U c X W → i.ok U c X → chkP c i es = true → ∀ {σ : L2.St} {Z : List Addr} {H : Hp} {env : Env}, EnvOk U X.K Y Z H σ env → Yl U W RQ (Pw X es) σ H (evP env i)
def SndI (U : Ux) (Y : List Addr) (i : E) : Prop := ∀ {c : Ck} {X : Cx} {W : WX} {tg e : Expr}, Cok U c X W → i.ok U c X → chkI c i e = true → ∀ {σ : L2.St} {Z : List Addr} {H : Hp} {env : Env}, EnvOk U X.K Y Z H σ env → Yl U W (RI U X.K Z) (Iw X tg e) σ H (evI env i)
structure Snd (U : Ux) (Y : List Addr) (i : E) : Prop where
  e : SndE U Y i
  c : SndC U Y i
  t : SndT U Y i
  l : SndL U Y i
  a : SndA U Y i
  r : SndR U Y i
  ta : SndTA U Y i
  tr : SndTR U Y i
  o : SndO U Y i
  p : SndP U Y i
  i : SndI U Y i
theorem Snd.mk0 {i : E} (hE : SndE U Y i) (hT : SndT U Y i) (h1 : ∀ env, evC env i = evE env i := by intro _; rfl) (h2 : ∀ c es, chkL c i es = false := by intros; rfl) (h3 : ∀ c es, chkTL c i es = false := by intros; rfl)
    (h4 : ∀ c, chkO c i none = false := by intros; rfl) (h4' : ∀ c x, chkO c i (some x) = chkE c i x := by intros; rfl) (h5 : ∀ env, evO env i = (evE env i).bind fun x => (asInt x).bind fun i => .ok (some i) := by intros; rfl)
    (h6 : ∀ c, chkP c i [] = false := by intros; rfl) (h6' : ∀ c x, chkP c i [x] = chkT c i x := by intros; rfl) (h6'' : ∀ c x y r, chkP c i (x :: y :: r) = false := by intros; rfl) (h7 : ∀ env, evP env i = evT env i := by intros; rfl)
    (h8 : ∀ {c e}, chkI c i e = true → chkE c i e = true := by intro _ _ h; first | exact h | cases h) : Snd U Y i := by
  refine ⟨hE, fun k o h σ Z H env hE' => ?_, hT, fun k o h => ?_, fun k o h => ?_, fun k o h => ?_, fun k o h => ?_, fun k o h => ?_, fun {c X W e} k o h σ Z H env hE' => ?_, fun {c X W es} k o h σ Z H env hE' => ?_, fun k o h σ Z H env hE' => y_seq (hE k o (h8 h) hE')⟩
  · rw [h1]; exact y_con (hE k o h hE')
  · rw [h2] at h; cases h
  · rw [h2] at h; cases h
  · rw [h2] at h; cases h
  · rw [h3] at h; cases h
  · rw [h3] at h; cases h
  · cases e with
    | none => rw [h4] at h; cases h
    | some x => rw [h4'] at h; rw [h5]; exact y_O1 (hE k o h hE')
  · match es, h with
    | [], h => rw [h6] at h; cases h
    | [x], h => rw [h6'] at h; rw [h7]; exact y_P1 (hT k o h hE')
    | _ :: _ :: _, h => rw [h6''] at h; cases h
/-- a test that is the value's truth -/
theorem sndT_of {i : E} (hE : SndE U Y i) (h1 : ∀ {c e}, chkT c i e = true → chkE c i e = true ∧ ntest e = true) (h2 : ∀ env, evT env i = (evE env i).bind tru := by intro _; rfl) : SndT U Y i := fun k o h σ Z H env hE' => by
  rw [h2]
  exact y_T (h1 h).2 (y_con (hE k o (h1 h).1 hE'))
theorem sndT_no {i : E} (h1 : ∀ c e, chkT c i e = false := by intros; rfl) : SndT U Y i := fun k o h => by rw [h1] at h; cases h
theorem bind_assoc {α β γ : Type} (r : Res α) (f : α → Res β) (g : β → Res γ) : (r.bind f).bind g = r.bind fun a => (f a).bind g := by cases r <;> rfl
theorem bind_eta {α : Type} (r : Res α) : (r.bind fun k => .ok k) = r := by cases r <;> rfl
theorem evL_len {env : Env} : ∀ {i : E} {ds : List D}, evL env i = .ok ds → ds.length = i.len := by
  intro i
  induction i with
  | nil => intro ds h; cases ok_inj h; rfl
  | cons a b _ ih =>
    intro ds h
    obtain ⟨x, _, h⟩ := bind_ok_inv h
    obtain ⟨xs, h2, h⟩ := bind_ok_inv h
    cases ok_inj h
    exact congrArg (· + 1) (ih h2)
  | _ => intro ds h; cases h
theorem ownN_snd (N : List Str) (own : List Nat) : (ownN N own).map (·.2) = own := by
  unfold ownN
  rw [List.map_map]
  exact List.map_id' own
theorem isBool_cmp {α : Type} {r : Res α} {f : α → Res D} (h : ∀ a d, f a = .ok d → ∃ k, d = .bool k) (d : D) (hd : r.bind f = .ok d) : ∃ k, d = .bool k := by
  obtain ⟨a, _, h2⟩ := bind_ok_inv hd
  exact h a d h2
end
end Rwl

set_option Elab.async false
set_option linter.all false
set_option maxRecDepth 100000
set_option maxHeartbeats 2000000
/-! Rwl, part M: the checker of expressions is sound: by induction. -/
namespace Rwl
open PySem PySem.Spec PyProof.Rows L2 Evl
section
variable {U : Ux} {Y : List Addr}
theorem no {p : Prop} (h : false = true) : p := Bool.noConfusion h
theorem both_T {i : E} {f : Ck → Expr → Bool} (n : ∀ c e, f c e = true → ntest e = true) (h : ∀ c, chk i c = .both (f c)) (h2 : ∀ env, evT env i = (evE env i).bind tru) (hE : SndE U Y i) : SndT U Y i :=
  sndT_of hE (fun {c e} q => by
    have q : (chk i c).t e = true := q
    rw [h] at q
    refine ⟨?_, n c e q⟩
    show (chk i c).e e = true
    rw [h]
    exact q) h2
theorem snd_var (i : Nat) : Snd U Y (.var i) := by
  have hE : SndE U Y (.var i) := fun {c X W e} k o h σ Z H env hE => by
    cases e with
    | Name x pos =>
      have p := var_pe (pos := pos) k (show c.var i x = true from h)
      cases hg : env.get i with
      | dat d =>
        have q := y_var (W := W) p hE hg
        rw [show evE env (.var i) = .ok d by show (match env.get i with | .dat d => Res.ok d | _ => .bad) = _; rw [hg]]
        exact q
      | _ =>
        rw [show evE env (.var i) = .bad by show (match env.get i with | .dat d => Res.ok d | _ => .bad) = _; rw [hg]]
        exact Yl.bad
    | _ => cases h
  have hC : SndC U Y (.var i) := fun {c X W e} k o h σ Z H env hE' => by
    cases e with
    | Name x pos =>
      have p := var_pe (pos := pos) k (show c.var i x = true from h)
      cases hg : env.get i with
      | dat d =>
        rw [show evC env (.var i) = .ok d by show (match env.get i with | .dat d => Res.ok d | .own xs => .ok (.list xs) | _ => .bad) = _; rw [hg]]
        exact y_con (y_var p hE' hg)
      | own xs =>
        rw [show evC env (.var i) = .ok (.list xs) by show (match env.get i with | .dat d => Res.ok d | .own xs => .ok (.list xs) | _ => .bad) = _; rw [hg]]
        exact y_own p hE' hg
      | _ =>
        rw [show evC env (.var i) = .bad by show (match env.get i with | .dat d => Res.ok d | .own xs => .ok (.list xs) | _ => .bad) = _; rw [hg]]
        exact Yl.bad
    | _ => cases h
  have hT : SndT U Y (.var i) := fun {c X W e} k o h σ Z H env hE' => by
    have h' : chkE c (.var i) e = true := h
    cases e with
    | Name x pos =>
      have q := y_T (W := W) (a := .Name x pos) rfl (hC k o h' hE')
      cases hg : env.get i with
      | dat d =>
        rw [show evC env (.var i) = .ok d by show (match env.get i with | .dat d => Res.ok d | .own xs => .ok (.list xs) | _ => .bad) = _; rw [hg]] at q
        rw [show evT env (.var i) = tru d by show (match env.get i with | .own xs => Res.ok (!xs.isEmpty) | .dat d => tru d | _ => .bad) = _; rw [hg]]
        exact q
      | own xs =>
        rw [show evC env (.var i) = .ok (.list xs) by show (match env.get i with | .dat d => Res.ok d | .own xs => .ok (.list xs) | _ => .bad) = _; rw [hg]] at q
        rw [show evT env (.var i) = .ok (!xs.isEmpty) by show (match env.get i with | .own xs => Res.ok (!xs.isEmpty) | .dat d => tru d | _ => .bad) = _; rw [hg]]
        exact q
      | _ =>
        rw [show evT env (.var i) = .bad by show (match env.get i with | .own xs => Res.ok (!xs.isEmpty) | .dat d => tru d | _ => .bad) = _; rw [hg]]
        exact Yl.bad
    | _ => cases h
  refine ⟨hE, hC, hT, fun k o h => no h, fun k o h => no h, fun k o h => no h, fun k o h => no h, fun k o h => no h, fun {c X W e} k o h σ Z H env hE' => ?_, fun {c X W es} k o h σ Z H env hE' => ?_, fun k o h σ Z H env hE' => y_seq (hE k o h hE')⟩
  · cases e with
    | none => cases h
    | some x => exact y_O1 (hE k o h hE')
  · match es, h with
    | [], h => cases h
    | [x], h => exact y_P1 (hT k o h hE')
    | _ :: _ :: _, h => cases h
/-- a construct whose test is its value's -/
theorem snd_both {i : E} {f : Ck → Expr → Bool} (h : ∀ c, chk i c = .both (f c)) (n : ∀ c e, f c e = true → ntest e = true) (hE : SndE U Y i) (h2 : ∀ env, evT env i = (evE env i).bind tru := by intro _; rfl)
    (h1 : ∀ env, evC env i = evE env i := by intro _; rfl) (h2' : ∀ c es, chkL c i es = false := by intros; rfl) (h3 : ∀ c es, chkTL c i es = false := by intros; rfl)
    (h4 : ∀ c, chkO c i none = false := by intros; rfl) (h4' : ∀ c x, chkO c i (some x) = chkE c i x := by intros; rfl) (h5 : ∀ env, evO env i = (evE env i).bind fun x => (asInt x).bind fun i => .ok (some i) := by intros; rfl)
    (h6 : ∀ c, chkP c i [] = false := by intros; rfl) (h6' : ∀ c x, chkP c i [x] = chkT c i x := by intros; rfl) (h6'' : ∀ c x y r, chkP c i (x :: y :: r) = false := by intros; rfl) (h7 : ∀ env, evP env i = evT env i := by intros; rfl) : Snd U Y i :=
  Snd.mk0 hE (both_T n h h2 hE) h1 h2' h3 h4 h4' h5 h6 h6' h6'' h7 fun {c e} q => by
    have q : (chk i c).i e = true := q
    rw [h] at q
    show (chk i c).e e = true
    rw [h]
    exact q
theorem snd_int (m : Int) : Snd U Y (.int m) := snd_both (fun _ => rfl) (fun c e h => by cases e <;> first | rfl | cases h) fun {c X W e} k o h σ Z H env hE => by
  cases e with
  | Constant v j pos =>
    cases v with
    | int n =>
      have e : m = n := of_decide_eq_true h
      subst e
      exact y_c pe_int fun _ => .int _
    | _ => cases h
  | _ => cases h
theorem snd_str (m : Str) : Snd U Y (.str m) := snd_both (fun _ => rfl) (fun c e h => by cases e <;> first | rfl | cases h) fun {c X W e} k o h σ Z H env hE => by
  cases e with
  | Constant v j pos =>
    cases v with
    | str n =>
      have e : m = n := of_decide_eq_true h
      subst e
      exact y_c pe_str fun _ => .str _
    | _ => cases h
  | _ => cases h
theorem snd_bl (m : Bool) : Snd U Y (.bl m) := snd_both (fun _ => rfl) (fun c e h => by cases e <;> first | rfl | cases h) fun {c X W e} k o h σ Z H env hE => by
  cases e with
  | Constant v j pos =>
    cases v with
    | bool n =>
      have e : m = n := of_decide_eq_true h
      subst e
      exact y_c pe_bl fun _ => .bl _
    | _ => cases h
  | _ => cases h
theorem snd_non : Snd U Y .non := snd_both (fun _ => rfl) (fun c e h => by cases e <;> first | rfl | cases h) fun {c X W e} k o h σ Z H env hE => by
  cases e with
  | Constant v j pos =>
    cases v with
    | none => exact y_c pe_non fun _ => .non
    | _ => cases h
  | _ => cases h
theorem snd_glb (x : Str) (d : D) : Snd U Y (.glb x d) := snd_both (fun _ => rfl) (fun c e h => by cases e <;> first | rfl | cases h) fun {c X W e} k o h σ Z H env hE => by
  cases e with
  | Name y pos =>
    obtain ⟨h1, h2⟩ := and2 (show (decide (x = y) && c.gl y) = true from h)
    have e : x = y := of_decide_eq_true h1
    subst e
    obtain ⟨g1, g2⟩ := gl_of k h2
    obtain ⟨v, cv, q1, q2, q3⟩ := (show GC U X x d from o)
    exact y_c (pe_glob g1 q1 q2 g2) q3
  | _ => cases h
theorem snd_bin (p : O2) {a b : E} (ha : Snd U Y a) (hb : Snd U Y b) : Snd U Y (.bin p a b) := snd_both (fun _ => rfl) (fun c e h => by cases e <;> first | rfl | cases h) fun {c X W e} k o h σ Z H env hE => by
  cases e with
  | BinOp x op y pos =>
    obtain ⟨h, h3⟩ := and2 (show (decide (op = p.op) && (chk a c).e x && (chk b c).e y) = true from h)
    obtain ⟨h1, h2⟩ := and2 h
    cases of_decide_eq_true h1
    exact y_bin p hE.zt (ha.e k o.1 h2 hE) (hb.e k o.2 h3 hE)
  | _ => cases h
theorem snd_neg {a : E} (ha : Snd U Y a) : Snd U Y (.neg a) := snd_both (fun _ => rfl) (fun c e h => by
    cases e with
    | UnaryOp op _ _ => cases op <;> first | rfl | cases h
    | _ => first | rfl | cases h) fun {c X W e} k o h σ Z H env hE => by
  cases e with
  | UnaryOp op x pos =>
    cases op with
    | USub => exact y_neg (ha.e k o h hE)
    | _ => cases h
  | _ => cases h
theorem snd_not {a : E} (ha : Snd U Y a) : Snd U Y (.not a) := Snd.mk0 (fun {c X W e} k o h σ Z H env hE => by
  cases e with
  | UnaryOp op x pos =>
    cases op with
    | Not => exact y_not (ha.e k o h hE)
    | _ => cases h
  | _ => cases h) (fun {c X W e} k o h σ Z H env hE => by
  cases e with
  | UnaryOp op x pos =>
    cases op with
    | Not => exact y_notT (ha.t k o h hE)
    | _ => cases h
  | _ => cases h)
theorem cmp_inv {c : Ck} {p : Cm} {a b : E} {e : Expr} (h : (chk (.cmp p a b) c).e e = true) : ∃ x y pos, e = .Compare x [p.op] [y] pos ∧ nset y = true ∧ chkE c a x = true ∧ chkE c b y = true := by
  cases e with
  | Compare x ops vs pos =>
    match ops, vs, h with
    | [op], [y], h =>
      obtain ⟨h, h4⟩ := and2 (show (decide (op = p.op) && nset y && (chk a c).e x && (chk b c).e y) = true from h)
      obtain ⟨h, h3⟩ := and2 h
      obtain ⟨h1, h2⟩ := and2 h
      cases of_decide_eq_true h1
      exact ⟨x, y, pos, rfl, h2, h3, h4⟩
    | [], _, h => cases h
    | [_], [], h => cases h
    | [_], _ :: _ :: _, h => cases h
    | _ :: _ :: _, _, h => cases h
  | _ => cases h
theorem snd_cmp (p : Cm) {a b : E} (ha : Snd U Y a) (hb : Snd U Y b) : Snd U Y (.cmp p a b) := Snd.mk0 (fun {c X W e} k o h σ Z H env hE => by
  obtain ⟨x, y, pos, rfl, h2, h3, h4⟩ := cmp_inv h
  exact y_cmp k.hu p (marks_no h2) (ha.e k o.1 h3 hE) (hb.e k o.2 h4 hE)) (fun {c X W e} k o h σ Z H env hE => by
  obtain ⟨x, y, pos, rfl, h2, h3, h4⟩ := cmp_inv h
  exact y_cmpT k.hu p (marks_no h2) (ha.e k o.1 h3 hE) (hb.e k o.2 h4 hE))
theorem ch2_inv {c : Ck} {p q : Cm} {a b d : E} {e : Expr} (h : (chk (.ch2 p q a b d) c).e e = true) : ∃ x y z pos, e = .Compare x [p.op, q.op] [y, z] pos ∧ lastMarks [p.op, q.op] [y, z] = false ∧ chkE c a x = true ∧ chkE c b y = true ∧ chkE c d z = true := by
  cases e with
  | Compare x ops vs pos =>
    match ops, vs, h with
    | [op, op2], [y, z], h =>
      obtain ⟨h, h6⟩ := and2 (show (decide (op = p.op) && decide (op2 = q.op) && !lastMarks [p.op, q.op] [y, z] && (chk a c).e x && (chk b c).e y && (chk d c).e z) = true from h)
      obtain ⟨h, h5⟩ := and2 h
      obtain ⟨h, h4⟩ := and2 h
      obtain ⟨h, h3⟩ := and2 h
      obtain ⟨h1, h2⟩ := and2 h
      cases of_decide_eq_true h1
      cases of_decide_eq_true h2
      exact ⟨x, y, z, pos, rfl, not1 h3, h4, h5, h6⟩
    | [], _, h => cases h
    | [_], _, h => cases h
    | [_, _], [], h => cases h
    | [_, _], [_], h => cases h
    | [_, _], _ :: _ :: _ :: _, h => cases h
    | _ :: _ :: _ :: _, _, h => cases h
  | _ => cases h
theorem snd_ch2 (p q : Cm) {a b d : E} (ha : Snd U Y a) (hb : Snd U Y b) (hd : Snd U Y d) : Snd U Y (.ch2 p q a b d) := Snd.mk0 (fun {c X W e} k o h σ Z H env hE => by
  obtain ⟨x, y, z, pos, rfl, h3, h4, h5, h6⟩ := ch2_inv h
  exact y_ch2 k.hu p q h3 (ha.e k o.1 h4 hE) (hb.e k o.2.1 h5 hE) (hd.e k o.2.2 h6 hE)) (fun {c X W e} k o h σ Z H env hE => by
  obtain ⟨x, y, z, pos, rfl, h3, h4, h5, h6⟩ := ch2_inv h
  have r := yt_ch2 (W := W) k.hu p q (ha.e k o.1 h4 hE) (hb.e k o.2.1 h5 hE) (hd.e k o.2.2 h6 hE)
  refine Yl.imp (fun _ _ _ q' => tw_chain2 (op_cm (U := U) (Z := Z) k.hu p) (op_cm (U := U) (Z := Z) k.hu q) h3 q') (y_tB r fun d hd => ?_)
  obtain ⟨x', _, hd⟩ := bind_ok_inv hd
  obtain ⟨y', _, hd⟩ := bind_ok_inv hd
  obtain ⟨b', _, hd⟩ := bind_ok_inv hd
  cases b' with
  | false => exact ⟨_, (ok_inj hd).symm⟩
  | true =>
    obtain ⟨z', _, hd⟩ := bind_ok_inv hd
    obtain ⟨b', _, hd⟩ := bind_ok_inv hd
    exact ⟨_, (ok_inj hd).symm⟩)
theorem ch3_inv {c : Ck} {p q r : Cm} {a b d f : E} {e : Expr} (h : (chk (.ch3 p q r a b d f) c).e e = true) : ∃ x y z w pos, e = .Compare x [p.op, q.op, r.op] [y, z, w] pos ∧ lastMarks [p.op, q.op, r.op] [y, z, w] = false ∧ chkE c a x = true ∧ chkE c b y = true ∧ chkE c d z = true ∧ chkE c f w = true := by
  cases e with
  | Compare x ops vs pos =>
    match ops, vs, h with
    | [op, op2, op3], [y, z, w], h =>
      obtain ⟨h, h8⟩ := and2 (show (decide (op = p.op) && decide (op2 = q.op) && decide (op3 = r.op) && !lastMarks [p.op, q.op, r.op] [y, z, w] && (chk a c).e x && (chk b c).e y && (chk d c).e z && (chk f c).e w) = true from h)
      obtain ⟨h, h7⟩ := and2 h
      obtain ⟨h, h6⟩ := and2 h
      obtain ⟨h, h5⟩ := and2 h
      obtain ⟨h, h4⟩ := and2 h
      obtain ⟨h, h3⟩ := and2 h
      obtain ⟨h1, h2⟩ := and2 h
      cases of_decide_eq_true h1
      cases of_decide_eq_true h2
      cases of_decide_eq_true h3
      exact ⟨x, y, z, w, pos, rfl, not1 h4, h5, h6, h7, h8⟩
    | [], _, h => cases h
    | [_], _, h => cases h
    | [_, _], _, h => cases h
    | [_, _, _], [], h => cases h
    | [_, _, _], [_], h => cases h
    | [_, _, _], [_, _], h => cases h
    | [_, _, _], _ :: _ :: _ :: _ :: _, h => cases h
    | _ :: _ :: _ :: _ :: _, _, h => cases h
  | _ => cases h
theorem snd_ch3 (p q r : Cm) {a b d f : E} (ha : Snd U Y a) (hb : Snd U Y b) (hd : Snd U Y d) (hf : Snd U Y f) : Snd U Y (.ch3 p q r a b d f) := Snd.mk0 (fun {c X W e} k o h σ Z H env hE => by
  obtain ⟨x, y, z, w, pos, rfl, h3, h4, h5, h6, h7⟩ := ch3_inv h
  exact Yl.imp (fun _ _ _ q' => ew_of (pe_ch3 (op_cm (U := U) (Z := Z) k.hu p) (op_cm (U := U) (Z := Z) k.hu q) (op_cm (U := U) (Z := Z) k.hu r) ew ew ew ew h3) q')
    (yt_ch3 k.hu p q r (ha.e k o.1 h4 hE) (hb.e k o.2.1 h5 hE) (hd.e k o.2.2.1 h6 hE) (hf.e k o.2.2.2 h7 hE))) (fun {c X W e} k o h σ Z H env hE => by
  obtain ⟨x, y, z, w, pos, rfl, h3, h4, h5, h6, h7⟩ := ch3_inv h
  have r' := yt_ch3 (W := W) k.hu p q r (ha.e k o.1 h4 hE) (hb.e k o.2.1 h5 hE) (hd.e k o.2.2.1 h6 hE) (hf.e k o.2.2.2 h7 hE)
  refine Yl.imp (fun _ _ _ q' => tw_of (pt_ch3 (op_cm (U := U) (Z := Z) k.hu p) (op_cm (U := U) (Z := Z) k.hu q) (op_cm (U := U) (Z := Z) k.hu r) ew ew ew ew h3) q') (y_tB r' fun d hd => ?_)
  obtain ⟨x', _, hd⟩ := bind_ok_inv hd
  obtain ⟨y', _, hd⟩ := bind_ok_inv hd
  obtain ⟨b', _, hd⟩ := bind_ok_inv hd
  cases b' with
  | false => exact ⟨_, (ok_inj hd).symm⟩
  | true =>
    obtain ⟨z', _, hd⟩ := bind_ok_inv hd
    obtain ⟨b', _, hd⟩ := bind_ok_inv hd
    cases b' with
    | false => exact ⟨_, (ok_inj hd).symm⟩
    | true =>
      obtain ⟨z', _, hd⟩ := bind_ok_inv hd
      obtain ⟨b', _, hd⟩ := bind_ok_inv hd
      exact ⟨_, (ok_inj hd).symm⟩)
theorem snd_and {es : E} (h : Snd U Y es) : Snd U Y (.and es) := Snd.mk0 (fun {c X W e} k o q σ Z H env hE => by
  cases e with
  | BoolOp op vs pos =>
    cases op with
    | And => exact h.a k o q hE
    | Or => cases q
  | _ => cases q) (fun {c X W e} k o q σ Z H env hE => by
  cases e with
  | BoolOp op vs pos =>
    cases op with
    | And => exact y_bw (h.ta k o q hE)
    | Or => cases q
  | _ => cases q)
theorem snd_or {es : E} (h : Snd U Y es) : Snd U Y (.or es) := Snd.mk0 (fun {c X W e} k o q σ Z H env hE => by
  cases e with
  | BoolOp op vs pos =>
    cases op with
    | Or => exact h.r k o q hE
    | And => cases q
  | _ => cases q) (fun {c X W e} k o q σ Z H env hE => by
  cases e with
  | BoolOp op vs pos =>
    cases op with
    | Or => exact y_bw (h.tr k o q hE)
    | And => cases q
  | _ => cases q)
theorem snd_ite {t a b : E} (ht : Snd U Y t) (ha : Snd U Y a) (hb : Snd U Y b) : Snd U Y (.ite t a b) := Snd.mk0 (fun {c X W e} k o q σ Z H env hE => by
  cases e with
  | IfExp x y z pos =>
    obtain ⟨q, q3⟩ := and2 (show ((chk t c).t x && (chk a c).e y && (chk b c).e z) = true from q)
    obtain ⟨q1, q2⟩ := and2 q
    exact y_ite (ht.t k o.1 q1 hE) (ha.e k o.2.1 q2 hE) (hb.e k o.2.2 q3 hE)
  | _ => cases q) (sndT_no)
theorem snd_nil : Snd U Y .nil := by
  refine ⟨fun k o h => no h, fun k o h => no h, fun k o h => no h, fun {c X W es} k o h σ Z H env hE => ?_, fun {c X W es pos} k o h σ Z H env hE => Yl.bad, fun {c X W es pos} k o h σ Z H env hE => Yl.bad,
    fun k o h => no h, fun k o h => no h, fun {c X W e} k o h => ?_, fun {c X W es} k o h => ?_, fun k o h => no h⟩
  · cases es with
    | nil => exact y_nil
    | cons _ _ => cases h
  · cases e <;> cases h
  · match es, h with
    | [], h => cases h
    | [x], h => cases h
    | _ :: _ :: _, h => cases h
theorem cons_l {c : Ck} {a b : E} {es : List Expr} (h : chkL c (.cons a b) es = true) : ∃ e r, es = e :: r ∧ nst e = true ∧ chkE c a e = true ∧ chkL c b r = true := by
  cases es with
  | nil => cases h
  | cons e r =>
    obtain ⟨h, h3⟩ := and2 (show (nst e && (chk a c).e e && (chk b c).l r) = true from h)
    obtain ⟨h1, h2⟩ := and2 h
    exact ⟨e, r, rfl, h1, h2, h3⟩
theorem nil_l {c : Ck} {es : List Expr} (h : chkL c .nil es = true) : es = [] := by
  cases es with
  | nil => rfl
  | cons e r => cases h
theorem tl_nil {c : Ck} {a : E} {es : List Expr} (h : chkTL c (.cons a .nil) es = true) : ∃ e, es = [e] ∧ chkT c a e = true := by
  match es, h with
  | [], h => cases h
  | [e], h => exact ⟨e, rfl, h⟩
  | _ :: _ :: _, h => cases h
theorem tl_cons {c : Ck} {a b d : E} {es : List Expr} (h : chkTL c (.cons a (.cons b d)) es = true) : ∃ e x r, es = e :: x :: r ∧ chkT c a e = true ∧ chkTL c (.cons b d) (x :: r) = true := by
  match es, h with
  | [], h => cases h
  | [e], h => cases h
  | e :: x :: r, h =>
    obtain ⟨h1, h2⟩ := and2 (show ((chk a c).t e && (chk (.cons b d) c).tl (x :: r)) = true from h)
    exact ⟨e, x, r, rfl, h1, h2⟩
/-- a list of operands is nil or cons -/
theorem l_shape {c : Ck} {b : E} {r : List Expr} (h : chkL c b r = true) : b = .nil ∨ ∃ x y, b = .cons x y := by
  cases b <;> first | exact .inl rfl | exact .inr ⟨_, _, rfl⟩ | cases h
theorem tl_shape {c : Ck} {b : E} {r : List Expr} (h : chkTL c b r = true) : ∃ x y, b = .cons x y := by
  cases b <;> first | exact ⟨_, _, rfl⟩ | cases h
theorem tl_second {c : Ck} {a b : E} {es : List Expr} (h : chkTL c (.cons a b) es = true) : b = .nil ∨ ∃ x y, b = .cons x y := by
  cases b <;> first
    | exact .inl rfl
    | exact .inr ⟨_, _, rfl⟩
    | (exfalso
       match es, h with
       | [], h => cases h
       | [e], h => cases h
       | e :: x :: r, h => exact Bool.noConfusion ((and2 h).2))
theorem snd_cons {a b : E} (ha : Snd U Y a) (hb : Snd U Y b) : Snd U Y (.cons a b) := by
  refine ⟨fun k o h => no h, fun k o h => no h, fun k o h => no h, fun {c X W es} k o h σ Z H env hE => ?_, fun {c X W es pos} k o h σ Z H env hE => ?_, fun {c X W es pos} k o h σ Z H env hE => ?_,
    fun {c X W es pos} k o h σ Z H env hE => ?_, fun {c X W es pos} k o h σ Z H env hE => ?_, fun {c X W e} k o h => ?_, fun {c X W es} k o h => ?_, fun k o h => no h⟩
  · obtain ⟨e, r, rfl, h1, h2, h3⟩ := cons_l h
    exact y_cons h1 (ha.e k o.1 h2 hE) (hb.l k o.2 h3 hE)
  · obtain ⟨e, r, rfl, h1, h2, h3⟩ := cons_l h
    rcases l_shape h3 with rfl | ⟨x, y, rfl⟩
    · cases nil_l h3
      exact y_one (ha.e k o.1 h2 hE)
    · obtain ⟨e2, r2, rfl, _⟩ := cons_l h3
      exact y_and (ha.e k o.1 h2 hE) (hb.a k o.2 h3 hE)
  · obtain ⟨e, r, rfl, h1, h2, h3⟩ := cons_l h
    rcases l_shape h3 with rfl | ⟨x, y, rfl⟩
    · cases nil_l h3
      exact y_one (ha.e k o.1 h2 hE)
    · obtain ⟨e2, r2, rfl, _⟩ := cons_l h3
      exact y_or (ha.e k o.1 h2 hE) (hb.r k o.2 h3 hE)
  · rcases tl_second h with rfl | ⟨x, y, rfl⟩
    · obtain ⟨e, rfl, h1⟩ := tl_nil h
      exact y_and1B (ha.t k o.1 h1 hE)
    · obtain ⟨e, e2, r, rfl, h1, h2⟩ := tl_cons h
      exact y_andB (ha.t k o.1 h1 hE) (hb.ta k o.2 h2 hE)
  · rcases tl_second h with rfl | ⟨x, y, rfl⟩
    · obtain ⟨e, rfl, h1⟩ := tl_nil h
      exact y_or1B (ha.t k o.1 h1 hE)
    · obtain ⟨e, e2, r, rfl, h1, h2⟩ := tl_cons h
      exact y_orB (ha.t k o.1 h1 hE) (hb.tr k o.2 h2 hE)
  · cases e <;> cases h
  · match es, h with
    | [], h => cases h
    | [x], h => cases h
    | _ :: _ :: _, h => cases h
end
end Rwl

set_option Elab.async false
set_option linter.all false
set_option maxRecDepth 100000
set_option maxHeartbeats 2000000
/-! Rwl, part N: the rest of the constructs; all together. -/
namespace Rwl
open PySem PySem.Spec PyProof.Rows L2 Evl
section
variable {U : Ux} {Y : List Addr}
theorem snd_tup {es : E} (h : Snd U Y es) : Snd U Y (.tup es) := snd_both (fun _ => rfl) (fun c e h => by cases e <;> first | rfl | cases h) fun {c X W e} k o q σ Z H env hE => by
  cases e with
  | Tuple vs kk pos => exact y_tup hE.zt (h.l k o q hE)
  | _ => cases q
theorem f_lstE {es : E} (h : Snd U Y es) {c : Ck} {X : Cx} {W : WX} {e : Expr} (k : Cok U c X W) (o : (E.lst es).ok U c X) (q : chkE c (.lst es) e = true) {σ : L2.St} {Z : List Addr} {H : Hp} {env : Env} (hE : EnvOk U X.K Y Z H σ env) :
    Fr U W X.K Z (Ew X e) σ H (evE env (.lst es)) := by
  cases e with
  | List vs pos => exact f_lst hE.zt (h.l k o q hE)
  | _ => cases q
theorem snd_lst {es : E} (h : Snd U Y es) : Snd U Y (.lst es) := snd_both (fun _ => rfl) (fun c e h => by cases e <;> first | rfl | cases h) fun {c X W e} k o q σ Z H env hE => by
  cases e with
  | List vs pos => exact y_lst hE.zt (h.l k o q hE)
  | _ => cases q
theorem i1_var {env : Env} {a : E} {kvs : List (Int × D)} (h : evI1 env a = some kvs) : ∃ i, a = .var i ∧ env.get i = .dct kvs := by
  cases a with
  | var i =>
    refine ⟨i, rfl, ?_⟩
    have h : (match env.get i with | .dct kvs => some kvs | _ => none) = some kvs := h
    cases hg : env.get i with
    | dct kk => rw [hg] at h; cases h; rfl
    | _ => rw [hg] at h; cases h
  | _ => cases h
theorem snd_ix {a i : E} (ha : Snd U Y a) (hi : Snd U Y i) : Snd U Y (.ix a i) := snd_both (fun _ => rfl) (fun c e h => by cases e <;> first | rfl | cases h) fun {c X W e} k o q σ Z H env hE => by
  cases e with
  | Subscript x y pos =>
    obtain ⟨q, q3⟩ := and2 (show (nsl y && (chk a c).e x && (chk i c).e y) = true from q)
    obtain ⟨q1, q2⟩ := and2 q
    show Yl U W (RE U X.K Z) (Ew X (.Subscript x y pos)) σ H (match evI1 env a with
      | some kvs => (evE env i).bind fun y => (asInt y).bind fun k => ofO (klook kvs k)
      | none => (evC env a).bind fun x => (evE env i).bind fun y => ixD x y)
    cases hv : evI1 env a with
    | none => exact y_ix q1 (ha.c k o.1 q2 hE) (hi.e k o.2 q3 hE)
    | some kvs =>
      obtain ⟨j, rfl, hg⟩ := i1_var hv
      cases x with
      | Name z p2 => exact y_dget k.hu q1 (var_pe k q2) hE hg (hi.e k o.2 q3 hE)
      | _ => cases q2
  | _ => cases q
theorem snd_nop : Snd U Y .nop := by
  refine ⟨fun k o h => no h, fun k o h => no h, fun k o h => no h, fun k o h => no h, fun k o h => no h, fun k o h => no h, fun k o h => no h, fun k o h => no h, fun {c X W e} k o h σ Z H env hE => ?_, fun {c X W es} k o h σ Z H env hE => ?_, fun k o h => no h⟩
  · cases e with
    | none => exact y_O0
    | some x => cases h
  · cases es with
    | nil => exact y_P0
    | cons _ _ => cases h
theorem snd_sl {a lo hi : E} (ha : Snd U Y a) (h1 : Snd U Y lo) (h2 : Snd U Y hi) : Snd U Y (.sl a lo hi) := snd_both (fun _ => rfl) (fun c e h => by cases e <;> first | rfl | cases h) fun {c X W e} k o q σ Z H env hE => by
  cases e with
  | Subscript x s pos =>
    cases s with
    | Slice l h st p2 =>
      cases st with
      | none =>
        obtain ⟨q, q3⟩ := and2 (show ((chk a c).e x && pickCO lo (chk lo c).e l && pickCO hi (chk hi c).e h) = true from q)
        obtain ⟨q1, q2⟩ := and2 q
        exact y_sl hE.zt (ha.c k o.1 q1 hE) (h1.o k o.2.1 q2 hE) (h2.o k o.2.2 q3 hE)
      | some _ => cases q
    | _ => cases q
  | _ => cases q
theorem snd_rev {a : E} (ha : Snd U Y a) : Snd U Y (.rev a) := snd_both (fun _ => rfl) (fun c e h => by cases e <;> first | rfl | cases h) fun {c X W e} k o q σ Z H env hE => by
  unfold chkE chk Chk.both at q
  dsimp only at q
  split at q
  · exact y_rev hE.zt (ha.c k o q hE)
  · cases q
theorem bi_inv {c : Ck} {b : Bi} {es : E} {e : Expr} (h : chkE c (.bi b es) e = true) : ∃ p a as pos, e = .Call (.Name b.name p) (a :: as) [] pos ∧ c.gl b.name = true ∧ (a :: as).all nst = true ∧ chkL c es (a :: as) = true := by
  unfold chkE chk Chk.both at h
  dsimp only at h
  split at h
  · obtain ⟨h, h4⟩ := and2 h
    obtain ⟨h, h3⟩ := and2 h
    obtain ⟨h1, h2⟩ := and2 h
    cases of_decide_eq_true h1
    exact ⟨_, _, _, _, rfl, h2, h3, h4⟩
  · cases h
theorem snd_bi (b : Bi) {es : E} (h : Snd U Y es) : Snd U Y (.bi b es) := snd_both (fun _ => rfl) (fun c e h => by cases e <;> first | rfl | cases h) fun {c X W e} k o q σ Z H env hE => by
  obtain ⟨p, a, as, pos, rfl, h2, h3, h4⟩ := bi_inv q
  exact y_bi b k.calm (gl_of k h2).1 (k.bi b) hE.zt h3 (h.l k o h4 hE)
theorem snd_maxd {a d : E} (ha : Snd U Y a) (hd : Snd U Y d) : Snd U Y (.maxd a d) := snd_both (fun _ => rfl) (fun c e h => by cases e <;> first | rfl | cases h) fun {c X W e} k o q σ Z H env hE => by
  unfold chkE chk Chk.both at q
  dsimp only at q
  split at q
  · obtain ⟨q, q6⟩ := and2 q
    obtain ⟨q, q5⟩ := and2 q
    obtain ⟨q, q4⟩ := and2 q
    obtain ⟨q, q3⟩ := and2 q
    obtain ⟨q1, q2⟩ := and2 q
    cases of_decide_eq_true q1
    cases of_decide_eq_true q2
    exact y_maxd k.calm k.hu (gl_of k q3).1 (k.bi .max) q4 (ha.e k o.1 q5 hE) (hd.e k o.2 q6 hE)
  · cases q
theorem lrg_inv {c : Ck} {a : E} {e : Expr} (q : chkE c (.lrg a) e = true) : ∃ p p2 z pos2 pos, e = .Call (.Name "list" p) [.Call (.Name "range" p2) [z] [] pos2] [] pos ∧ c.gl "list" = true ∧ c.gl "range" = true ∧ nst z = true ∧ chkE c a z = true := by
  unfold chkE chk Chk.both at q
  dsimp only at q
  split at q
  · obtain ⟨q, q6⟩ := and2 q
    obtain ⟨q, q5⟩ := and2 q
    obtain ⟨q, q4⟩ := and2 q
    obtain ⟨q, q3⟩ := and2 q
    obtain ⟨q1, q2⟩ := and2 q
    cases of_decide_eq_true q1
    cases of_decide_eq_true q2
    exact ⟨_, _, _, _, _, rfl, q3, q4, q5, q6⟩
  · cases q
theorem snd_lrg {a : E} (ha : Snd U Y a) : Snd U Y (.lrg a) := snd_both (fun _ => rfl) (fun c e h => by cases e <;> first | rfl | cases h) fun {c X W e} k o q σ Z H env hE => by
  obtain ⟨_, _, _, _, _, rfl, q3, q4, q5, q6⟩ := lrg_inv q
  exact y_lrg k.calm (gl_of k q3).1 (k.bi .list) (gl_of k q4).1 k.rg hE.zt q5 (ha.e k o q6 hE)
theorem snd_isi {a : E} (t : Ty) (ha : Snd U Y a) : Snd U Y (.isi a t) := snd_both (fun _ => rfl) (fun c e h => by cases e <;> first | rfl | cases h) fun {c X W e} k o q σ Z H env hE => by
  unfold chkE chk Chk.both at q
  dsimp only at q
  split at q
  · obtain ⟨q, q6⟩ := and2 q
    obtain ⟨q, q5⟩ := and2 q
    obtain ⟨q, q4⟩ := and2 q
    obtain ⟨q, q3⟩ := and2 q
    obtain ⟨q1, q2⟩ := and2 q
    cases of_decide_eq_true q1
    cases of_decide_eq_true q2
    exact y_isi (k.ty t) (gl_of k q3).1 k.isi (gl_of k q4).1 (gl_of k q4).2 q5 (ha.e k o q6 hE)
  · cases q
theorem snd_call (j : Nat) (f : List D → Res D) {es : E} (h : Snd U Y es) : Snd U Y (.call j f es) := snd_both (fun _ => rfl) (fun c e h => by cases e <;> first | rfl | cases h) fun {c X W e} k o q σ Z H env hE => by
  unfold chkE chk Chk.both at q
  dsimp only at q
  split at q
  · obtain ⟨q, q4⟩ := and2 q
    obtain ⟨q, q3⟩ := and2 q
    obtain ⟨q1, q2⟩ := and2 q
    have q1 := of_decide_eq_true q1
    obtain ⟨x, m, hx, F⟩ := (show FC U c.T X j f from o.1)
    rw [q1] at hx
    cases hx
    exact y_call k.tk F (gl_of k q2).1 (gl_of k q2).2 hE.zt q3 (fun ds hd => evL_len hd) (h.l k o.2 q4 hE)
  · cases q
theorem snd_mt (m : Mt) {a es : E} (ha : Snd U Y a) (h : Snd U Y es) : Snd U Y (.mt m a es) := snd_both (fun _ => rfl) (fun c e h => by cases e <;> first | rfl | cases h) fun {c X W e} k o q σ Z H env hE => by
  unfold chkE chk Chk.both at q
  dsimp only at q
  split at q
  · obtain ⟨q, q6⟩ := and2 q
    obtain ⟨q, q5⟩ := and2 q
    obtain ⟨q, q4⟩ := and2 q
    obtain ⟨q, q3⟩ := and2 q
    obtain ⟨q1, q2⟩ := and2 q
    cases of_decide_eq_true q1
    exact y_mt m k.hu q2 q3 q4 (ha.e k o.1 q5 hE) (h.l k o.2 q6 hE)
  · cases q
theorem snd_ms (m : Ms) {a es : E} (ha : Snd U Y a) (h : Snd U Y es) : Snd U Y (.ms m a es) := snd_both (fun _ => rfl) (fun c e h => by cases e <;> first | rfl | cases h) fun {c X W e} k o q σ Z H env hE => by
  unfold chkE chk Chk.both at q
  dsimp only at q
  split at q
  · obtain ⟨q, q6⟩ := and2 q
    obtain ⟨q, q5⟩ := and2 q
    obtain ⟨q, q4⟩ := and2 q
    obtain ⟨q, q3⟩ := and2 q
    obtain ⟨q1, q2⟩ := and2 q
    cases of_decide_eq_true q1
    exact y_ms m hE.zt q2 q3 q4 (ha.e k o.1 q5 hE) (h.l k o.2 q6 hE)
  · cases q
/-! ### comprehensions -/
structure LcIs (c : Ck) (own : List Nat) (t : Tg) (it cn el : E) (elt tg iter : Expr) (ifs : List Expr) (scope : Scope) : Prop where
  top : c.inn = none
  blk : BlkOk c.N c.sc scope (ownN c.N own)
  set : nset iter = true
  ne : own ≠ []
  sub : ∀ i ∈ t.is, i ∈ own
  tg : chkTg (c.cmp scope) t tg = true
  it : chkI c it iter = true
  cn : chkP (c.cmp scope) cn ifs = true
  el : chkE (c.cmp scope) el elt = true
theorem lc_inv {c : Ck} {own : List Nat} {t : Tg} {it cn el : E} {e : Expr} (q : chkE c (.lc own t it cn el) e = true) : ∃ elt tg iter ifs scope pos, e = .ListComp elt [⟨tg, iter, ifs, 0⟩] scope pos ∧ LcIs c own t it cn el elt tg iter ifs scope := by
  unfold chkE chk Chk.both at q
  dsimp only at q
  split at q
  · obtain ⟨q, q8⟩ := and2 q
    obtain ⟨q, q7⟩ := and2 q
    obtain ⟨q, q6⟩ := and2 q
    obtain ⟨q, q5⟩ := and2 q
    obtain ⟨q, q4⟩ := and2 q
    obtain ⟨q, q3⟩ := and2 q
    obtain ⟨q, q2⟩ := and2 q
    obtain ⟨q0, q1⟩ := and2 q
    refine ⟨_, _, _, _, _, _, rfl, Option.isNone_iff_eq_none.mp q0, blkOk_by q1, q2, ?_, ?_, q5, q6, q7, q8⟩
    · intro z
      rw [z] at q3
      cases q3
    · intro i hi
      have z := List.all_eq_true.mp q4 i hi
      simpa using z
  · cases q
theorem lc_fr {own : List Nat} {t : Tg} {it cn el : E} (hi : Snd U Y it) (hc : Snd U Y cn) (he : Snd U Y el) {c : Ck} {X : Cx} {W : WX} {elt tg iter : Expr} {ifs : List Expr} {scope : Scope} (k : Cok U c X W) (o : (E.lc own t it cn el).ok U c X) (I : LcIs c own t it cn el elt tg iter ifs scope)
    {σ : L2.St} {Z : List Addr} {H : Hp} {env : Env} (hE : EnvOk U X.K Y Z H σ env) : Fr U W X.K Z (Lw X W scope (ownN c.N own) t tg iter elt ifs) σ H (evE env (.lc own t it cn el)) := by
  have w := ownN_snd c.N own
  have r := f_lcT (U := U) (W := W) (X := X) (Y := Y) (Z := Z) (σ := σ) (H := H) (scope := scope) (own := ownN c.N own) (tg := tg) (iter := iter) (elt := elt) (ifs := ifs) (t := t) (env := env) (c := cn) (e := el) (ri := evI env it) hE (hi.i k o.1 I.it hE)
    (by rw [w]; exact I.ne) (by rw [w]; exact I.sub)
    (fun σ' H' Z' env' hE' H1 e1 Q q s H0 C cl fp => hc.p (cok_blk k scope σ s H0 C cl fp) o.2.1 I.cn (σ := σ') (Z := Z') (H := H') (env := env') hE' H1 e1 Q q)
    (fun σ' H' Z' env' hE' H1 e1 Q q s H0 C cl fp => he.e (cok_blk k scope σ s H0 C cl fp) o.2.2 I.el (σ := σ') (Z := Z') (H := H') (env := env') hE' H1 e1 Q q)
  rw [w] at r
  unfold Lw
  rw [w]
  exact r
theorem lc_pg {c : Ck} {X : Cx} {W : WX} {own : List Nat} {t : Tg} {it cn el : E} {elt tg iter : Expr} {ifs : List Expr} {scope : Scope} (k : Cok U c X W) (I : LcIs c own t it cn el elt tg iter ifs scope) (σ : L2.St) (s : Shared) (H : Hp) (C : Addr) (cl : List (Str × Addr)) (fp : List Addr) :
    PG (blkW X (Wc W σ) s H scope (compEnvC scope cl C X.env) fp) tg (t.g X.K) := tg_pg (cok_blk k scope σ s H C cl fp) I.tg
theorem lc_blk {c : Ck} {X : Cx} {W : WX} {own : List Nat} {t : Tg} {it cn el : E} {elt tg iter : Expr} {ifs : List Expr} {scope : Scope} (k : Cok U c X W) (I : LcIs c own t it cn el elt tg iter ifs scope) : BlkOk X.N X.env.scope scope (ownN c.N own) := by
  rw [k.N, k.sc]
  exact I.blk
theorem lc_list {own : List Nat} {t : Tg} {it cn el : E} {env : Env} (d : D) (h : evE env (.lc own t it cn el) = .ok d) : ∃ ds, d = .list ds := by
  obtain ⟨ds, _, h⟩ := bind_ok_inv (show (evI env it).bind _ = .ok d from h)
  obtain ⟨_, h⟩ := req_ok h
  obtain ⟨ys, _, h⟩ := bind_ok_inv h
  exact ⟨ys, (ok_inj h).symm⟩
theorem lc_ew {own : List Nat} {t : Tg} {it cn el : E} (hi : Snd U Y it) (hc : Snd U Y cn) (he : Snd U Y el) {c : Ck} {X : Cx} {W : WX} {e : Expr} (k : Cok U c X W) (o : (E.lc own t it cn el).ok U c X) (q : chkE c (.lc own t it cn el) e = true)
    {σ : L2.St} {Z : List Addr} {H : Hp} {env : Env} (hE : EnvOk U X.K Y Z H σ env) : Fr U W X.K Z (Ew X e) σ H (evE env (.lc own t it cn el)) := by
  obtain ⟨elt, tg, iter, ifs, scope, pos, rfl, I⟩ := lc_inv q
  exact Fr.imp (X := X) (fun _ _ _ q => ew_of (pe_lcw k.calm (k.fr I.top).1 (k.fr I.top).2 k.tk (nd_of k) (lc_blk k I) (lc_pg k I) I.set) q) (lc_fr hi hc he k o I hE)
theorem snd_lc (own : List Nat) (t : Tg) {it cn el : E} (hi : Snd U Y it) (hc : Snd U Y cn) (he : Snd U Y el) : Snd U Y (.lc own t it cn el) := snd_both (fun _ => rfl) (fun c e h => by cases e <;> first | rfl | cases h) fun {c X W e} k o q σ Z H env hE =>
  Fr.yl hE.zt lc_list (lc_ew hi hc he k o q hE)
theorem rng_seq {b : Bool} {ds : List D} : (req b (.ok (.list ds)) : Res D).bind seqOf = req b (.ok ds) := by cases b <;> rfl
theorem asInt_back (r : Res Int) : (r.bind fun n => (.ok (.int n) : Res D)).bind asInt = r := by cases r <;> rfl
theorem y_N {W : WX} {K : PySem.W.Frag} {Z : List Addr} {te : TE} {σ : L2.St} {H : Hp} {env : Env} {e : E} (h : Ye U W K Y te fun env => evE env e) (hE : EnvOk U K Y Z H σ env) : Yl U W (RE U K Z) te σ H ((pickN (evE env e) (evE env.frz e)).bind fun n => .ok (.int n)) := by
  have h1 : Yl U W (RE U K Y) te σ H (evE env.frz e) := h σ Y H env.frz hE.frz
  have h2 : Yl U W (RE U K Z) te σ H (evE env e) := h σ Z H env hE
  cases hr : evE env e with
  | ok d =>
    rw [hr] at h2
    cases d <;> first | exact h2 | exact fun H1 e1 Q q => (False.elim q)
  | exc c => rw [hr] at h2; exact h2
  | bad =>
    cases hr1 : evE env.frz e with
    | ok d =>
      rw [hr1] at h1
      cases d with
      | int n => exact fun H1 e1 Q q => h1 H1 e1 Q fun b H2 e2 r => q b H2 e2 (r.scal rfl _)
      | _ => exact fun H1 e1 Q q => (False.elim q)
    | exc c => rw [hr1] at h1; exact fun H1 e1 Q q => h1 H1 e1 Q q
    | bad => exact fun H1 e1 Q q => (False.elim q)
theorem snd_rng1 {a : E} (ha : Snd U Y a) : Snd U Y (.rng1 a) := by
  refine ⟨fun k o h => no h, fun k o h => no h, fun k o h => no h, fun k o h => no h, fun k o h => no h, fun k o h => no h, fun k o h => no h, fun k o h => no h, fun {c X W e} k o h σ Z H env hE => ?_, fun {c X W es} k o h σ Z H env hE => ?_, fun {c X W tg e} k o q σ Z H env hE => ?_⟩
  · cases e <;> cases h
  · match es, h with
    | [], h => cases h
    | [x], h => cases h
    | _ :: _ :: _, h => cases h
  · unfold chkI chk at q
    dsimp only at q
    split at q
    · obtain ⟨q, q4⟩ := and2 q
      obtain ⟨q, q3⟩ := and2 q
      obtain ⟨q1, q2⟩ := and2 q
      cases of_decide_eq_true q1
      have z : evI env (.rng1 a) = ((pickN (evE env a) (evE env.frz a)).bind fun n => .ok (.int n)).bind fun x => (asInt x).bind fun n => req (decide (-1000000 ≤ n) && decide (n ≤ 1000000)) (.ok (rngD 0 n)) := by
        show ((pickN (evE env a) (evE env.frz a)).bind fun n => req (decide (-1000000 ≤ n) && decide (n ≤ 1000000)) (.ok (.list (rngD 0 n)))).bind seqOf = _
        simp only [bind_assoc, rng_seq, bind_ok, asInt]
      rw [z]
      exact y_rng1 (gl_of k q2).1 k.rg q3 (y_N (fun σ Z H env hE => ha.e k o q4 hE) hE)
    · cases q
theorem snd_rng2 {a b : E} (ha : Snd U Y a) (hb : Snd U Y b) : Snd U Y (.rng2 a b) := by
  refine ⟨fun k o h => no h, fun k o h => no h, fun k o h => no h, fun k o h => no h, fun k o h => no h, fun k o h => no h, fun k o h => no h, fun k o h => no h, fun {c X W e} k o h σ Z H env hE => ?_, fun {c X W es} k o h σ Z H env hE => ?_, fun {c X W tg e} k o q σ Z H env hE => ?_⟩
  · cases e <;> cases h
  · match es, h with
    | [], h => cases h
    | [x], h => cases h
    | _ :: _ :: _, h => cases h
  · unfold chkI chk at q
    dsimp only at q
    split at q
    · obtain ⟨q, q6⟩ := and2 q
      obtain ⟨q, q5⟩ := and2 q
      obtain ⟨q, q4⟩ := and2 q
      obtain ⟨q, q3⟩ := and2 q
      obtain ⟨q1, q2⟩ := and2 q
      cases of_decide_eq_true q1
      have z : evI env (.rng2 a b) = ((pickN (evE env a) (evE env.frz a)).bind fun n => .ok (.int n)).bind fun x => (asInt x).bind fun m => ((pickN (evE env b) (evE env.frz b)).bind fun n => .ok (.int n)).bind fun y => (asInt y).bind fun n => req (decide (-1000000 ≤ m) && decide (m ≤ 1000000) && decide (-1000000 ≤ n) && decide (n ≤ 1000000)) (.ok (rngD m n)) := by
        show ((pickN (evE env a) (evE env.frz a)).bind fun m => (pickN (evE env b) (evE env.frz b)).bind fun n => req (decide (-1000000 ≤ m) && decide (m ≤ 1000000) && decide (-1000000 ≤ n) && decide (n ≤ 1000000)) (.ok (.list (rngD m n)))).bind seqOf = _
        simp only [bind_assoc, rng_seq, bind_ok, asInt]
      rw [z]
      exact y_rng2 (gl_of k q2).1 k.rg q3 q4 (y_N (fun σ Z H env hE => ha.e k o.1 q5 hE) hE) (fun H1 e1 => y_N (fun σ Z H env hE => hb.e k o.2 q6 hE) hE H1 e1)
    · cases q
/-- the checker of expressions is sound -/
theorem snd_all (i : E) : Snd U Y i := by
  induction i with
  | var i => exact snd_var i
  | int n => exact snd_int n
  | str s => exact snd_str s
  | bl b => exact snd_bl b
  | non => exact snd_non
  | glb x d => exact snd_glb x d
  | bin o a b ha hb => exact snd_bin o ha hb
  | neg a ha => exact snd_neg ha
  | not a ha => exact snd_not ha
  | cmp o a b ha hb => exact snd_cmp o ha hb
  | ch2 o p a b c ha hb hc => exact snd_ch2 o p ha hb hc
  | ch3 o p q a b c d ha hb hc hd => exact snd_ch3 o p q ha hb hc hd
  | and es h => exact snd_and h
  | or es h => exact snd_or h
  | ite c a b hc ha hb => exact snd_ite hc ha hb
  | nil => exact snd_nil
  | cons a b ha hb => exact snd_cons ha hb
  | tup es h => exact snd_tup h
  | lst es h => exact snd_lst h
  | ix a i ha hi => exact snd_ix ha hi
  | nop => exact snd_nop
  | sl a lo hi ha h1 h2 => exact snd_sl ha h1 h2
  | rev a ha => exact snd_rev ha
  | bi k es h => exact snd_bi k h
  | maxd a d ha hd => exact snd_maxd ha hd
  | lrg a ha => exact snd_lrg ha
  | isi a t ha => exact snd_isi t ha
  | call k f es h => exact snd_call k f h
  | mt m a es ha h => exact snd_mt m ha h
  | ms m a es ha h => exact snd_ms m ha h
  | lc own t it c e hi hc he => exact snd_lc own t hi hc he
  | rng1 a ha => exact snd_rng1 ha
  | rng2 a b ha hb => exact snd_rng2 ha hb
end
end Rwl

set_option Elab.async false
set_option linter.all false
set_option maxRecDepth 100000
set_option maxHeartbeats 2000000
/-! Rwl, part O: the checker of statements; that it is sound; a def by its checked body. -/
namespace Rwl
open PySem PySem.Spec PyProof.Rows L2 Evl

def nlc : Expr → Bool
  | .ListComp _ _ _ _ => false
  | .SetComp _ _ _ _ => false
  | .DictComp _ _ _ _ _ => false
  | _ => true
def ntup : Expr → Bool
  | .Tuple _ _ _ => false
  | _ => true
theorem sw_plain {v : Expr} {t : Option Expr} {l : Nat} {env : PySem.Env} (h : nlc v = true) : swapsWith v t l env = pure false := by
  cases v <;> first | rfl | cases h
theorem sws_plain {v t : Expr} {l : Nat} {env : PySem.Env} (h : nlc v = true) : swapsWithSole [t] v l env = pure false := sw_plain h
theorem sub_asg {o i : Expr} {pos : Pos} {env : PySem.Env} (h : nsl i = true) (v : Value) : assign (.Subscript o i pos) env v = (do
      let ov ← holding [v] (eval o env)
      let iv ← holding [v, ov] (eval i env)
      standAt pos
      holding [v, ov, iv] (setItem ov iv v)
      release [v, ov, iv] []) := by
  cases i <;> first | rfl | cases h
theorem ss_none {tg v : Expr} {env : PySem.Env} (h : ntup v = true) : swappedStores [tg] v env = pure none := by
  cases v <;> first | (cases tg <;> rfl) | cases h
theorem ss_sub {o i v : Expr} {p : Pos} {env : PySem.Env} : swappedStores [.Subscript o i p] v env = pure none := by
  cases v <;> rfl
structure ChkS where
  s : Stmt → Bool := fun _ => false
  b : List Stmt → Bool := fun _ => false
/-- a fresh list -/
def chkF (c : Ck) (i : E) (e : Expr) : Bool := match i with
  | .lst _ => chkE c i e
  | .lrg _ => chkE c i e
  | .bi .list (.cons _ .nil) => chkE c i e
  | .bin .mul _ _ => chkE c i e
  | .lc _ _ _ _ _ => chkE c i e
  | _ => false
def chks : S → Ck → ChkS
  | .nil, _ => { b := fun ss => match ss with
    | [] => true
    | _ => false }
  | .cons s r, c => { b := match s with
    | .frz => (chks r c).b
    | _ => fun ss => match ss with
      | st :: rest => (chks s c).s st && (chks r c).b rest
      | [] => false }
  | .asg i e, c => { s := fun st => match st with
    | .Assign [.Name x _] v _ => c.loc i x && chkE c e v
    | _ => false }
  | .asgT is e, c => { s := fun st => match st with
    | .Assign [.Tuple es _ _] v _ => chkNames c is es && nlc v && ntup v && chkE c e v
    | _ => false }
  | .new i e, c => { s := fun st => match st with
    | .Assign [.Name x _] v _ => c.loc i x && chkF c e v
    | _ => false }
  | .newd i, c => { s := fun st => match st with
    | .Assign [.Name x _] (.Dict [] [] _) _ => c.loc i x
    | _ => false }
  | .app i e, c => { s := fun st => match st with
    | .Expr (.Call (.Attribute (.Name x _) nm ap) [v] [] pos) _ => decide (nm = ("append" : Str)) && c.var i x && (ap.endLine == pos.line) && nst v && chkE c e v
    | _ => false }
  | .ext i e, c => { s := fun st => match st with
    | .Expr (.Call (.Attribute (.Name x _) nm ap) [v] [] pos) _ => decide (nm = ("extend" : Str)) && c.var i x && (ap.endLine == pos.line) && nst v && chkE c e v
    | _ => false }
  | .seti i k e, c => { s := fun st => match st with
    | .Assign [.Subscript (.Name x _) y _] v _ => c.var i x && nlc v && nsl y && chkE c k y && chkE c e v
    | _ => false }
  | .setd i k e, c => { s := fun st => match st with
    | .Assign [.Subscript (.Name x _) y _] v _ => c.var i x && nlc v && chkE c k y && chkE c e v
    | _ => false }
  | .appPop i j e, c => { s := fun st => match st with
    | .Expr (.Call (.Attribute (.Name x _) nm ap) [.Call (.Attribute (.Name y _) nm2 ap2) [v] [] pos2] [] pos) _ => decide (nm = ("append" : Str)) && decide (nm2 = ("pop" : Str)) && c.var i x && c.var j y && (ap.endLine == pos.line) && (ap2.endLine == pos2.line) && nst v && chkE c e v
    | _ => false }
  | .drop e, c => { s := fun st => match st with
    | .Expr v _ => nlc v && chkE c e v
    | _ => false }
  | .ifs t a b, c => { s := fun st => match st with
    | .If x y z _ => chkT c t x && (chks a c).b y && (chks b c).b z
    | _ => false }
  | .forr t it b, c => { s := fun st => match st with
    | .For tg iter body [] _ => nset iter && chkTg c t tg && chkI c it iter && (chks b c).b body
    | _ => false }
  | .whil _ t b, c => { s := fun st => match st with
    | .While x body [] _ => chkT c t x && (chks b c).b body
    | _ => false }
  | .ret e, c => { s := fun st => match st with
    | .Return (some v) _ => chkE c e v
    | _ => false }
  | .rai k, c => { s := fun st => match st with
    | .Raise (some (.Call (.Name x _) [.Constant (.str _) _ _] [] _)) none _ => decide (k < 5) && decide (x = (Ty.cls k).nm) && c.gl x
    | _ => false }
  | .brk, _ => { s := fun st => match st with
    | .Break _ => true
    | _ => false }
  | .tryk b k j i, c => { s := fun st => match st with
    | .Try body [.ExceptHandler (some (.Name x _)) (some n) [.Assign [.Name m _] (.Name n2 _) _] _] [] [] _ => decide (k < 6) && decide (x = (Ty.cls k).nm) && c.gl x && decide (c.N[i]? = some n) && decide (c.sc.names.lookup n = some .local) &&
        decide (c.N[j]? = some m) && decide (c.sc.names.lookup m = some .local) && decide (n2 = n) && !(n == ("__debug__" : Str)) && !(n == ("__classdict__" : Str)) && (i != j) && (chks b c).b body
    | _ => false }
  | .frz, _ => {}
/-- what a body's context must bear -/
structure CokS (U : Ux) (c : Ck) (X : Cx) (W : WX) : Prop extends Cok U c X W where
  kind : X.env.scope.kind = .function
  stack : X.stack = X.env :: X.outer
  frame : X.env.frame = some X.env.locals
  ex : X.ex = []
  ps : PassesOwn (model X.prog X.w) X.A X.env X.xe
  rai : ∀ k, k < 5 → ∃ C, U.ec k = some C ∧ ∃ (B newId initId : String) (bmB : List Value), ExcBaseFacts B newId initId bmB ∧ PySem.W.excIn X.K C bmB newId = true ∧ X.mg (Ty.cls k).nm = some (.ref C) ∧ PySem.W.keepIn X.K (.ref C) = true ∧ Raises X (.ref C)
  exm : ∀ k, k < 6 → ∃ cv, X.mg (Ty.cls k).nm = some cv ∧ ∀ c', c' < 5 → ∃ C, U.ec c' = some C ∧ PySem.W.exmOne X.K (.ref C) cv = some (below c' k)
def S.cl (pc : Nat → (List D → Res D) → Prop) (pg : Str → D → Prop) : S → Prop
  | .cons s r => s.cl pc pg ∧ r.cl pc pg
  | .asg _ e => e.cl pc pg
  | .asgT _ e => e.cl pc pg
  | .new _ e => e.cl pc pg
  | .app _ e => e.cl pc pg
  | .ext _ e => e.cl pc pg
  | .seti _ k e => k.cl pc pg ∧ e.cl pc pg
  | .setd _ k e => k.cl pc pg ∧ e.cl pc pg
  | .appPop _ _ e => e.cl pc pg
  | .drop e => e.cl pc pg
  | .ifs c a b => c.cl pc pg ∧ a.cl pc pg ∧ b.cl pc pg
  | .forr _ it b => it.cl pc pg ∧ b.cl pc pg
  | .whil _ c b => c.cl pc pg ∧ b.cl pc pg
  | .ret e => e.cl pc pg
  | .tryk b _ _ _ => b.cl pc pg
  | _ => True
section
variable {U : Ux} {Y : List Addr} {X : Cx} {W : WX} {c : Ck}
theorem ye_of (i : E) {e : Expr} (k : Cok U c X W) (o : i.ok U c X) (h : chkE c i e = true) : Ye U W X.K Y (Ew X e) fun env => evE env i := fun σ Z H env hE => (snd_all i).e k o h hE
/-- name = value: the rule, with its reading -/
theorem asg_ps (i : E) {n : Nat} {x : Str} {p sp : Pos} {v : Expr} (k : CokS U c X W) (o : i.ok U c X) (hx : c.loc n x = true) (h : chkE c i v = true) :
    ∃ te, PS X (.Assign [.Name x p] v sp) (tAsg te (gName n)) ∧ Ye U W X.K Y te (fun env => evE env i) ∧ (chkF c i v = true → ∀ σ Z H env, EnvOk U X.K Y Z H σ env → Fr U W X.K Z te σ H (evE env i)) := by
  obtain ⟨l1, l2, l3⟩ := loc_of k.toCok hx
  have plain : swapsWith v (some (.Name x p)) sp.line X.env = pure false → PS X (.Assign [.Name x p] v sp) (tAsg (Ew X v) (gName n)) := fun hs => ps_set (nd_of k.toCok) l1 l2 ew hs l3
  have fr : chkF c i v = true → ∀ σ Z H env, EnvOk U X.K Y Z H σ env → Fr U W X.K Z (Ew X v) σ H (evE env i) := fun hf σ Z H env hE => by
    unfold chkF at hf
    split at hf
    · exact f_lstE (snd_all _) k.toCok o hf hE
    · rename_i i a0
      obtain ⟨_, _, _, _, _, rfl, q3, q4, q5, q6⟩ := lrg_inv hf
      exact f_lrg k.calm (gl_of k.toCok q3).1 (k.bi .list) (gl_of k.toCok q4).1 k.rg q5 ((snd_all a0).e k.toCok o q6 hE)
    · obtain ⟨p, a, as, pos, rfl, h2, h3, h4⟩ := bi_inv hf
      rename_i i a0
      obtain ⟨e2, r2, e3, n2, q2, q3⟩ := cons_l h4
      cases e3
      cases nil_l q3
      have r := f_list (p := p) (pos := pos) (gl_of k.toCok h2).1 (k.bi .list) n2 ((snd_all a0).e k.toCok o.1 q2 hE)
      have z : evE env (.bi .list (.cons a0 .nil)) = (evE env a0).bind fun x => bi .list [x] := by
        show ((evE env a0).bind fun x => (Res.ok []).bind fun xs => Res.ok (x :: xs)).bind (bi .list) = _
        rw [bind_assoc]
        rfl
      rw [z]
      exact r
    · rename_i i a b
      cases v with
      | BinOp x op y pos =>
        obtain ⟨hf, h3⟩ := and2 (show (decide (op = O2.mul.op) && chkE c a x && chkE c b y) = true from hf)
        obtain ⟨h1, h2⟩ := and2 hf
        cases of_decide_eq_true h1
        exact f_mul hE.zt ((snd_all a).e k.toCok o.1 h2 hE) ((snd_all b).e k.toCok o.2 h3 hE)
      | _ => cases hf
    · exact lc_ew (snd_all _) (snd_all _) (snd_all _) k.toCok o hf hE
    · cases hf
  by_cases hl : nlc v = true
  · exact ⟨_, plain (sw_plain hl), ye_of i k.toCok o h, fr⟩
  · cases v with
    | ListComp elt gs scope pos =>
      have hi : ∃ own t it cn el, i = .lc own t it cn el := by cases i <;> first | exact ⟨_, _, _, _, _, rfl⟩ | cases h
      obtain ⟨own, t, it, cn, el, rfl⟩ := hi
      obtain ⟨elt', tg, iter, ifs, scope', pos', e, I⟩ := lc_inv h
      cases e
      cases hs : ((match X.env.scope.names.lookup x with | some .local => true | _ => false) && (p.line == pos.line) && !(scope.names.any fun (n, k) => n == x && (k == .local || k == .cell))) with
      | true =>
        obtain ⟨hs, h3⟩ := and2 hs
        obtain ⟨h1, h2⟩ := and2 hs
        have h1 : X.env.scope.names.lookup x = some .local := by
          split at h1
          · assumption
          · cases h1
        refine ⟨_, ps_lcw k.calm k.stack k.frame k.tk (nd_of k.toCok) k.kind l1 h1 h2 (not1 h3) (lc_blk k.toCok I) (lc_pg k.toCok I) I.set, fun σ Z H env hE => Fr.yl hE.zt lc_list (lc_fr (snd_all _) (snd_all _) (snd_all _) k.toCok o I hE), fun _ σ Z H env hE => lc_fr (snd_all _) (snd_all _) (snd_all _) k.toCok o I hE⟩
      | false =>
        refine ⟨_, plain ?_, ye_of _ k.toCok o h, fr⟩
        have hb : X.env.blockKind = .function := by unfold PySem.Env.blockKind; rw [k.kind]; rfl
        show (pure (X.env.blockKind == .function && X.env.kindOf x == some .local && p.line == pos.line && !(scope.names.any fun (n, k) => n == x && (k == .local || k == .cell))) : Sem Bool) = pure false
        congr 1
        rw [hb]
        cases hk : X.env.scope.names.lookup x with
        | none =>
          have e : X.env.kindOf x = none := hk
          rw [e]; rfl
        | some kd =>
          have e : X.env.kindOf x = some kd := hk
          rw [e]
          rw [hk] at hs
          cases kd with
          | «local» => exact hs
          | _ => rfl
    | SetComp _ _ _ _ => cases i <;> cases h
    | DictComp _ _ _ _ _ => cases i <;> cases h
    | _ => exact absurd rfl hl
end
end Rwl

set_option Elab.async false
set_option linter.all false
set_option maxRecDepth 100000
set_option maxHeartbeats 2000000
/-! Rwl, part P: the checker of statements is sound; a def by its checked body. -/
namespace Rwl
open PySem PySem.Spec PyProof.Rows L2 Evl
section
variable {U : Ux} {Y : List Addr} {X : Cx} {W : WX} {c : Ck}
abbrev S.ok (U : Ux) (c : Ck) (X : Cx) (i : S) : Prop := i.cl (FC U c.T X) (GC U X)
structure SndS (U : Ux) (Y : List Addr) (i : S) : Prop where
  s : ∀ {c : Ck} {X : Cx} {W : WX} {st : Stmt}, CokS U c X W → i.ok U c X → (chks i c).s st = true → Ys U W X.K Y (Sw X st) (exS i)
  b : ∀ {c : Ck} {X : Cx} {W : WX} {ss : List Stmt}, CokS U c X W → i.ok U c X → (chks i c).b ss = true → Ys U W X.K Y (Bs X ss) (exS i)
theorem SndS.mk0 {i : S} (h : ∀ {c : Ck} {X : Cx} {W : WX} {st : Stmt}, CokS U c X W → i.ok U c X → (chks i c).s st = true → Ys U W X.K Y (Sw X st) (exS i)) (h2 : ∀ c ss, (chks i c).b ss = false := by intros; rfl) : SndS U Y i :=
  ⟨h, fun k o q => by rw [h2] at q; cases q⟩
theorem yt_of (i : E) {e : Expr} (k : Cok U c X W) (o : i.ok U c X) (h : chkT c i e = true) : ∀ σ Z H env, EnvOk U X.K Y Z H σ env → Yl U W RQ (Tw X e) σ H (evT env i) := fun σ Z H env hE => (snd_all i).t k o h hE
theorem yi_of (i : E) {tg e : Expr} (k : Cok U c X W) (o : i.ok U c X) (h : chkI c i e = true) : ∀ σ Z H env, EnvOk U X.K Y Z H σ env → Yl U W (RI U X.K Z) (Iw X tg e) σ H (evI env i) := fun σ Z H env hE => (snd_all i).i k o h hE
theorem ss_nil : SndS U Y .nil := ⟨fun _ _ q => no q, fun {c X W ss} k o q => by
  cases ss with
  | nil => exact Ys.all pss_nil s_nx
  | cons _ _ => cases q⟩
theorem ss_cons {s r : S} (hs : SndS U Y s) (hr : SndS U Y r) : SndS U Y (.cons s r) := ⟨fun _ _ q => no q, fun {c X W ss} k o q => by
  by_cases hf : s = .frz
  · subst hf
    exact s_frz (f := exS r) (hr.b k o.2 q)
  · have q' : (match ss with
      | st :: rest => (chks s c).s st && (chks r c).b rest
      | [] => false) = true := by
      cases s <;> first | exact absurd rfl hf | (cases ss <;> exact q)
    cases ss with
    | nil => cases q'
    | cons st rest =>
      obtain ⟨h1, h2⟩ := and2 q'
      exact Ys.all (pss_cons sw bs) (s_seq (D0 := ()) (hs.s k o.1 h1) (hr.b k o.2 h2))⟩
theorem ss_asg (n : Nat) (i : E) : SndS U Y (.asg n i) := .mk0 fun {c X W st} k o q => by
  unfold chks at q
  dsimp only at q
  split at q
  · obtain ⟨q1, q2⟩ := and2 q
    obtain ⟨te, p, h, _⟩ := asg_ps (Y := Y) i k o q1 q2
    exact Ys.one p (s_asg (y_V h))
  · cases q
theorem ss_asgT (is : List Nat) (i : E) : SndS U Y (.asgT is i) := .mk0 fun {c X W st} k o q => by
  unfold chks at q
  dsimp only at q
  split at q
  · obtain ⟨q, q4⟩ := and2 q
    obtain ⟨q, q3⟩ := and2 q
    obtain ⟨q1, q2⟩ := and2 q
    rename_i es kk p v sp _ _
    have pg : PG X (.Tuple es kk p) ((⟨true, is⟩ : Tg).g X.K) := tg_pg (t := ⟨true, is⟩) k.toCok (e := .Tuple es kk p) q1
    exact Ys.one (ps_asg ew pg (sws_plain q2) (ss_none q3)) (s_asgT (y_V (ye_of i k.toCok o q4)))
  · cases q
theorem ss_new (n : Nat) (i : E) : SndS U Y (.new n i) := .mk0 fun {c X W st} k o q => by
  unfold chks at q
  dsimp only at q
  split at q
  · obtain ⟨q1, q2⟩ := and2 q
    rename_i x p v sp
    have q3 := q2
    unfold chkF at q3
    have q4 : chkE c i v = true := by
      split at q3 <;> first | exact q3 | cases q3
    obtain ⟨te, p, _, h⟩ := asg_ps (Y := Y) i k o q1 q4
    exact Ys.one p (s_new (h q2))
  · cases q
theorem ss_newd (n : Nat) : SndS U Y (.newd n) := .mk0 fun {c X W st} k o q => by
  unfold chks at q
  dsimp only at q
  split at q
  · obtain ⟨l1, l2, l3⟩ := loc_of k.toCok q
    exact Ys.one (ps_set (nd_of k.toCok) l1 l2 pe_dnewK (sw_plain rfl) l3) s_newd
  · cases q
theorem ss_app (n : Nat) (i : E) : SndS U Y (.app n i) := .mk0 fun {c X W st} k o q => by
  unfold chks at q
  dsimp only at q
  split at q
  · obtain ⟨q, q5⟩ := and2 q
    obtain ⟨q, q4⟩ := and2 q
    obtain ⟨q, q3⟩ := and2 q
    obtain ⟨q1, q2⟩ := and2 q
    cases of_decide_eq_true q1
    exact Ys.one (ps_expr (pe_bm PySem.F.plainAttrs_list PySem.F.slot_list_append PySem.F.type_list_append mt_append (var_pe k.toCok q2) (pa_cons ew pa_nil (star_cons q4)) (attr_base rfl) (few_ok q4) q3 (star_cons q4) rfl) (sw_plain rfl))
      (s_app (y_V (ye_of i k.toCok o q5)))
  · cases q
theorem ss_ext (n : Nat) (i : E) : SndS U Y (.ext n i) := .mk0 fun {c X W st} k o q => by
  unfold chks at q
  dsimp only at q
  split at q
  · obtain ⟨q, q5⟩ := and2 q
    obtain ⟨q, q4⟩ := and2 q
    obtain ⟨q, q3⟩ := and2 q
    obtain ⟨q1, q2⟩ := and2 q
    cases of_decide_eq_true q1
    exact Ys.one (ps_expr (pe_bm PySem.F.plainAttrs_list PySem.F.slot_list_extend PySem.F.type_list_extend mt_extend (var_pe k.toCok q2) (pa_cons ew pa_nil (star_cons q4)) (attr_base rfl) (few_ok q4) q3 (star_cons q4) rfl) (sw_plain rfl))
      (s_ext (y_V (ye_of i k.toCok o q5)))
  · cases q
theorem ss_seti (n : Nat) (j i : E) : SndS U Y (.seti n j i) := .mk0 fun {c X W st} k o q => by
  unfold chks at q
  dsimp only at q
  split at q
  · obtain ⟨q, q4⟩ := and2 q
    obtain ⟨q, q3⟩ := and2 q
    obtain ⟨q, q5⟩ := and2 q
    obtain ⟨q1, q2⟩ := and2 q
    exact Ys.one (ps_asg ew (pg_sub (var_pe k.toCok q1) ew set_list (sub_asg q5)) (sws_plain q2) ss_sub) (s_seti (y_V (ye_of i k.toCok o.2 q4)) (y_V (ye_of j k.toCok o.1 q3)))
  · cases q
theorem ss_setd (n : Nat) (j i : E) : SndS U Y (.setd n j i) := .mk0 fun {c X W st} k o q => by
  unfold chks at q
  dsimp only at q
  split at q
  · obtain ⟨q, q4⟩ := and2 q
    obtain ⟨q, q3⟩ := and2 q
    obtain ⟨q1, q2⟩ := and2 q
    exact Ys.one (ps_dput (by have := k.hu; omega) (var_pe k.toCok q1) ew ew (sw_plain q2)) (s_setd (y_V (ye_of i k.toCok o.2 q4)) (y_V (ye_of j k.toCok o.1 q3)))
  · cases q
theorem ss_appPop (n m : Nat) (i : E) : SndS U Y (.appPop n m i) := .mk0 fun {c X W st} k o q => by
  unfold chks at q
  dsimp only at q
  split at q
  · obtain ⟨q, q8⟩ := and2 q
    obtain ⟨q, q7⟩ := and2 q
    obtain ⟨q, q6⟩ := and2 q
    obtain ⟨q, q5⟩ := and2 q
    obtain ⟨q, q4⟩ := and2 q
    obtain ⟨q, q3⟩ := and2 q
    obtain ⟨q1, q2⟩ := and2 q
    cases of_decide_eq_true q1
    cases of_decide_eq_true q2
    refine Ys.one (ps_expr (pe_bm PySem.F.plainAttrs_list PySem.F.slot_list_append PySem.F.type_list_append mt_append (var_pe k.toCok q3) (pa_cons (pe_bm PySem.F.plainAttrs_list PySem.F.slot_list_pop PySem.F.type_list_pop mt_popAt (var_pe k.toCok q4) (pa_cons ew pa_nil (star_cons q7)) (attr_base rfl) (few_ok q7) q6 (star_cons q7) rfl) pa_nil (star_cons rfl)) (attr_base rfl) (few_ok rfl) q5 (star_cons rfl) rfl) (sw_plain rfl))
      (s_appPop (y_V (ye_of i k.toCok o q8)))
  · cases q
theorem ss_drop (i : E) : SndS U Y (.drop i) := .mk0 fun {c X W st} k o q => by
  unfold chks at q
  dsimp only at q
  split at q
  · obtain ⟨q1, q2⟩ := and2 q
    exact Ys.one (ps_expr ew (sw_plain q1)) (s_drop (ye_of i k.toCok o q2))
  · cases q
theorem ss_ifs (t : E) {a b : S} (ha : SndS U Y a) (hb : SndS U Y b) : SndS U Y (.ifs t a b) := .mk0 fun {c X W st} k o q => by
  unfold chks at q
  dsimp only at q
  split at q
  · obtain ⟨q, q3⟩ := and2 q
    obtain ⟨q1, q2⟩ := and2 q
    exact Ys.one (ps_if tw bs bs) (s_ifs (yt_of t k.toCok o.1 q1) (ha.b k o.2.1 q2) (hb.b k o.2.2 q3))
  · cases q
theorem ss_forr (t : Tg) (i : E) {b : S} (hb : SndS U Y b) : SndS U Y (.forr t i b) := .mk0 fun {c X W st} k o q => by
  unfold chks at q
  dsimp only at q
  split at q
  · obtain ⟨q, q4⟩ := and2 q
    obtain ⟨q, q3⟩ := and2 q
    obtain ⟨q1, q2⟩ := and2 q
    exact Ys.one (ps_for k.ps k.calm iw (tg_pg k.toCok q2) bs (folded_no q1)) (s_for (yi_of i k.toCok o.1 q3) (hb.b k o.2 q4))
  · cases q
theorem ss_whil (n : Nat) (t : E) {b : S} (hb : SndS U Y b) : SndS U Y (.whil n t b) := .mk0 fun {c X W st} k o q => by
  unfold chks at q
  dsimp only at q
  split at q
  · obtain ⟨q1, q2⟩ := and2 q
    exact Ys.one (ps_while k.ps tw bs) (s_whil (yt_of t k.toCok o.1 q1) (hb.b k o.2 q2))
  · cases q
theorem ss_ret (i : E) : SndS U Y (.ret i) := .mk0 fun {c X W st} k o q => by
  unfold chks at q
  dsimp only at q
  split at q
  · exact Ys.one (ps_ret ew) (s_ret (ye_of i k.toCok o q))
  · cases q
theorem ss_rai (n : Nat) : SndS U Y (.rai n) := .mk0 fun {c X W st} k o q => by
  unfold chks at q
  dsimp only at q
  split at q
  · obtain ⟨q, q3⟩ := and2 q
    obtain ⟨q1, q2⟩ := and2 q
    cases of_decide_eq_true q2
    obtain ⟨C, hC, B, newId, initId, bmB, F, h1, h2, h3, h4⟩ := k.rai n (of_decide_eq_true q1)
    exact Ys.one (ps_raise k.calm k.tk (pmk_own F h1 h2 h3 h4 (gl_of k.toCok q3).1 (gl_of k.toCok q3).2)) (s_rai hC)
  · cases q
theorem ss_brk : SndS U Y .brk := .mk0 fun {c X W st} k o q => by
  unfold chks at q
  dsimp only at q
  split at q
  · exact Ys.one ps_break s_brk
  · cases q
theorem cokS_tr (k : CokS U c X W) {W' : WX} {pn : List (Addr × Obj)} {xe : Value → Shared → Prop} (tk : Takes (X.tr pn xe) W') (ps : PassesOwn (model X.prog X.w) X.A X.env xe) : CokS U c (X.tr pn xe) W' :=
  { N := k.N, nd := k.nd, sc := k.sc, fn := k.fn, calm := k.calm, tk := tk, hu := k.hu, bi := k.bi, rg := k.rg, isi := k.isi, ty := fun t => ⟨(k.ty t).val⟩, fr := fun _ => ⟨k.stack, k.frame⟩, kind := k.kind, stack := k.stack, frame := k.frame, ex := k.ex, ps := ps, rai := k.rai, exm := k.exm }
theorem ss_tryk {b : S} (n j i : Nat) (hb : SndS U Y b) : SndS U Y (.tryk b n j i) := .mk0 fun {c X W st} k o q => by
  unfold chks at q
  dsimp only at q
  split at q
  · rename_i body x np nm m kp n2 ep sp pos' pos
    obtain ⟨q, q12⟩ := and2 q
    obtain ⟨q, q11⟩ := and2 q
    obtain ⟨q, q10⟩ := and2 q
    obtain ⟨q, q9⟩ := and2 q
    obtain ⟨q, q8⟩ := and2 q
    obtain ⟨q, q7⟩ := and2 q
    obtain ⟨q, q6⟩ := and2 q
    obtain ⟨q, q5⟩ := and2 q
    obtain ⟨q, q4⟩ := and2 q
    obtain ⟨q, q3⟩ := and2 q
    obtain ⟨q1, q2⟩ := and2 q
    have q1 := of_decide_eq_true q1
    cases of_decide_eq_true q2
    cases of_decide_eq_true q8
    have q4 := of_decide_eq_true q4
    have q5 := of_decide_eq_true q5
    have q6 := of_decide_eq_true q6
    have q7 := of_decide_eq_true q7
    obtain ⟨cv, m1, m2⟩ := k.exm n q1
    have hij : i ≠ j := by simpa using q11
    have hlt : i < X.N.length := by rw [k.N]; exact (List.getElem?_eq_some_iff.mp q4).1
    refine Ys.one (ps_try_keep (tb := fun W' D σ H => ∀ pn xe, Takes (X.tr pn xe) W' → PassesOwn (model X.prog X.w) X.A X.env xe → Bs (X.tr pn xe) body D σ H) k.stack k.frame k.ex (nd_of k.toCok) (by rw [k.N]; exact q4) (by show X.env.scope.names.lookup _ = _; rw [k.sc]; exact q5) (by rw [k.N]; exact q6) (by rw [k.sc]; exact q7) hlt
      ⟨(gl_of k.toCok q3).1, (gl_of k.toCok q3).2, .inl m1⟩ k.tk (not1 q9) (not1 q10) fun W' pn xe tk ps => ⟨fun pins s σ H D I h => h pn xe tk ps pins s I⟩) ?_
    refine s_try (tb := fun W' D σ H => ∀ pn xe, Takes (X.tr pn xe) W' → PassesOwn (model X.prog X.w) X.A X.env xe → Bs (X.tr pn xe) body D σ H) hij m2 (fun W' => ?_)
    intro Hb D σ Z H env kp hE cn pn xe tk ps
    exact hb.b (cokS_tr k tk ps) o q12 Hb D σ Z H env kp hE cn
  · cases q
theorem ss_all (i : S) : SndS U Y i := by
  induction i with
  | nil => exact ss_nil
  | cons s r hs hr => exact ss_cons hs hr
  | asg i e => exact ss_asg i e
  | asgT is e => exact ss_asgT is e
  | new i e => exact ss_new i e
  | newd i => exact ss_newd i
  | app i e => exact ss_app i e
  | ext i e => exact ss_ext i e
  | seti i k e => exact ss_seti i k e
  | setd i k e => exact ss_setd i k e
  | appPop i j e => exact ss_appPop i j e
  | drop e => exact ss_drop e
  | ifs c a b ha hb => exact ss_ifs c ha hb
  | forr t it b hb => exact ss_forr t it hb
  | whil n c b hb => exact ss_whil n c hb
  | ret e => exact ss_ret e
  | rai c => exact ss_rai c
  | brk => exact ss_brk
  | tryk b c k n hb => exact ss_tryk c k n hb
  | frz => exact .mk0 fun k o q => no q
end
/-! ### a def -/
/-- what the module says -/
structure Md (U : Ux) (K : PySem.W.Frag) (mg : Str → Option Value) : Prop where
  bi : ∀ k : Bi, mg k.name = none
  rg : mg "range" = none
  isi : mg "isinstance" = none
  ty : ∀ X : Cx, X.K = K → X.mg = mg → ∀ t : Ty, TyIs U X t.nm t
  rai : ∀ k, k < 5 → ∃ C, U.ec k = some C ∧ ∃ (B newId initId : String) (bmB : List Value), ExcBaseFacts B newId initId bmB ∧ PySem.W.excIn K C bmB newId = true ∧ mg (Ty.cls k).nm = some (.ref C) ∧ PySem.W.keepIn K (.ref C) = true ∧ ∀ X : Cx, X.K = K → Raises X (.ref C)
  exm : ∀ k, k < 6 → ∃ cv, mg (Ty.cls k).nm = some cv ∧ ∀ c', c' < 5 → ∃ C, U.ec c' = some C ∧ PySem.W.exmOne K (.ref C) cv = some (below c' k)
/-- the def named x, of m parameters, is f: at level k -/
def DefIs (U : Ux) (P : Program) (w : World) (K : PySem.W.Frag) (mg : Str → Option Value) (base : Heap) (k : Nat) (x : Str) (m : Nat) (f : List D → Res D) : Prop :=
  ∃ (fa : Addr) (fd : FuncData) (ps : List Str), mg x = some (.ref fa) ∧ PySem.W.keepIn K (.ref fa) = true ∧ Binds K fd ps [] ∧ FnOk P w K mg base (L2.CX P w) k fa fd ps (spD U K m f)
theorem DefIs.mono {U : Ux} {P : Program} {w : World} {K : PySem.W.Frag} {mg : Str → Option Value} {base : Heap} {j k : Nat} {x : Str} {m : Nat} {f : List D → Res D} (h : DefIs U P w K mg base j x m f) (le : j ≤ k) : DefIs U P w K mg base k x m f := by
  obtain ⟨fa, fd, ps, h1, h2, h3, h4⟩ := h
  exact ⟨fa, fd, ps, h1, h2, h3, h4.mono le⟩
def GlIs (U : Ux) (K : PySem.W.Frag) (mg : Str → Option Value) : Str → D → Prop := fun x d => ∃ v cv, mg x = some cv ∧ RelV v cv ∧ ∀ H, Dat U K H v d
theorem E.cl_mono {pc pc' : Nat → (List D → Res D) → Prop} {pg pg' : Str → D → Prop} (h1 : ∀ k f, pc k f → pc' k f) (h2 : ∀ x d, pg x d → pg' x d) : ∀ {i : E}, i.cl pc pg → i.cl pc' pg' := by
  intro i
  induction i with
  | glb x d => exact h2 x d
  | call k f es ih => exact fun h => ⟨h1 k f h.1, ih h.2⟩
  | bin _ _ _ ha hb => exact fun h => ⟨ha h.1, hb h.2⟩
  | neg _ ha => exact fun h => ha h
  | not _ ha => exact fun h => ha h
  | cmp _ _ _ ha hb => exact fun h => ⟨ha h.1, hb h.2⟩
  | ch2 _ _ _ _ _ ha hb hc => exact fun h => ⟨ha h.1, hb h.2.1, hc h.2.2⟩
  | ch3 _ _ _ _ _ _ _ ha hb hc hd => exact fun h => ⟨ha h.1, hb h.2.1, hc h.2.2.1, hd h.2.2.2⟩
  | and _ ha => exact fun h => ha h
  | or _ ha => exact fun h => ha h
  | ite _ _ _ hc ha hb => exact fun h => ⟨hc h.1, ha h.2.1, hb h.2.2⟩
  | cons _ _ ha hb => exact fun h => ⟨ha h.1, hb h.2⟩
  | tup _ ha => exact fun h => ha h
  | lst _ ha => exact fun h => ha h
  | ix _ _ ha hb => exact fun h => ⟨ha h.1, hb h.2⟩
  | sl _ _ _ ha hb hc => exact fun h => ⟨ha h.1, hb h.2.1, hc h.2.2⟩
  | rev _ ha => exact fun h => ha h
  | bi _ _ ha => exact fun h => ha h
  | maxd _ _ ha hb => exact fun h => ⟨ha h.1, hb h.2⟩
  | lrg _ ha => exact fun h => ha h
  | isi _ _ ha => exact fun h => ha h
  | mt _ _ _ ha hb => exact fun h => ⟨ha h.1, hb h.2⟩
  | ms _ _ _ ha hb => exact fun h => ⟨ha h.1, hb h.2⟩
  | lc _ _ _ _ _ ha hb hc => exact fun h => ⟨ha h.1, hb h.2.1, hc h.2.2⟩
  | rng1 _ ha => exact fun h => ha h
  | rng2 _ _ ha hb => exact fun h => ⟨ha h.1, hb h.2⟩
  | _ => exact fun _ => trivial
theorem S.cl_mono {pc pc' : Nat → (List D → Res D) → Prop} {pg pg' : Str → D → Prop} (h1 : ∀ k f, pc k f → pc' k f) (h2 : ∀ x d, pg x d → pg' x d) : ∀ {i : S}, i.cl pc pg → i.cl pc' pg' := by
  intro i
  induction i with
  | cons _ _ ha hb => exact fun h => ⟨ha h.1, hb h.2⟩
  | asg _ e => exact fun h => E.cl_mono h1 h2 h
  | asgT _ e => exact fun h => E.cl_mono h1 h2 h
  | new _ e => exact fun h => E.cl_mono h1 h2 h
  | app _ e => exact fun h => E.cl_mono h1 h2 h
  | ext _ e => exact fun h => E.cl_mono h1 h2 h
  | seti _ k e => exact fun h => ⟨E.cl_mono h1 h2 h.1, E.cl_mono h1 h2 h.2⟩
  | setd _ k e => exact fun h => ⟨E.cl_mono h1 h2 h.1, E.cl_mono h1 h2 h.2⟩
  | appPop _ _ e => exact fun h => E.cl_mono h1 h2 h
  | drop e => exact fun h => E.cl_mono h1 h2 h
  | ifs c a b ha hb => exact fun h => ⟨E.cl_mono h1 h2 h.1, ha h.2.1, hb h.2.2⟩
  | forr _ it b hb => exact fun h => ⟨E.cl_mono h1 h2 h.1, hb h.2⟩
  | whil _ c b hb => exact fun h => ⟨E.cl_mono h1 h2 h.1, hb h.2⟩
  | ret e => exact fun h => E.cl_mono h1 h2 h
  | tryk b _ _ _ hb => exact fun h => hb h
  | _ => exact fun _ => trivial
section
variable {U : Ux} {P : Program} {w : World} {K : PySem.W.Frag} {mg : Str → Option Value} {base : Heap}
/-- THE RULE: a def whose body is checked against an IR is what the IR's interpreter gives -/
theorem def_ok {x qual : Str} {st : Stmt} {f : Addr} {fd : FuncData} {N ps : List Str} {k : Nat} {T : List (Str × Nat)} {b : S} (F : FunD K x qual (defArgs st) (defBody st) (defScope st) [] [] f fd) (Sc : FnScope N ps (defScope st)) (M : Md U K mg) (hb : (chks b ⟨N, defScope st, none, T⟩).b (defBody st) = true)
    (o : b.cl (fun j g => ∃ y m, T[j]? = some (y, m) ∧ DefIs U P w K mg base k y m g) (GlIs U K mg)) : FnOk P w K mg base (L2.CX P w) (k + 1) f fd ps (spD U K ps.length (run ps.length N.length b)) := by
  refine F.ok Sc (fun vs H Q E h => h.1) (fun cdv A outer s H vs Q E hr h => ?_)
  obtain ⟨hl, Z, ds, zt, dl, hres⟩ := h
  generalize hX : cxOf (L2.CX P w) P w K mg base N qual (defScope st) f cdv A outer s H E = X
  have k0 : CokS U ⟨N, defScope st, none, T⟩ X (fun cls d _ H => E cls d H) := by
    subst hX
    refine { N := rfl, nd := Sc.nd, sc := rfl, fn := fun _ _ => .inl rfl, calm := rfl, tk := takes_of rfl rfl rfl rfl, hu := by have := hr.un; show (A.deeper _).units + 64 < cLine; omega, bi := M.bi, rg := M.rg, isi := M.isi, ty := M.ty _ rfl rfl, fr := fun _ => ⟨rfl, rfl⟩, kind := Sc.kind, stack := rfl, frame := rfl, ex := rfl, ps := passes_of rfl, rai := fun j hj => ?_, exm := M.exm }
    obtain ⟨C, h1, B, n1, n2, bm, h2, h3, h4, h5, h6⟩ := M.rai j hj
    exact ⟨C, h1, B, n1, n2, bm, h2, h3, h4, h5, h6 _ rfl⟩
  refine ⟨Bs X (defBody st), bs, ?_⟩
  have hlen := dl.length
  have hpl : ps.length ≤ N.length := by have := congrArg List.length Sc.pre; rw [List.length_take] at this; omega
  have o' : b.ok U ⟨N, defScope st, none, T⟩ X := by
    subst hX
    refine S.cl_mono (fun j g h => ?_) (fun _ _ h => h) o
    obtain ⟨y, m, h1, fa, fd, ps, h2, h3, h4, h5⟩ := h
    exact ⟨y, m, h1, k, fa, fd, ps, hr, h2, h3, h4, h5⟩
  have hK : X.K = K := by subst hX; rfl
  have main := (ss_all (U := U) (Y := Z) b).b k0 o' hb
  rw [hK] at main
  refine main H _ _ Z H _ Kp.start (EnvOk.start zt dl N (by omega)) ?_
  have hds : ds.length = ps.length := by rw [← hlen]; exact hl
  have hrun : run ps.length N.length b ds = match exS b (ds.map .dat ++ List.replicate (N.length - ps.length) .none) with
    | .ret d => .ok d
    | .nx _ => .ok .none
    | .exc c _ => .exc c
    | _ => .bad := by
    unfold run
    rw [decide_eq_true hds]
    all_goals cases exS b (ds.map .dat ++ List.replicate (N.length - ps.length) .none) <;> rfl
  rw [hrun] at hres
  rw [hds]
  cases hex : exS b (ds.map .dat ++ List.replicate (N.length - ps.length) .none) with
  | nx env =>
    rw [hex] at hres
    exact fun σ Z' H' kp hE => hres .non H' kp.ex .non
  | brk env => rw [hex] at hres; exact hres.elim
  | ret d =>
    rw [hex] at hres
    exact fun v H' e dv => hres v H' e dv
  | exc c env =>
    rw [hex] at hres
    obtain ⟨C, h1, h2⟩ := hres
    exact ⟨C, h1, fun σ Z' H' kp hE => h2 H' kp.ex⟩
  | bad => rw [hex] at hres; exact hres.elim
theorem def_is {x qual : Str} {st : Stmt} {f : Addr} {fd : FuncData} {N ps : List Str} {k : Nat} {T : List (Str × Nat)} {b : S} (F : FunD K x qual (defArgs st) (defBody st) (defScope st) [] [] f fd) (hm : mg x = some (.ref f)) (hbd : Binds K fd ps []) (Sc : FnScope N ps (defScope st)) (M : Md U K mg) (hb : (chks b ⟨N, defScope st, none, T⟩).b (defBody st) = true)
    (o : b.cl (fun j g => ∃ y m, T[j]? = some (y, m) ∧ DefIs U P w K mg base k y m g) (GlIs U K mg)) : DefIs U P w K mg base (k + 1) x ps.length (run ps.length N.length b) :=
  ⟨f, fd, ps, hm, F.kp, hbd, def_ok F Sc M hb o⟩
end
end Rwl

set_option Elab.async false
set_option linter.all false
set_option maxRecDepth 100000
set_option maxHeartbeats 2000000
/-! Rwl, part Q: what the top has written. -/
namespace Rwl
open PySem PySem.Spec PyProof.Rows L2 He

/-! ### the Hook: facts by names, one more truth -/
def obsW (n : Nat) (fa : List Fa) (fn : List DefD) (ex : PySem.W.Frag → Bool) (g : Addr → Option Obj) : AlD × Bool := (obsDG n fa fn g, ex (frG g (asD g n)))
def hookW (n : Nat) (fa : List Fa) (fn : List DefD) (ex : PySem.W.Frag → Bool) : PySem.W.Hook where
  α := AlD × Bool
  obs := fun s => obsW n fa fn ex s.heap.get?
  val := fun _ => (valD fn, true)
  says := fun _ h => ∃ K : PySem.W.Frag, K.In h ∧ SaysD fa fn K ∧ ex K = true
  of := fun _ _ e => ⟨_, frG_in, congrArg (fun z : AlD × Bool => z.1) e, congrArg (fun z : AlD × Bool => z.2) e⟩
  keeps := fun _ _ _ ⟨K, hK, c⟩ k => ⟨K, PySem.W.Frag.In.keeps hK k, c⟩
theorem obsW_eq {n : Nat} {fa : List Fa} {fn : List DefD} {ex : PySem.W.Frag → Bool} {g : Addr → Option Obj} {s : Shared} (h : ∀ a, g a = s.heap.get? a) : obsW n fa fn ex g = (hookW n fa fn ex).obs s := by
  have e : g = s.heap.get? := funext h
  rw [e] <;> rfl

/-! ### the classes -/
def ecK (K : PySem.W.Frag) (k : Nat) : Option Addr := match decide (k < 5) with
  | true => some (ga K (Ty.cls k).nm)
  | false => none
def mkU (K : PySem.W.Frag) : Ux where
  ec := ecK K
  oc := fun _ => none
  xt := fun _ _ _ => False
  xd := fun _ _ _ h => h.elim
def excB (K : PySem.W.Frag) (D : Addr) : Bool :=
  decide (PySem.W.findIn K (.ref D) "__getattribute__" = some (some (.builtin "BaseException.__getattribute__"))) && decide (PySem.W.findIn K (.ref D) "__getattr__" = some none) && decide (PySem.W.subIn K (.ref D) (.type "BaseException") = some true) &&
  PySem.W.hasDictIn K D && decide (PySem.W.findIn K (.ref D) "__class__" = some (some (.builtin "object.__class__"))) && decide (PySem.W.specialIn K (.builtin "object.__class__") "__get__" = some (some (.builtin "getset_descriptor.__get__"))) &&
  decide (PySem.W.takesIn K (.builtin "object.__class__") = some true) && decide (PySem.W.mroIn K D (.type "object") = some true)
theorem excB_ok {K : PySem.W.Frag} {D : Addr} (h : excB K D = true) : ExcC K D := by
  obtain ⟨h, h8⟩ := and2 h
  obtain ⟨h, h7⟩ := and2 h
  obtain ⟨h, h6⟩ := and2 h
  obtain ⟨h, h5⟩ := and2 h
  obtain ⟨h, h4⟩ := and2 h
  obtain ⟨h, h3⟩ := and2 h
  obtain ⟨h1, h2⟩ := and2 h
  exact ⟨of_decide_eq_true h1, of_decide_eq_true h2, of_decide_eq_true h3, h4, of_decide_eq_true h5, of_decide_eq_true h6, of_decide_eq_true h7, of_decide_eq_true h8⟩
def tyNames : List String := ["NoneType", "bool", "int", "str", "list", "tuple"]
def tyIs : Ty → String → Bool
  | .int, n => n == "int" || n == "bool"
  | .bool, n => n == "bool"
  | .tuple, n => n == "tuple"
  | .cls _, _ => false
def tyN : Ty → String
  | .int => "int"
  | .bool => "bool"
  | .tuple => "tuple"
  | .cls _ => "ValueError"
/-- what isinstance is answered -/
def exB (K : PySem.W.Frag) : Bool :=
  ((List.range 5).all fun k => excB K (ga K (Ty.cls k).nm) && ((List.range 6).all fun m => decide (PySem.W.kitOne K (.ref (ga K (Ty.cls k).nm)) (.ref (ga K (Ty.cls m).nm)) = some (below k m))) && decide (PySem.W.kitOne K (.ref (ga K (Ty.cls k).nm)) (.type "ValueError") = some true) && ((List.range 6).all fun m => decide (PySem.W.exmOne K (.ref (ga K (Ty.cls k).nm)) (.ref (ga K (Ty.cls m).nm)) = some (below k m)))) &&
  ([Ty.int, .bool, .tuple].all fun t => tyNames.all fun n => decide (PySem.W.kitOne K (.type n) (.type (tyN t)) = some (tyIs t n)))
def faStd : List Fa := [.free "len", .free "abs", .free "sum", .free "max", .free "min", .free "sorted", .free "list", .free "int", .free "str", .free "all", .free "any", .free "tuple", .free "range", .free "isinstance", .free "bool", .free "ValueError",
  .glo "BadKind", .glo "BadOrder", .glo "BadSpot", .glo "BadText", .glo "BadWeb", .glo "LayError", .exc "BadKind", .exc "BadOrder", .exc "BadSpot", .exc "BadText", .exc "BadWeb"]
section
variable {K : PySem.W.Frag} {h : Heap} {mg : Str → Option Value}
theorem ecK_lt {k : Nat} (hk : k < 5) : ecK K k = some (ga K (Ty.cls k).nm) := by
  unfold ecK
  rw [decide_eq_true hk]
theorem ecK_some {k : Nat} {C : Addr} (hc : ecK K k = some C) : k < 5 ∧ C = ga K (Ty.cls k).nm := by
  unfold ecK at hc
  cases hd : decide (k < 5) with
  | true => rw [hd] at hc; cases hc; exact ⟨of_decide_eq_true hd, rfl⟩
  | false => rw [hd] at hc; cases hc
theorem ex_cls (e : exB K = true) {k : Nat} (hk : k < 5) : ExcC K (ga K (Ty.cls k).nm) ∧ (∀ m, m < 6 → PySem.W.kitOne K (.ref (ga K (Ty.cls k).nm)) (.ref (ga K (Ty.cls m).nm)) = some (below k m)) ∧ PySem.W.kitOne K (.ref (ga K (Ty.cls k).nm)) (.type "ValueError") = some true := by
  have q := List.all_eq_true.mp (and2 e).1 k (List.mem_range.mpr hk)
  obtain ⟨q, q4⟩ := and2 q
  obtain ⟨q, q3⟩ := and2 q
  obtain ⟨q1, q2⟩ := and2 q
  exact ⟨excB_ok q1, fun m hm => of_decide_eq_true (List.all_eq_true.mp q2 m (List.mem_range.mpr hm)), of_decide_eq_true q3⟩
theorem ex_exm (e : exB K = true) {k : Nat} (hk : k < 5) {m : Nat} (hm : m < 6) : PySem.W.exmOne K (.ref (ga K (Ty.cls k).nm)) (.ref (ga K (Ty.cls m).nm)) = some (below k m) := by
  have q := List.all_eq_true.mp (and2 e).1 k (List.mem_range.mpr hk)
  obtain ⟨_, q4⟩ := and2 q
  exact of_decide_eq_true (List.all_eq_true.mp q4 m (List.mem_range.mpr hm))
theorem ex_ty (e : exB K = true) {t : Ty} (ht : t ∈ [Ty.int, .bool, .tuple]) {n : String} (hn : n ∈ tyNames) : PySem.W.kitOne K (.type n) (.type (tyN t)) = some (tyIs t n) :=
  of_decide_eq_true (List.all_eq_true.mp (List.all_eq_true.mp (and2 e).2 t ht) n hn)
theorem tyD_in {d : D} {n : String} (hn : tyD d = some n) : n ∈ tyNames := by
  cases d <;> first | (cases hn; decide) | cases hn
theorem ty_is (X : K.In h) (G : h.Ns mainGlobals mg) (c : ∀ f ∈ faStd, f.ok K = true) (e : exB K = true) (Y : Cx) (hK : Y.K = K) (hm : Y.mg = mg) (t : Ty) : TyIs (mkU K) Y t.nm t := by
  subst hK
  subst hm
  have fr : ∀ x, Fa.free x ∈ faStd → Y.mg x = none := fun x hx => free_ok X G (c _ hx)
  have gl : ∀ x, Fa.glo x ∈ faStd → Y.mg x = some (.ref (ga Y.K x)) := fun x hx => glo_ok X G (c _ hx)
  have own : ∀ m, m < 6 → Y.mg (Ty.cls m).nm = some (.ref (ga Y.K (Ty.cls m).nm)) → TyIs (mkU Y.K) Y (Ty.cls m).nm (.cls m) := fun m hm6 hg => by
    refine ⟨.ref (ga Y.K (Ty.cls m).nm), .ref (ga Y.K (Ty.cls m).nm), .inl hg, .own _, fun d n k hd hk => ?_, fun c' C k ht hC => ?_⟩
    · cases d <;> first | (cases hk; done) | (cases hd; done)
    · cases ht
      obtain ⟨h5, rfl⟩ := ecK_some hC
      obtain ⟨q1, q2, q3⟩ := ex_cls e h5
      exact ⟨q1, q2 _ hm6⟩
  have bty : ∀ t, t ∈ [Ty.int, .bool, .tuple] → Fa.free t.nm ∈ faStd → bootBuiltins t.nm = some (.type (tyN t)) → t.nm ≠ "__name__" → (∀ d n k, tyD d = some n → isiD d t = .ok k → k = tyIs t n) → (∀ m, t ≠ .cls m) → TyIs (mkU Y.K) Y t.nm t := fun t ht hf hb hn hi hc => by
    refine ⟨.ty (tyN t), .type (tyN t), .inr ⟨fr _ hf, hb, hn⟩, .ty _, fun d n k hd hk => ?_, fun c' C k ht' => absurd ht' (hc k)⟩
    rw [ex_ty e ht (tyD_in hd), hi d n k hd hk]
  match t with
  | .int => exact bty .int (by simp) (by simp [faStd, Ty.nm]) (by decide +kernel) (by decide +kernel) (fun d n k hd hk => by cases d <;> first | (cases hd; cases hk; rfl) | cases hd) (fun m z => by cases z)
  | .bool => exact bty .bool (by simp) (by simp [faStd, Ty.nm]) (by decide +kernel) (by decide +kernel) (fun d n k hd hk => by cases d <;> first | (cases hd; cases hk; rfl) | cases hd) (fun m z => by cases z)
  | .tuple => exact bty .tuple (by simp) (by simp [faStd, Ty.nm]) (by decide +kernel) (by decide +kernel) (fun d n k hd hk => by cases d <;> first | (cases hd; cases hk; rfl) | cases hd) (fun m z => by cases z)
  | .cls 0 => exact own 0 (by decide) (gl _ (by simp [faStd, Ty.nm]))
  | .cls 1 => exact own 1 (by decide) (gl _ (by simp [faStd, Ty.nm]))
  | .cls 2 => exact own 2 (by decide) (gl _ (by simp [faStd, Ty.nm]))
  | .cls 3 => exact own 3 (by decide) (gl _ (by simp [faStd, Ty.nm]))
  | .cls 4 => exact own 4 (by decide) (gl _ (by simp [faStd, Ty.nm]))
  | .cls 5 => exact own 5 (by decide) (gl _ (by simp [faStd, Ty.nm]))
  | .cls (m + 6) =>
    have b1 : bootBuiltins ("ValueError" : Str) = some (.type "ValueError") := by decide +kernel
    have b2 : ("ValueError" : Str) ≠ "__name__" := by decide +kernel
    refine ⟨.ty "ValueError", .type "ValueError", .inr ⟨fr "ValueError" (by simp [faStd]), b1, b2⟩, .ty _, fun d n k hd hk => ?_, fun c' C k ht hC => ?_⟩
    · cases d <;> first | (cases hk; done) | (cases hd; done)
    · cases ht
      obtain ⟨h5, rfl⟩ := ecK_some hC
      obtain ⟨q1, q2, q3⟩ := ex_cls e h5
      refine ⟨q1, ?_⟩
      rw [q3]
      congr 1
      unfold below
      rw [decide_eq_true (by omega), Bool.or_true]
theorem md_of (X : K.In h) (G : h.Ns mainGlobals mg) (c : ∀ f ∈ faStd, f.ok K = true) (e : exB K = true) : Md (mkU K) K mg := by
  have fr : ∀ x, Fa.free x ∈ faStd → mg x = none := fun x hx => free_ok X G (c _ hx)
  have gl : ∀ x, Fa.glo x ∈ faStd → mg x = some (.ref (ga K x)) := fun x hx => glo_ok X G (c _ hx)
  have five : ∀ {p : Nat → Prop}, p 0 → p 1 → p 2 → p 3 → p 4 → ∀ k, k < 5 → p k := fun {p} h0 h1 h2 h3 h4 k hk =>
    match k, hk with
    | 0, _ => h0
    | 1, _ => h1
    | 2, _ => h2
    | 3, _ => h3
    | 4, _ => h4
  refine ⟨fun k => ?_, fr _ (by simp [faStd]), fr _ (by simp [faStd]), ty_is X G c e, ?_, ?_⟩
  · cases k <;> exact fr _ (by simp [faStd, Bi.name])
  · have one : ∀ k, k < 5 → Fa.exc (Ty.cls k).nm ∈ faStd → Fa.glo (Ty.cls k).nm ∈ faStd → ∃ C, (mkU K).ec k = some C ∧ ∃ (B newId initId : String) (bmB : List Value), ExcBaseFacts B newId initId bmB ∧ PySem.W.excIn K C bmB newId = true ∧ mg (Ty.cls k).nm = some (.ref C) ∧ PySem.W.keepIn K (.ref C) = true ∧ ∀ X : Cx, X.K = K → Raises X (.ref C) := fun k hk h1 h2 => by
      obtain ⟨q1, q2, q3, q4⟩ := exc_ok (c _ h1)
      exact ⟨_, ecK_lt hk, "ValueError", "ValueError.__new__", "ValueError.__init__", veBase, PySem.F.excBase_ValueError, q1, gl _ h2, q2, fun Y hY => raises_own (by rw [hY]; exact q3) (by rw [hY]; exact q4)⟩
    exact five (one 0 (by decide) (by simp [faStd, Ty.nm]) (by simp [faStd, Ty.nm])) (one 1 (by decide) (by simp [faStd, Ty.nm]) (by simp [faStd, Ty.nm])) (one 2 (by decide) (by simp [faStd, Ty.nm]) (by simp [faStd, Ty.nm])) (one 3 (by decide) (by simp [faStd, Ty.nm]) (by simp [faStd, Ty.nm])) (one 4 (by decide) (by simp [faStd, Ty.nm]) (by simp [faStd, Ty.nm]))
  · have six : ∀ m, m < 6 → mg (Ty.cls m).nm = some (.ref (ga K (Ty.cls m).nm)) := fun m hm =>
      match m, hm with
      | 0, _ => gl _ (by simp [faStd, Ty.nm])
      | 1, _ => gl _ (by simp [faStd, Ty.nm])
      | 2, _ => gl _ (by simp [faStd, Ty.nm])
      | 3, _ => gl _ (by simp [faStd, Ty.nm])
      | 4, _ => gl _ (by simp [faStd, Ty.nm])
      | 5, _ => gl _ (by simp [faStd, Ty.nm])
    exact fun m hm => ⟨_, six m hm, fun k hk => ⟨_, ecK_lt hk, ex_exm e hk hm⟩⟩
/-- a constant of the module -/
theorem gl_int (X : K.In h) (G : h.Ns mainGlobals mg) {x : Str} {i : Int} (c : (Fa.int x i).ok K = true) : GlIs (mkU K) K mg x (.int i) := by
  obtain ⟨t, q⟩ := int_ok X G c
  exact ⟨.int i, .int i t, q, ⟨t, rfl⟩, fun _ => .int i⟩
theorem gl_str (X : K.In h) (G : h.Ns mainGlobals mg) {x z : Str} (c : (Fa.str x z).ok K = true) : GlIs (mkU K) K mg x (.str z) := by
  obtain ⟨t, q⟩ := str_ok X G c
  exact ⟨.str z, .str z t, q, ⟨t, rfl⟩, fun _ => .str z⟩
def strsD : List Str → List D
  | [] => []
  | x :: r => .str x :: strsD r
theorem gl_tup (X : K.In h) (G : h.Ns mainGlobals mg) {x : Str} {ss : List Str} (c : (Fa.glo x).ok K = true) (t : tupB K x (ss.map .str) = true) : GlIs (mkU K) K mg x (.tuple (ss.map .str)) := by
  refine ⟨.ref (ga K x), .ref (ga K x), glo_ok X G c, rfl, fun H => .tup (tupB_ok t H) ?_⟩
  rw [List.map_map]
  exact DatL.of_strs ss
/-! ### the end -/
/-- what the law promises -/
def spLaw (K : PySem.W.Frag) : Sp := fun vs H Q _ => ∃ (a : Addr) (ns : List Int), vs = [.ref a] ∧ ns.length ≤ 63 ∧ SqL K H a (ns.map V.int) ∧ ∀ H', Q (.bl true) H'
theorem law_fn {P : Program} {w : World} {base : Heap} {k : Nat} {f : Addr} {fd : FuncData} {ps : List Str} {g : List D → Res D} (F : FnOk P w K mg base (L2.CX P w) k f fd ps (spD (mkU K) K 1 g)) (hg : ∀ ns : List Int, ns.length ≤ 63 → g [scr ns] = .ok (.bool true)) :
    FnOk P w K mg base CX0 k f fd ps (spLaw K) := by
  have F1 : FnOk P w K mg base (L2.CX P w) k f fd ps (spLaw K) := F.imp fun vs H Q E ⟨a, ns, e, hl, hS, q⟩ => by
    subst e
    refine ⟨rfl, [], [scr ns], .nil, .cons (.scr (by rw [view_nil]; exact hS)) .nil, ?_⟩
    rw [hg ns hl]
    exact fun v H' _ dv => by rw [dv.bool_inv]; exact q H'
  refine ⟨F1.len, fun A outer s H args us vs Q E hr he hb hv hs => codeAny_mono (F1.run A outer s H args us vs Q (fun _ _ _ => False) hr he hb hv hs) fun r s' hq => ?_⟩
  cases r with
  | error e =>
    obtain ⟨_, _, _, _, _, _, _, _, _, _, _, _, z⟩ := (show L2.CX P w outer H s (fun _ _ _ => False) e s' from hq)
    exact z.elim
  | ok fl => cases fl <;> exact hq
end
end Rwl

set_option Elab.async false
set_option linter.all false
set_option maxRecDepth 100000
set_option maxHeartbeats 0
namespace Rwl
open PySem
/-! ### the defs, as IR (printed by gen.py) -/
def x0_look_web : E := (.not (.ch2 .le .le (.int 0) (.var 1) (.glb "MOST_PLACES" (.int 8))))
def x1_look_web : E := (.or (.cons (.cmp .ne (.bi .len (.cons (.ix (.var 2) (.var 3)) .nil)) (.int 3)) (.cons (.not (.ch3 .le .lt .lt (.int 0) (.ix (.ix (.var 2) (.var 3)) (.int 0)) (.ix (.ix (.var 2) (.var 3)) (.int 1)) (.var 1))) (.cons (.not (.ch2 .le .le (.int 1) (.ix (.ix (.var 2) (.var 3)) (.int 2)) (.glb "MOST_WEIGHT" (.int 100)))) .nil))))
def x2_look_web : E := (.and (.cons (.cmp .gt (.var 3) (.int 0)) (.cons (.not (.cmp .lt (.sl (.ix (.var 2) (.bin .sub (.var 3) (.int 1))) .nop (.int 2)) (.sl (.ix (.var 2) (.var 3)) .nop (.int 2)))) .nil)))
def l3_look_web : S := .cons (.ifs x1_look_web (.cons (.rai 4) .nil) (.nil)) <| .cons (.ifs x2_look_web (.cons (.rai 4) .nil) (.nil)) .nil
def b_look_web : S :=
  .cons (.asgT [1, 2] (.var 0)) <|
  .cons (.ifs x0_look_web (.cons (.rai 4) .nil) (.nil)) <|
  .cons (.forr ⟨false, [3]⟩ (.rng1 (.bi .len (.cons (.var 2) .nil))) (l3_look_web)) <|
  .nil
def f_look_web : List D → Res D := run 1 4 b_look_web
def x0_written : E := (.call 0 f_look_web (.cons (.var 0) .nil))
def x1_written : E := (.lst (.cons (.bin .add (.str "places ") (.bi .str (.cons (.ix (.var 0) (.int 0)) .nil))) .nil))
def x2_written : E := (.lc [2, 3, 4] ⟨true, [2, 3, 4]⟩ (.ix (.var 0) (.int 1)) .nop (.bin .add (.bin .add (.bin .add (.bin .add (.bi .str (.cons (.var 2) .nil)) (.str "-")) (.bi .str (.cons (.var 3) .nil))) (.str " ")) (.bi .str (.cons (.var 4) .nil))))
def x3_written : E := (.ms .join (.str "\n") (.cons (.var 1) .nil))
def b_written : S :=
  .cons (.drop x0_written) <|
  .cons (.new 1 x1_written) <|
  .cons (.ext 1 x2_written) <|
  .cons (.ret x3_written) <|
  .nil
def f_written : List D → Res D := run 1 5 b_written
def x0_number_in : E := (.or (.cons (.not (.ch2 .le .le (.int 1) (.bi .len (.cons (.var 0) .nil)) (.int 3))) (.cons (.not (.bi .all (.cons (.lc [1] ⟨false, [1]⟩ (.var 0) .nop (.cmp .inn (.var 1) (.glb "FIGURES" (.str "0123456789")))) .nil))) (.cons (.and (.cons (.cmp .eq (.ix (.var 0) (.int 0)) (.str "0")) (.cons (.cmp .ne (.var 0) (.str "0")) .nil))) .nil))))
def x1_number_in : E := (.bi .int (.cons (.var 0) .nil))
def b_number_in : S :=
  .cons (.ifs x0_number_in (.cons (.rai 3) .nil) (.nil)) <|
  .cons (.ret x1_number_in) <|
  .nil
def f_number_in : List D → Res D := run 1 2 b_number_in
def x0_tie_in : E := (.ms .split (.var 0) (.cons (.str " ") .nil))
def x1_tie_in : E := (.ms .split (.ix (.var 1) (.int 0)) (.cons (.str "-") .nil))
def x2_tie_in : E := (.or (.cons (.cmp .ne (.bi .len (.cons (.var 1) .nil)) (.int 2)) (.cons (.cmp .ne (.bi .len (.cons (.var 2) .nil)) (.int 2)) .nil)))
def x3_tie_in : E := (.tup (.cons (.call 2 f_number_in (.cons (.ix (.var 2) (.int 0)) .nil)) (.cons (.call 2 f_number_in (.cons (.ix (.var 2) (.int 1)) .nil)) (.cons (.call 2 f_number_in (.cons (.ix (.var 1) (.int 1)) .nil)) .nil))))
def b_tie_in : S :=
  .cons (.asg 1 x0_tie_in) <|
  .cons (.asg 2 x1_tie_in) <|
  .cons (.ifs x2_tie_in (.cons (.rai 3) .nil) (.nil)) <|
  .cons (.ret x3_tie_in) <|
  .nil
def f_tie_in : List D → Res D := run 1 3 b_tie_in
def x0_read : E := (.ms .split (.var 0) (.cons (.str "\n") .nil))
def x1_read : E := (.cmp .ne (.sl (.ix (.var 1) (.int 0)) .nop (.int 7)) (.str "places "))
def x2_read : E := (.tup (.cons (.call 2 f_number_in (.cons (.sl (.ix (.var 1) (.int 0)) (.int 7) .nop) .nil)) (.cons (.lc [3] ⟨false, [3]⟩ (.sl (.var 1) (.int 1) .nop) .nop (.call 3 f_tie_in (.cons (.var 3) .nil))) .nil)))
def x3_read : E := (.call 0 f_look_web (.cons (.var 2) .nil))
def x4_read : E := (.cmp .ntn (.var 4) .non)
def b_read : S :=
  .cons (.asg 1 x0_read) <|
  .cons (.ifs x1_read (.cons (.rai 3) .nil) (.nil)) <|
  .cons (.asg 2 x2_read) <|
  .cons (.asg 4 .non) <|
  .cons (.tryk (.cons (.drop x3_read) .nil) 4 4 5) <|
  .cons (.ifs x4_read (.cons (.rai 3) .nil) (.nil)) <|
  .cons (.ret (.var 2)) <|
  .nil
def f_read : List D → Res D := run 1 6 b_read
def x0_law_cell : E := (.ix (.var 0) (.bin .mod (.var 1) (.bi .len (.cons (.var 0) .nil))))
def b_law_cell : S :=
  .cons (.ifs (.var 0) (.cons (.ret x0_law_cell) .nil) (.nil)) <|
  .cons (.ret (.int 0)) <|
  .nil
def f_law_cell : List D → Res D := run 2 2 b_law_cell
def x0_law_mix : E := (.bin .mod (.bin .add (.call 5 f_law_cell (.cons (.var 0) (.cons (.var 1) .nil))) (.bin .mul (.int 104729) (.bin .add (.var 1) (.int 1)))) (.int 4294967291))
def x1_law_mix : E := (.bin .mod (.bin .mul (.var 2) (.int 48271)) (.int 4294967279))
def x2_law_mix : E := (.bin .mod (.bin .add (.bin .mul (.bin .fdiv (.var 2) (.int 64)) (.int 69621)) (.var 2)) (.int 4294967231))
def b_law_mix : S :=
  .cons (.asg 2 x0_law_mix) <|
  .cons (.asg 2 x1_law_mix) <|
  .cons (.ret x2_law_mix) <|
  .nil
def f_law_mix : List D → Res D := run 2 3 b_law_mix
def x0_law_web : E := (.bin .mod (.call 6 f_law_mix (.cons (.var 0) (.cons (.var 1) .nil))) (.bin .add (.var 2) (.int 1)))
def x1_law_web : E := (.bin .add (.int 1) (.bin .mod (.call 6 f_law_mix (.cons (.var 0) (.cons (.bin .add (.var 1) (.int 1)) .nil))) (.int 4)))
def x2_law_web : E := (.call 6 f_law_mix (.cons (.var 0) (.cons (.bin .add (.bin .add (.bin .add (.var 1) (.int 2)) (.bin .mul (.int 8) (.var 6))) (.var 7)) .nil)))
def x3_law_web : E := (.cmp .lt (.bin .mod (.bin .fdiv (.var 8) (.int 8)) (.int 4)) (.var 4))
def x4_law_web : E := (.tup (.cons (.var 6) (.cons (.var 7) (.cons (.ix (.lst (.cons (.int 1) (.cons (.int 1) (.cons (.int 2) (.cons (.int 3) (.cons (.int 7) (.cons (.int 100) .nil))))))) (.bin .mod (.bin .fdiv (.var 8) (.int 64)) (.int 6))) .nil))))
def l5_law_web : S := .cons (.asg 8 x2_law_web) <| .cons (.ifs x3_law_web (.cons (.app 5 x4_law_web) .nil) (.nil)) .nil
def l6_law_web : S := .cons (.forr ⟨false, [7]⟩ (.rng2 (.bin .add (.var 6) (.int 1)) (.var 3)) (l5_law_web)) .nil
def x7_law_web : E := (.tup (.cons (.var 3) (.cons (.var 5) .nil)))
def b_law_web : S :=
  .cons (.asg 3 x0_law_web) <|
  .cons (.asg 4 x1_law_web) <|
  .cons (.new 5 (.lst .nil)) <|
  .cons (.forr ⟨false, [6]⟩ (.rng1 (.var 3)) (l6_law_web)) <|
  .cons (.ret x7_law_web) <|
  .nil
def f_law_web : List D → Res D := run 3 9 b_law_web
def x0_law_refusal : E := (.cmp .isn (.var 0) .non)
def x1_law_refusal : E := (.lst (.cons (.isi (.var 0) (.cls 0)) (.cons (.isi (.var 0) (.cls 1)) (.cons (.isi (.var 0) (.cls 2)) .nil))))
def x2_law_refusal : E := (.bin .add (.var 1) (.lst (.cons (.isi (.var 0) (.cls 3)) (.cons (.isi (.var 0) (.cls 4)) .nil))))
def x3_law_refusal : E := (.or (.cons (.cmp .ne (.mt .count (.var 1) (.cons (.bl true) .nil)) (.int 1)) (.cons (.not (.isi (.var 0) (.cls 6))) .nil)))
def x4_law_refusal : E := (.ix (.lst (.cons (.str "kind") (.cons (.str "order") (.cons (.str "spot") (.cons (.str "text") (.cons (.str "web") .nil)))))) (.mt .index (.var 1) (.cons (.bl true) .nil)))
def b_law_refusal : S :=
  .cons (.ifs x0_law_refusal (.cons (.ret (.str "ok")) .nil) (.nil)) <|
  .cons (.asg 1 x1_law_refusal) <|
  .cons (.asg 1 x2_law_refusal) <|
  .cons (.ifs x3_law_refusal (.cons (.ret (.str "wrong")) .nil) (.nil)) <|
  .cons (.ret x4_law_refusal) <|
  .nil
def f_law_refusal : List D → Res D := run 1 2 b_law_refusal
def x0_law_text : E := (.lst (.cons (.bin .add (.str "places ") (.bi .str (.cons (.ix (.var 0) (.int 0)) .nil))) .nil))
def x1_law_text : E := (.ms .join (.str "\n") (.cons (.bin .add (.var 1) (.lc [2, 3, 4] ⟨true, [2, 3, 4]⟩ (.ix (.var 0) (.int 1)) .nop (.bin .add (.bin .add (.bin .add (.bin .add (.bi .str (.cons (.var 2) .nil)) (.str "-")) (.bi .str (.cons (.var 3) .nil))) (.str " ")) (.bi .str (.cons (.var 4) .nil))))) .nil))
def b_law_text : S :=
  .cons (.asg 1 x0_law_text) <|
  .cons (.ret x1_law_text) <|
  .nil
def f_law_text : List D → Res D := run 1 5 b_law_text
def x0_law_numbers : E := (.or (.cons (.cmp .eq (.var 2) (.str "")) (.cons (.cmp .gt (.bi .len (.cons (.var 2) .nil)) (.int 3)) (.cons (.not (.bi .all (.cons (.lc [3] ⟨false, [3]⟩ (.var 2) .nop (.cmp .inn (.var 3) (.str "0123456789"))) .nil))) (.cons (.cmp .ne (.bi .str (.cons (.bi .int (.cons (.var 2) .nil)) .nil)) (.var 2)) .nil)))))
def x1_law_numbers : E := (.bi .int (.cons (.var 2) .nil))
def l2_law_numbers : S := .cons (.ifs x0_law_numbers (.cons (.ret .non) .nil) (.nil)) <| .cons (.app 1 x1_law_numbers) .nil
def x3_law_numbers : E := (.bi .tuple (.cons (.var 1) .nil))
def b_law_numbers : S :=
  .cons (.new 1 (.lst .nil)) <|
  .cons (.forr ⟨false, [2]⟩ (.var 0) (l2_law_numbers)) <|
  .cons (.ret x3_law_numbers) <|
  .nil
def f_law_numbers : List D → Res D := run 1 4 b_law_numbers
def x0_law_tried : E := (.ms .split (.var 0) (.cons (.str "\n") .nil))
def x1_law_tried : E := (.call 10 f_law_numbers (.cons (.lst (.cons (.sl (.ix (.var 1) (.int 0)) (.int 7) .nop) .nil)) .nil))
def x2_law_tried : E := (.or (.cons (.cmp .ne (.sl (.ix (.var 1) (.int 0)) .nop (.int 7)) (.str "places ")) (.cons (.cmp .isn (.var 2) .non) .nil)))
def x3_law_tried : E := (.ms .split (.var 4) (.cons (.str " ") .nil))
def x4_law_tried : E := (.call 10 f_law_numbers (.cons (.bin .add (.ms .split (.ix (.var 5) (.int 0)) (.cons (.str "-") .nil)) (.sl (.var 5) (.int 1) .nop)) .nil))
def x5_law_tried : E := (.or (.cons (.cmp .ne (.bi .len (.cons (.var 5) .nil)) (.int 2)) (.cons (.cmp .isn (.var 6) .non) (.cons (.cmp .ne (.bi .len (.cons (.var 6) .nil)) (.int 3)) .nil))))
def l6_law_tried : S := .cons (.asg 5 x3_law_tried) <| .cons (.asg 6 x4_law_tried) <| .cons (.ifs x5_law_tried (.cons (.ret .non) .nil) (.nil)) <| .cons (.app 3 (.var 6)) .nil
def x7_law_tried : E := (.tup (.cons (.ix (.var 2) (.int 0)) (.cons (.var 3) .nil)))
def b_law_tried : S :=
  .cons (.asg 1 x0_law_tried) <|
  .cons (.asg 2 x1_law_tried) <|
  .cons (.ifs x2_law_tried (.cons (.ret .non) .nil) (.nil)) <|
  .cons (.new 3 (.lst .nil)) <|
  .cons (.forr ⟨false, [4]⟩ (.sl (.var 1) (.int 1) .nop) (l6_law_tried)) <|
  .cons (.ret x7_law_tried) <|
  .nil
def f_law_tried : List D → Res D := run 1 7 b_law_tried
def x0_law_is_web : E := (.call 0 f_look_web (.cons (.var 0) .nil))
def x1_law_is_web : E := (.cmp .isn (.var 1) .non)
def b_law_is_web : S :=
  .cons (.asg 1 .non) <|
  .cons (.tryk (.cons (.drop x0_law_is_web) .nil) 4 1 2) <|
  .cons (.ret x1_law_is_web) <|
  .nil
def f_law_is_web : List D → Res D := run 1 3 b_law_is_web
def x0_law : E := (.call 7 f_law_web (.cons (.var 0) (.cons (.int 0) (.cons (.int 6) .nil))))
def x1_law : E := (.call 9 f_law_text (.cons (.var 1) .nil))
def x2_law : E := (.or (.cons (.cmp .ne (.call 1 f_written (.cons (.var 1) .nil)) (.var 2)) (.cons (.cmp .ne (.call 4 f_read (.cons (.var 2) .nil)) (.var 1)) .nil)))
def x3_law : E := (.call 6 f_law_mix (.cons (.var 0) (.cons (.bin .add (.int 91) (.var 3)) .nil)))
def x4_law : E := (.bin .mod (.bin .fdiv (.var 4) (.int 8)) (.bin .add (.bi .len (.cons (.var 2) .nil)) (.int 1)))
def x5_law : E := (.ix (.str "0123 -\nplc7") (.bin .mod (.bin .fdiv (.var 4) (.int 4096)) (.int 11)))
def x6_law : E := (.lst (.cons (.bin .add (.bin .add (.sl (.var 2) .nop (.var 5)) (.var 6)) (.sl (.var 2) (.var 5) .nop)) (.cons (.bin .add (.bin .add (.sl (.var 2) .nop (.var 5)) (.var 6)) (.sl (.var 2) (.bin .add (.var 5) (.int 1)) .nop)) (.cons (.bin .add (.sl (.var 2) .nop (.var 5)) (.sl (.var 2) (.bin .add (.var 5) (.int 1)) .nop)) .nil))))
def x7_law : E := (.ix (.var 7) (.bin .mod (.var 4) (.int 3)))
def l8_law : S := .cons (.asg 4 x3_law) <| .cons (.asg 5 x4_law) <| .cons (.asg 6 x5_law) <| .cons (.asg 7 x6_law) <| .cons (.asg 2 x7_law) .nil
def x9_law : E := (.call 4 f_read (.cons (.var 2) .nil))
def x10_law : E := (.call 11 f_law_tried (.cons (.var 2) .nil))
def x11_law : E := (.and (.cons (.cmp .ntn (.var 11) .non) (.cons (.call 12 f_law_is_web (.cons (.var 11) .nil)) .nil)))
def x12_law : E := (.and (.cons (.cmp .isn (.var 8) .non) (.cons (.cmp .eq (.var 9) (.var 11)) .nil)))
def x13_law : E := (.cmp .ne (.call 8 f_law_refusal (.cons (.var 8) .nil)) (.str "text"))
def x14_law : E := (.call 1 f_written (.cons (.tup (.cons (.int 9) (.cons (.lst .nil) .nil))) .nil))
def x15_law : E := (.cmp .eq (.call 8 f_law_refusal (.cons (.var 8) .nil)) (.str "web"))
def b_law : S :=
  .cons (.asg 1 x0_law) <|
  .cons (.asg 2 x1_law) <|
  .cons (.ifs x2_law (.cons (.ret (.bl false)) .nil) (.nil)) <|
  .cons (.forr ⟨false, [3]⟩ (.rng1 (.bin .add (.int 1) (.bin .mod (.call 6 f_law_mix (.cons (.var 0) (.cons (.int 90) .nil))) (.int 2)))) (l8_law)) <|
  .cons (.asg 8 .non) <|
  .cons (.asg 9 .non) <|
  .cons (.tryk (.cons (.asg 9 x9_law) .nil) 5 8 10) <|
  .cons (.asg 11 x10_law) <|
  .cons (.ifs x11_law (.cons (.ret x12_law) .nil) (.nil)) <|
  .cons (.ifs x13_law (.cons (.ret (.bl false)) .nil) (.nil)) <|
  .cons (.asg 8 .non) <|
  .cons (.tryk (.cons (.drop x14_law) .nil) 5 8 10) <|
  .cons (.ret x15_law) <|
  .nil
def f_law : List D → Res D := run 1 12 b_law
end Rwl

set_option Elab.async false
set_option linter.all false
set_option maxRecDepth 100000
set_option maxHeartbeats 0
namespace Rwl
open PySem
def tabT : List (Str × Nat) := [("look_web", 1), ("written", 1), ("number_in", 1), ("tie_in", 1), ("read", 1), ("_law_cell", 2), ("_law_mix", 2), ("_law_web", 3), ("_law_refusal", 1), ("_law_text", 1), ("_law_numbers", 1), ("_law_tried", 1), ("_law_is_web", 1), ("law", 1)]
def topS (i : Nat) : Stmt := PySem.Challenge.pw_rowlay_k40_texts.main.body.getD i (.Pass ⟨0, 0, 0, 0⟩)
abbrev s_look_web : Stmt := topS 10
def n_look_web : List Str := ["web", "many", "ties", "k"]
theorem k_look_web : (chks b_look_web ⟨n_look_web, L2.defScope s_look_web, none, tabT⟩).b (L2.defBody s_look_web) = true := by decide +kernel
theorem sc_look_web : L2.FnScope n_look_web ["web"] (L2.defScope s_look_web) := ⟨rfl, rfl, rfl, by decide +kernel, rfl, by decide +kernel, by decide +kernel⟩
abbrev s_written : Stmt := topS 13
def n_written : List Str := ["web", "rows", "one", "other", "weight"]
theorem k_written : (chks b_written ⟨n_written, L2.defScope s_written, none, tabT⟩).b (L2.defBody s_written) = true := by decide +kernel
theorem sc_written : L2.FnScope n_written ["web"] (L2.defScope s_written) := ⟨rfl, rfl, rfl, by decide +kernel, rfl, by decide +kernel, by decide +kernel⟩
abbrev s_number_in : Stmt := topS 14
def n_number_in : List Str := ["word", "sign"]
theorem k_number_in : (chks b_number_in ⟨n_number_in, L2.defScope s_number_in, none, tabT⟩).b (L2.defBody s_number_in) = true := by decide +kernel
theorem sc_number_in : L2.FnScope n_number_in ["word"] (L2.defScope s_number_in) := ⟨rfl, rfl, rfl, by decide +kernel, rfl, by decide +kernel, by decide +kernel⟩
abbrev s_tie_in : Stmt := topS 15
def n_tie_in : List Str := ["row", "parts", "ends"]
theorem k_tie_in : (chks b_tie_in ⟨n_tie_in, L2.defScope s_tie_in, none, tabT⟩).b (L2.defBody s_tie_in) = true := by decide +kernel
theorem sc_tie_in : L2.FnScope n_tie_in ["row"] (L2.defScope s_tie_in) := ⟨rfl, rfl, rfl, by decide +kernel, rfl, by decide +kernel, by decide +kernel⟩
abbrev s_read : Stmt := topS 16
def n_read : List Str := ["text", "rows", "found", "row", "kept", "e"]
theorem k_read : (chks b_read ⟨n_read, L2.defScope s_read, none, tabT⟩).b (L2.defBody s_read) = true := by decide +kernel
theorem sc_read : L2.FnScope n_read ["text"] (L2.defScope s_read) := ⟨rfl, rfl, rfl, by decide +kernel, rfl, by decide +kernel, by decide +kernel⟩
abbrev s_law_cell : Stmt := topS 18
def n_law_cell : List Str := ["_law_script", "_law_k"]
theorem k_law_cell : (chks b_law_cell ⟨n_law_cell, L2.defScope s_law_cell, none, tabT⟩).b (L2.defBody s_law_cell) = true := by decide +kernel
theorem sc_law_cell : L2.FnScope n_law_cell ["_law_script", "_law_k"] (L2.defScope s_law_cell) := ⟨rfl, rfl, rfl, by decide +kernel, rfl, by decide +kernel, by decide +kernel⟩
abbrev s_law_mix : Stmt := topS 19
def n_law_mix : List Str := ["_law_script", "_law_k", "_law_number"]
theorem k_law_mix : (chks b_law_mix ⟨n_law_mix, L2.defScope s_law_mix, none, tabT⟩).b (L2.defBody s_law_mix) = true := by decide +kernel
theorem sc_law_mix : L2.FnScope n_law_mix ["_law_script", "_law_k"] (L2.defScope s_law_mix) := ⟨rfl, rfl, rfl, by decide +kernel, rfl, by decide +kernel, by decide +kernel⟩
abbrev s_law_web : Stmt := topS 20
def n_law_web : List Str := ["_law_script", "_law_k", "_law_places", "_law_many", "_law_dense", "_law_ties", "_law_one", "_law_other", "_law_number"]
theorem k_law_web : (chks b_law_web ⟨n_law_web, L2.defScope s_law_web, none, tabT⟩).b (L2.defBody s_law_web) = true := by decide +kernel
theorem sc_law_web : L2.FnScope n_law_web ["_law_script", "_law_k", "_law_places"] (L2.defScope s_law_web) := ⟨rfl, rfl, rfl, by decide +kernel, rfl, by decide +kernel, by decide +kernel⟩
abbrev s_law_refusal : Stmt := topS 21
def n_law_refusal : List Str := ["_law_kept", "_law_kinds"]
theorem k_law_refusal : (chks b_law_refusal ⟨n_law_refusal, L2.defScope s_law_refusal, none, tabT⟩).b (L2.defBody s_law_refusal) = true := by decide +kernel
theorem sc_law_refusal : L2.FnScope n_law_refusal ["_law_kept"] (L2.defScope s_law_refusal) := ⟨rfl, rfl, rfl, by decide +kernel, rfl, by decide +kernel, by decide +kernel⟩
abbrev s_law_text : Stmt := topS 22
def n_law_text : List Str := ["_law_web_here", "_law_rows", "_law_one", "_law_other", "_law_weight"]
theorem k_law_text : (chks b_law_text ⟨n_law_text, L2.defScope s_law_text, none, tabT⟩).b (L2.defBody s_law_text) = true := by decide +kernel
theorem sc_law_text : L2.FnScope n_law_text ["_law_web_here"] (L2.defScope s_law_text) := ⟨rfl, rfl, rfl, by decide +kernel, rfl, by decide +kernel, by decide +kernel⟩
abbrev s_law_numbers : Stmt := topS 23
def n_law_numbers : List Str := ["_law_words", "_law_found", "_law_word", "_law_one"]
theorem k_law_numbers : (chks b_law_numbers ⟨n_law_numbers, L2.defScope s_law_numbers, none, tabT⟩).b (L2.defBody s_law_numbers) = true := by decide +kernel
theorem sc_law_numbers : L2.FnScope n_law_numbers ["_law_words"] (L2.defScope s_law_numbers) := ⟨rfl, rfl, rfl, by decide +kernel, rfl, by decide +kernel, by decide +kernel⟩
abbrev s_law_tried : Stmt := topS 24
def n_law_tried : List Str := ["_law_text_here", "_law_rows", "_law_many", "_law_ties", "_law_row", "_law_parts", "_law_numbers_here"]
theorem k_law_tried : (chks b_law_tried ⟨n_law_tried, L2.defScope s_law_tried, none, tabT⟩).b (L2.defBody s_law_tried) = true := by decide +kernel
theorem sc_law_tried : L2.FnScope n_law_tried ["_law_text_here"] (L2.defScope s_law_tried) := ⟨rfl, rfl, rfl, by decide +kernel, rfl, by decide +kernel, by decide +kernel⟩
abbrev s_law_is_web : Stmt := topS 25
def n_law_is_web : List Str := ["_law_tried_here", "_law_kept", "e"]
theorem k_law_is_web : (chks b_law_is_web ⟨n_law_is_web, L2.defScope s_law_is_web, none, tabT⟩).b (L2.defBody s_law_is_web) = true := by decide +kernel
theorem sc_law_is_web : L2.FnScope n_law_is_web ["_law_tried_here"] (L2.defScope s_law_is_web) := ⟨rfl, rfl, rfl, by decide +kernel, rfl, by decide +kernel, by decide +kernel⟩
abbrev s_law : Stmt := topS 26
def n_law : List Str := ["_law_script", "_law_web_here", "_law_text_here", "_law_k", "_law_number", "_law_at", "_law_one", "_law_some", "_law_kept", "_law_found", "e", "_law_tried_here"]
theorem k_law : (chks b_law ⟨n_law, L2.defScope s_law, none, tabT⟩).b (L2.defBody s_law) = true := by decide +kernel
theorem sc_law : L2.FnScope n_law ["_law_script"] (L2.defScope s_law) := ⟨rfl, rfl, rfl, by decide +kernel, rfl, by decide +kernel, by decide +kernel⟩
end Rwl

set_option Elab.async false
set_option linter.all false
set_option maxRecDepth 100000
set_option maxHeartbeats 0
namespace Rwl
open PySem PySem.W PyProof.Rows
def d_look_web : He.DefD := ⟨("look_web", none), "look_web", "look_web", L2.defArgs s_look_web, L2.defBody s_look_web, L2.defScope s_look_web, [], []⟩
def d_written : He.DefD := ⟨("written", none), "written", "written", L2.defArgs s_written, L2.defBody s_written, L2.defScope s_written, [], []⟩
def d_number_in : He.DefD := ⟨("number_in", none), "number_in", "number_in", L2.defArgs s_number_in, L2.defBody s_number_in, L2.defScope s_number_in, [], []⟩
def d_tie_in : He.DefD := ⟨("tie_in", none), "tie_in", "tie_in", L2.defArgs s_tie_in, L2.defBody s_tie_in, L2.defScope s_tie_in, [], []⟩
def d_read : He.DefD := ⟨("read", none), "read", "read", L2.defArgs s_read, L2.defBody s_read, L2.defScope s_read, [], []⟩
def d_law_cell : He.DefD := ⟨("_law_cell", none), "_law_cell", "_law_cell", L2.defArgs s_law_cell, L2.defBody s_law_cell, L2.defScope s_law_cell, [], []⟩
def d_law_mix : He.DefD := ⟨("_law_mix", none), "_law_mix", "_law_mix", L2.defArgs s_law_mix, L2.defBody s_law_mix, L2.defScope s_law_mix, [], []⟩
def d_law_web : He.DefD := ⟨("_law_web", none), "_law_web", "_law_web", L2.defArgs s_law_web, L2.defBody s_law_web, L2.defScope s_law_web, [], []⟩
def d_law_refusal : He.DefD := ⟨("_law_refusal", none), "_law_refusal", "_law_refusal", L2.defArgs s_law_refusal, L2.defBody s_law_refusal, L2.defScope s_law_refusal, [], []⟩
def d_law_text : He.DefD := ⟨("_law_text", none), "_law_text", "_law_text", L2.defArgs s_law_text, L2.defBody s_law_text, L2.defScope s_law_text, [], []⟩
def d_law_numbers : He.DefD := ⟨("_law_numbers", none), "_law_numbers", "_law_numbers", L2.defArgs s_law_numbers, L2.defBody s_law_numbers, L2.defScope s_law_numbers, [], []⟩
def d_law_tried : He.DefD := ⟨("_law_tried", none), "_law_tried", "_law_tried", L2.defArgs s_law_tried, L2.defBody s_law_tried, L2.defScope s_law_tried, [], []⟩
def d_law_is_web : He.DefD := ⟨("_law_is_web", none), "_law_is_web", "_law_is_web", L2.defArgs s_law_is_web, L2.defBody s_law_is_web, L2.defScope s_law_is_web, [], []⟩
def d_law : He.DefD := ⟨("law", none), "law", "law", L2.defArgs s_law, L2.defBody s_law, L2.defScope s_law, [], []⟩
def fnL : List He.DefD := [d_look_web, d_written, d_number_in, d_tie_in, d_read, d_law_cell, d_law_mix, d_law_web, d_law_refusal, d_law_text, d_law_numbers, d_law_tried, d_law_is_web, d_law]
def faL : List He.Fa := faStd ++ [.glo "look_web", .glo "written", .glo "number_in", .glo "tie_in", .glo "read", .glo "_law_cell", .glo "_law_mix", .glo "_law_web", .glo "_law_refusal", .glo "_law_text", .glo "_law_numbers", .glo "_law_tried", .glo "_law_is_web", .glo "law", .int "MOST_PLACES" 8, .int "MOST_WEIGHT" 100, .str "FIGURES" "0123456789"]
def exL (K : PySem.W.Frag) : Bool := exB K
def looseL : List Str := ["LayError", "BadWeb", "BadOrder", "BadSpot", "BadKind", "BadText", "MOST_PLACES", "MOST_WEIGHT", "look_web", "FIGURES", "written", "number_in", "tie_in", "read", "_law_cell", "_law_mix", "_law_web", "_law_refusal", "_law_text", "_law_numbers", "_law_tried", "_law_is_web"]
abbrev rowL : PySem.W.OpenRow := PySem.W.OpenLaw.row PySem.Challenge.rw_rowlay_k40_texts
abbrev hkL : PySem.W.Hook := hookW 4 faL fnL exL
def obL (s : PySem.W.SharedT) : He.AlD × Bool := obsW 4 faL fnL exL (HandSHeadRun.getT s)
theorem obL_eq (s : PySem.W.SharedT) : obL s = hkL.obs s.abs := obsW_eq (HandSHeadRun.getT_eq s)
theorem runL (w : World) : HandSHeadRun.RunEq rowL (PySem.W.view rowL.prog [26]) hkL obL 3000 looseL w := by
  intro os
  kernel_rfl
end Rwl

set_option Elab.async false
set_option linter.all false
set_option maxRecDepth 100000
set_option maxHeartbeats 0
namespace Rwl
open PySem PySem.W PyProof.Rows
section
variable {P : Program} {w : World} {K : PySem.W.Frag} {mg : Str → Option Value} {base : Heap} (M : Md (mkU K) K mg)
include M
theorem is_look_web {f : Addr} {fd : FuncData} (F : L2.FunD K "look_web" "look_web" (L2.defArgs s_look_web) (L2.defBody s_look_web) (L2.defScope s_look_web) [] [] f fd) (hm : mg "look_web" = some (.ref f)) (g_MOST_PLACES : GlIs (mkU K) K mg "MOST_PLACES" (.int 8)) (g_MOST_WEIGHT : GlIs (mkU K) K mg "MOST_WEIGHT" (.int 100)) : DefIs (mkU K) P w K mg base 1 "look_web" 1 f_look_web := by
  refine def_is (ps := ["web"]) (N := n_look_web) (T := tabT) (b := b_look_web) F hm (F.bindsN fun _ _ _ _ _ _ us hl => match us, hl with | [_], _ => rfl) sc_look_web M k_look_web ?_
  exact ⟨trivial, ⟨⟨⟨trivial, trivial, g_MOST_PLACES⟩, ⟨trivial, trivial⟩, trivial⟩, ⟨⟨⟨trivial, trivial⟩, ⟨⟨⟨⟨⟨⟨trivial, trivial⟩, trivial⟩, trivial⟩, ⟨⟨trivial, ⟨⟨trivial, trivial⟩, trivial⟩, ⟨⟨trivial, trivial⟩, trivial⟩, trivial⟩, ⟨⟨trivial, ⟨⟨trivial, trivial⟩, trivial⟩, g_MOST_WEIGHT⟩, trivial⟩⟩⟩, ⟨trivial, trivial⟩, trivial⟩, ⟨⟨⟨⟨trivial, trivial⟩, ⟨⟨⟨⟨trivial, ⟨trivial, trivial⟩⟩, trivial, trivial⟩, ⟨⟨trivial, trivial⟩, trivial, trivial⟩⟩, trivial⟩⟩, ⟨trivial, trivial⟩, trivial⟩, trivial⟩⟩⟩, trivial⟩⟩⟩
theorem is_written {f : Addr} {fd : FuncData} (F : L2.FunD K "written" "written" (L2.defArgs s_written) (L2.defBody s_written) (L2.defScope s_written) [] [] f fd) (hm : mg "written" = some (.ref f)) (d_look_web : DefIs (mkU K) P w K mg base 1 "look_web" 1 f_look_web) : DefIs (mkU K) P w K mg base 2 "written" 1 f_written := by
  have c_look_web : ∃ y m, tabT[0]? = some (y, m) ∧ DefIs (mkU K) P w K mg base 1 y m f_look_web := ⟨_, _, rfl, d_look_web.mono (by decide)⟩
  refine def_is (ps := ["web"]) (N := n_written) (T := tabT) (b := b_written) F hm (F.bindsN fun _ _ _ _ _ _ us hl => match us, hl with | [_], _ => rfl) sc_written M k_written ?_
  exact ⟨⟨c_look_web, ⟨trivial, trivial⟩⟩, ⟨⟨⟨trivial, ⟨⟨trivial, trivial⟩, trivial⟩⟩, trivial⟩, ⟨⟨⟨trivial, trivial⟩, trivial, ⟨⟨⟨⟨⟨trivial, trivial⟩, trivial⟩, ⟨trivial, trivial⟩⟩, trivial⟩, ⟨trivial, trivial⟩⟩⟩, ⟨⟨trivial, ⟨trivial, trivial⟩⟩, trivial⟩⟩⟩⟩
theorem is_number_in {f : Addr} {fd : FuncData} (F : L2.FunD K "number_in" "number_in" (L2.defArgs s_number_in) (L2.defBody s_number_in) (L2.defScope s_number_in) [] [] f fd) (hm : mg "number_in" = some (.ref f)) (g_FIGURES : GlIs (mkU K) K mg "FIGURES" (.str "0123456789")) : DefIs (mkU K) P w K mg base 1 "number_in" 1 f_number_in := by
  refine def_is (ps := ["word"]) (N := n_number_in) (T := tabT) (b := b_number_in) F hm (F.bindsN fun _ _ _ _ _ _ us hl => match us, hl with | [_], _ => rfl) sc_number_in M k_number_in ?_
  exact ⟨⟨⟨⟨trivial, ⟨trivial, trivial⟩, trivial⟩, ⟨⟨⟨trivial, trivial, ⟨trivial, g_FIGURES⟩⟩, trivial⟩, ⟨⟨⟨⟨trivial, trivial⟩, trivial⟩, ⟨⟨trivial, trivial⟩, trivial⟩⟩, trivial⟩⟩⟩, ⟨trivial, trivial⟩, trivial⟩, ⟨⟨trivial, trivial⟩, trivial⟩⟩
theorem is_tie_in {f : Addr} {fd : FuncData} (F : L2.FunD K "tie_in" "tie_in" (L2.defArgs s_tie_in) (L2.defBody s_tie_in) (L2.defScope s_tie_in) [] [] f fd) (hm : mg "tie_in" = some (.ref f)) (d_number_in : DefIs (mkU K) P w K mg base 1 "number_in" 1 f_number_in) : DefIs (mkU K) P w K mg base 2 "tie_in" 1 f_tie_in := by
  have c_number_in : ∃ y m, tabT[2]? = some (y, m) ∧ DefIs (mkU K) P w K mg base 1 y m f_number_in := ⟨_, _, rfl, d_number_in.mono (by decide)⟩
  refine def_is (ps := ["row"]) (N := n_tie_in) (T := tabT) (b := b_tie_in) F hm (F.bindsN fun _ _ _ _ _ _ us hl => match us, hl with | [_], _ => rfl) sc_tie_in M k_tie_in ?_
  exact ⟨⟨trivial, ⟨trivial, trivial⟩⟩, ⟨⟨⟨trivial, trivial⟩, ⟨trivial, trivial⟩⟩, ⟨⟨⟨⟨⟨trivial, trivial⟩, trivial⟩, ⟨⟨⟨trivial, trivial⟩, trivial⟩, trivial⟩⟩, ⟨trivial, trivial⟩, trivial⟩, ⟨⟨⟨c_number_in, ⟨⟨trivial, trivial⟩, trivial⟩⟩, ⟨⟨c_number_in, ⟨⟨trivial, trivial⟩, trivial⟩⟩, ⟨⟨c_number_in, ⟨⟨trivial, trivial⟩, trivial⟩⟩, trivial⟩⟩⟩, trivial⟩⟩⟩⟩
theorem is_read {f : Addr} {fd : FuncData} (F : L2.FunD K "read" "read" (L2.defArgs s_read) (L2.defBody s_read) (L2.defScope s_read) [] [] f fd) (hm : mg "read" = some (.ref f)) (d_number_in : DefIs (mkU K) P w K mg base 1 "number_in" 1 f_number_in) (d_tie_in : DefIs (mkU K) P w K mg base 2 "tie_in" 1 f_tie_in) (d_look_web : DefIs (mkU K) P w K mg base 1 "look_web" 1 f_look_web) : DefIs (mkU K) P w K mg base 3 "read" 1 f_read := by
  have c_number_in : ∃ y m, tabT[2]? = some (y, m) ∧ DefIs (mkU K) P w K mg base 2 y m f_number_in := ⟨_, _, rfl, d_number_in.mono (by decide)⟩
  have c_tie_in : ∃ y m, tabT[3]? = some (y, m) ∧ DefIs (mkU K) P w K mg base 2 y m f_tie_in := ⟨_, _, rfl, d_tie_in.mono (by decide)⟩
  have c_look_web : ∃ y m, tabT[0]? = some (y, m) ∧ DefIs (mkU K) P w K mg base 2 y m f_look_web := ⟨_, _, rfl, d_look_web.mono (by decide)⟩
  refine def_is (ps := ["text"]) (N := n_read) (T := tabT) (b := b_read) F hm (F.bindsN fun _ _ _ _ _ _ us hl => match us, hl with | [_], _ => rfl) sc_read M k_read ?_
  exact ⟨⟨trivial, ⟨trivial, trivial⟩⟩, ⟨⟨⟨⟨⟨trivial, trivial⟩, trivial, trivial⟩, trivial⟩, ⟨trivial, trivial⟩, trivial⟩, ⟨⟨⟨c_number_in, ⟨⟨⟨trivial, trivial⟩, trivial, trivial⟩, trivial⟩⟩, ⟨⟨⟨trivial, trivial, trivial⟩, trivial, ⟨c_tie_in, ⟨trivial, trivial⟩⟩⟩, trivial⟩⟩, ⟨trivial, ⟨⟨⟨c_look_web, ⟨trivial, trivial⟩⟩, trivial⟩, ⟨⟨⟨trivial, trivial⟩, ⟨trivial, trivial⟩, trivial⟩, ⟨trivial, trivial⟩⟩⟩⟩⟩⟩⟩
theorem is_law_cell {f : Addr} {fd : FuncData} (F : L2.FunD K "_law_cell" "_law_cell" (L2.defArgs s_law_cell) (L2.defBody s_law_cell) (L2.defScope s_law_cell) [] [] f fd) (hm : mg "_law_cell" = some (.ref f)) : DefIs (mkU K) P w K mg base 1 "_law_cell" 2 f_law_cell := by
  refine def_is (ps := ["_law_script", "_law_k"]) (N := n_law_cell) (T := tabT) (b := b_law_cell) F hm (F.bindsN fun _ _ _ _ _ _ us hl => match us, hl with | [_, _], _ => rfl) sc_law_cell M k_law_cell ?_
  exact ⟨⟨trivial, ⟨⟨trivial, ⟨trivial, ⟨trivial, trivial⟩⟩⟩, trivial⟩, trivial⟩, ⟨trivial, trivial⟩⟩
theorem is_law_mix {f : Addr} {fd : FuncData} (F : L2.FunD K "_law_mix" "_law_mix" (L2.defArgs s_law_mix) (L2.defBody s_law_mix) (L2.defScope s_law_mix) [] [] f fd) (hm : mg "_law_mix" = some (.ref f)) (d_law_cell : DefIs (mkU K) P w K mg base 1 "_law_cell" 2 f_law_cell) : DefIs (mkU K) P w K mg base 2 "_law_mix" 2 f_law_mix := by
  have c_law_cell : ∃ y m, tabT[5]? = some (y, m) ∧ DefIs (mkU K) P w K mg base 1 y m f_law_cell := ⟨_, _, rfl, d_law_cell.mono (by decide)⟩
  refine def_is (ps := ["_law_script", "_law_k"]) (N := n_law_mix) (T := tabT) (b := b_law_mix) F hm (F.bindsN fun _ _ _ _ _ _ us hl => match us, hl with | [_, _], _ => rfl) sc_law_mix M k_law_mix ?_
  exact ⟨⟨⟨⟨c_law_cell, ⟨trivial, ⟨trivial, trivial⟩⟩⟩, ⟨trivial, ⟨trivial, trivial⟩⟩⟩, trivial⟩, ⟨⟨⟨trivial, trivial⟩, trivial⟩, ⟨⟨⟨⟨⟨trivial, trivial⟩, trivial⟩, trivial⟩, trivial⟩, trivial⟩⟩⟩
theorem is_law_web {f : Addr} {fd : FuncData} (F : L2.FunD K "_law_web" "_law_web" (L2.defArgs s_law_web) (L2.defBody s_law_web) (L2.defScope s_law_web) [] [] f fd) (hm : mg "_law_web" = some (.ref f)) (d_law_mix : DefIs (mkU K) P w K mg base 2 "_law_mix" 2 f_law_mix) : DefIs (mkU K) P w K mg base 3 "_law_web" 3 f_law_web := by
  have c_law_mix : ∃ y m, tabT[6]? = some (y, m) ∧ DefIs (mkU K) P w K mg base 2 y m f_law_mix := ⟨_, _, rfl, d_law_mix.mono (by decide)⟩
  refine def_is (ps := ["_law_script", "_law_k", "_law_places"]) (N := n_law_web) (T := tabT) (b := b_law_web) F hm (F.bindsN fun _ _ _ _ _ _ us hl => match us, hl with | [_, _, _], _ => rfl) sc_law_web M k_law_web ?_
  exact ⟨⟨⟨c_law_mix, ⟨trivial, ⟨trivial, trivial⟩⟩⟩, ⟨trivial, trivial⟩⟩, ⟨⟨trivial, ⟨⟨c_law_mix, ⟨trivial, ⟨⟨trivial, trivial⟩, trivial⟩⟩⟩, trivial⟩⟩, ⟨trivial, ⟨⟨trivial, ⟨⟨⟨⟨trivial, trivial⟩, trivial⟩, ⟨⟨c_law_mix, ⟨trivial, ⟨⟨⟨⟨trivial, trivial⟩, ⟨trivial, trivial⟩⟩, trivial⟩, trivial⟩⟩⟩, ⟨⟨⟨⟨⟨trivial, trivial⟩, trivial⟩, trivial⟩, ⟨⟨trivial, ⟨trivial, ⟨⟨⟨trivial, ⟨trivial, ⟨trivial, ⟨trivial, ⟨trivial, ⟨trivial, trivial⟩⟩⟩⟩⟩⟩, ⟨⟨trivial, trivial⟩, trivial⟩⟩, trivial⟩⟩⟩, trivial⟩, trivial⟩, trivial⟩⟩⟩, trivial⟩⟩, ⟨⟨trivial, ⟨trivial, trivial⟩⟩, trivial⟩⟩⟩⟩⟩
theorem is_law_refusal {f : Addr} {fd : FuncData} (F : L2.FunD K "_law_refusal" "_law_refusal" (L2.defArgs s_law_refusal) (L2.defBody s_law_refusal) (L2.defScope s_law_refusal) [] [] f fd) (hm : mg "_law_refusal" = some (.ref f)) : DefIs (mkU K) P w K mg base 1 "_law_refusal" 1 f_law_refusal := by
  refine def_is (ps := ["_law_kept"]) (N := n_law_refusal) (T := tabT) (b := b_law_refusal) F hm (F.bindsN fun _ _ _ _ _ _ us hl => match us, hl with | [_], _ => rfl) sc_law_refusal M k_law_refusal ?_
  exact ⟨⟨⟨trivial, trivial⟩, ⟨trivial, trivial⟩, trivial⟩, ⟨⟨trivial, ⟨trivial, ⟨trivial, trivial⟩⟩⟩, ⟨⟨trivial, ⟨trivial, ⟨trivial, trivial⟩⟩⟩, ⟨⟨⟨⟨⟨trivial, ⟨trivial, trivial⟩⟩, trivial⟩, ⟨trivial, trivial⟩⟩, ⟨trivial, trivial⟩, trivial⟩, ⟨⟨⟨trivial, ⟨trivial, ⟨trivial, ⟨trivial, ⟨trivial, trivial⟩⟩⟩⟩⟩, ⟨trivial, ⟨trivial, trivial⟩⟩⟩, trivial⟩⟩⟩⟩⟩
theorem is_law_text {f : Addr} {fd : FuncData} (F : L2.FunD K "_law_text" "_law_text" (L2.defArgs s_law_text) (L2.defBody s_law_text) (L2.defScope s_law_text) [] [] f fd) (hm : mg "_law_text" = some (.ref f)) : DefIs (mkU K) P w K mg base 1 "_law_text" 1 f_law_text := by
  refine def_is (ps := ["_law_web_here"]) (N := n_law_text) (T := tabT) (b := b_law_text) F hm (F.bindsN fun _ _ _ _ _ _ us hl => match us, hl with | [_], _ => rfl) sc_law_text M k_law_text ?_
  exact ⟨⟨⟨trivial, ⟨⟨trivial, trivial⟩, trivial⟩⟩, trivial⟩, ⟨⟨trivial, ⟨⟨trivial, ⟨⟨trivial, trivial⟩, trivial, ⟨⟨⟨⟨⟨trivial, trivial⟩, trivial⟩, ⟨trivial, trivial⟩⟩, trivial⟩, ⟨trivial, trivial⟩⟩⟩⟩, trivial⟩⟩, trivial⟩⟩
theorem is_law_numbers {f : Addr} {fd : FuncData} (F : L2.FunD K "_law_numbers" "_law_numbers" (L2.defArgs s_law_numbers) (L2.defBody s_law_numbers) (L2.defScope s_law_numbers) [] [] f fd) (hm : mg "_law_numbers" = some (.ref f)) : DefIs (mkU K) P w K mg base 1 "_law_numbers" 1 f_law_numbers := by
  refine def_is (ps := ["_law_words"]) (N := n_law_numbers) (T := tabT) (b := b_law_numbers) F hm (F.bindsN fun _ _ _ _ _ _ us hl => match us, hl with | [_], _ => rfl) sc_law_numbers M k_law_numbers ?_
  exact ⟨trivial, ⟨⟨trivial, ⟨⟨⟨⟨trivial, trivial⟩, ⟨⟨⟨trivial, trivial⟩, trivial⟩, ⟨⟨⟨trivial, trivial, ⟨trivial, trivial⟩⟩, trivial⟩, ⟨⟨⟨⟨trivial, trivial⟩, trivial⟩, trivial⟩, trivial⟩⟩⟩⟩, ⟨trivial, trivial⟩, trivial⟩, ⟨⟨trivial, trivial⟩, trivial⟩⟩⟩, ⟨⟨trivial, trivial⟩, trivial⟩⟩⟩
theorem is_law_tried {f : Addr} {fd : FuncData} (F : L2.FunD K "_law_tried" "_law_tried" (L2.defArgs s_law_tried) (L2.defBody s_law_tried) (L2.defScope s_law_tried) [] [] f fd) (hm : mg "_law_tried" = some (.ref f)) (d_law_numbers : DefIs (mkU K) P w K mg base 1 "_law_numbers" 1 f_law_numbers) : DefIs (mkU K) P w K mg base 2 "_law_tried" 1 f_law_tried := by
  have c_law_numbers : ∃ y m, tabT[10]? = some (y, m) ∧ DefIs (mkU K) P w K mg base 1 y m f_law_numbers := ⟨_, _, rfl, d_law_numbers.mono (by decide)⟩
  refine def_is (ps := ["_law_text_here"]) (N := n_law_tried) (T := tabT) (b := b_law_tried) F hm (F.bindsN fun _ _ _ _ _ _ us hl => match us, hl with | [_], _ => rfl) sc_law_tried M k_law_tried ?_
  exact ⟨⟨trivial, ⟨trivial, trivial⟩⟩, ⟨⟨c_law_numbers, ⟨⟨⟨⟨trivial, trivial⟩, trivial, trivial⟩, trivial⟩, trivial⟩⟩, ⟨⟨⟨⟨⟨⟨trivial, trivial⟩, trivial, trivial⟩, trivial⟩, ⟨⟨trivial, trivial⟩, trivial⟩⟩, ⟨trivial, trivial⟩, trivial⟩, ⟨trivial, ⟨⟨⟨trivial, trivial, trivial⟩, ⟨⟨trivial, ⟨trivial, trivial⟩⟩, ⟨⟨c_law_numbers, ⟨⟨⟨⟨trivial, trivial⟩, ⟨trivial, trivial⟩⟩, ⟨trivial, trivial, trivial⟩⟩, trivial⟩⟩, ⟨⟨⟨⟨⟨trivial, trivial⟩, trivial⟩, ⟨⟨trivial, trivial⟩, ⟨⟨⟨trivial, trivial⟩, trivial⟩, trivial⟩⟩⟩, ⟨trivial, trivial⟩, trivial⟩, ⟨trivial, trivial⟩⟩⟩⟩⟩, ⟨⟨⟨trivial, trivial⟩, ⟨trivial, trivial⟩⟩, trivial⟩⟩⟩⟩⟩⟩
theorem is_law_is_web {f : Addr} {fd : FuncData} (F : L2.FunD K "_law_is_web" "_law_is_web" (L2.defArgs s_law_is_web) (L2.defBody s_law_is_web) (L2.defScope s_law_is_web) [] [] f fd) (hm : mg "_law_is_web" = some (.ref f)) (d_look_web : DefIs (mkU K) P w K mg base 1 "look_web" 1 f_look_web) : DefIs (mkU K) P w K mg base 2 "_law_is_web" 1 f_law_is_web := by
  have c_look_web : ∃ y m, tabT[0]? = some (y, m) ∧ DefIs (mkU K) P w K mg base 1 y m f_look_web := ⟨_, _, rfl, d_look_web.mono (by decide)⟩
  refine def_is (ps := ["_law_tried_here"]) (N := n_law_is_web) (T := tabT) (b := b_law_is_web) F hm (F.bindsN fun _ _ _ _ _ _ us hl => match us, hl with | [_], _ => rfl) sc_law_is_web M k_law_is_web ?_
  exact ⟨trivial, ⟨⟨⟨c_look_web, ⟨trivial, trivial⟩⟩, trivial⟩, ⟨⟨trivial, trivial⟩, trivial⟩⟩⟩
theorem is_law {f : Addr} {fd : FuncData} (F : L2.FunD K "law" "law" (L2.defArgs s_law) (L2.defBody s_law) (L2.defScope s_law) [] [] f fd) (hm : mg "law" = some (.ref f)) (d_law_web : DefIs (mkU K) P w K mg base 3 "_law_web" 3 f_law_web) (d_law_text : DefIs (mkU K) P w K mg base 1 "_law_text" 1 f_law_text) (d_written : DefIs (mkU K) P w K mg base 2 "written" 1 f_written) (d_read : DefIs (mkU K) P w K mg base 3 "read" 1 f_read) (d_law_mix : DefIs (mkU K) P w K mg base 2 "_law_mix" 2 f_law_mix) (d_law_tried : DefIs (mkU K) P w K mg base 2 "_law_tried" 1 f_law_tried) (d_law_is_web : DefIs (mkU K) P w K mg base 2 "_law_is_web" 1 f_law_is_web) (d_law_refusal : DefIs (mkU K) P w K mg base 1 "_law_refusal" 1 f_law_refusal) : DefIs (mkU K) P w K mg base 4 "law" 1 f_law := by
  have c_law_web : ∃ y m, tabT[7]? = some (y, m) ∧ DefIs (mkU K) P w K mg base 3 y m f_law_web := ⟨_, _, rfl, d_law_web.mono (by decide)⟩
  have c_law_text : ∃ y m, tabT[9]? = some (y, m) ∧ DefIs (mkU K) P w K mg base 3 y m f_law_text := ⟨_, _, rfl, d_law_text.mono (by decide)⟩
  have c_written : ∃ y m, tabT[1]? = some (y, m) ∧ DefIs (mkU K) P w K mg base 3 y m f_written := ⟨_, _, rfl, d_written.mono (by decide)⟩
  have c_read : ∃ y m, tabT[4]? = some (y, m) ∧ DefIs (mkU K) P w K mg base 3 y m f_read := ⟨_, _, rfl, d_read.mono (by decide)⟩
  have c_law_mix : ∃ y m, tabT[6]? = some (y, m) ∧ DefIs (mkU K) P w K mg base 3 y m f_law_mix := ⟨_, _, rfl, d_law_mix.mono (by decide)⟩
  have c_law_tried : ∃ y m, tabT[11]? = some (y, m) ∧ DefIs (mkU K) P w K mg base 3 y m f_law_tried := ⟨_, _, rfl, d_law_tried.mono (by decide)⟩
  have c_law_is_web : ∃ y m, tabT[12]? = some (y, m) ∧ DefIs (mkU K) P w K mg base 3 y m f_law_is_web := ⟨_, _, rfl, d_law_is_web.mono (by decide)⟩
  have c_law_refusal : ∃ y m, tabT[8]? = some (y, m) ∧ DefIs (mkU K) P w K mg base 3 y m f_law_refusal := ⟨_, _, rfl, d_law_refusal.mono (by decide)⟩
  refine def_is (ps := ["_law_script"]) (N := n_law) (T := tabT) (b := b_law) F hm (F.bindsN fun _ _ _ _ _ _ us hl => match us, hl with | [_], _ => rfl) sc_law M k_law ?_
  exact ⟨⟨c_law_web, ⟨trivial, ⟨trivial, ⟨trivial, trivial⟩⟩⟩⟩, ⟨⟨c_law_text, ⟨trivial, trivial⟩⟩, ⟨⟨⟨⟨⟨c_written, ⟨trivial, trivial⟩⟩, trivial⟩, ⟨⟨⟨c_read, ⟨trivial, trivial⟩⟩, trivial⟩, trivial⟩⟩, ⟨trivial, trivial⟩, trivial⟩, ⟨⟨⟨trivial, ⟨⟨c_law_mix, ⟨trivial, ⟨trivial, trivial⟩⟩⟩, trivial⟩⟩, ⟨⟨c_law_mix, ⟨trivial, ⟨⟨trivial, trivial⟩, trivial⟩⟩⟩, ⟨⟨⟨trivial, trivial⟩, ⟨⟨trivial, trivial⟩, trivial⟩⟩, ⟨⟨trivial, ⟨⟨trivial, trivial⟩, trivial⟩⟩, ⟨⟨⟨⟨⟨trivial, trivial, trivial⟩, trivial⟩, ⟨trivial, trivial, trivial⟩⟩, ⟨⟨⟨⟨trivial, trivial, trivial⟩, trivial⟩, ⟨trivial, ⟨trivial, trivial⟩, trivial⟩⟩, ⟨⟨⟨trivial, trivial, trivial⟩, ⟨trivial, ⟨trivial, trivial⟩, trivial⟩⟩, trivial⟩⟩⟩, ⟨⟨trivial, ⟨trivial, trivial⟩⟩, trivial⟩⟩⟩⟩⟩⟩, ⟨trivial, ⟨trivial, ⟨⟨⟨c_read, ⟨trivial, trivial⟩⟩, trivial⟩, ⟨⟨c_law_tried, ⟨trivial, trivial⟩⟩, ⟨⟨⟨⟨trivial, trivial⟩, ⟨⟨c_law_is_web, ⟨trivial, trivial⟩⟩, trivial⟩⟩, ⟨⟨⟨trivial, trivial⟩, ⟨⟨trivial, trivial⟩, trivial⟩⟩, trivial⟩, trivial⟩, ⟨⟨⟨⟨c_law_refusal, ⟨trivial, trivial⟩⟩, trivial⟩, ⟨trivial, trivial⟩, trivial⟩, ⟨trivial, ⟨⟨⟨c_written, ⟨⟨trivial, ⟨trivial, trivial⟩⟩, trivial⟩⟩, trivial⟩, ⟨⟨⟨c_law_refusal, ⟨trivial, trivial⟩⟩, trivial⟩, trivial⟩⟩⟩⟩⟩⟩⟩⟩⟩⟩⟩⟩⟩
theorem ok_law {f : Addr} {fd : FuncData} (F : L2.FunD K "law" "law" (L2.defArgs s_law) (L2.defBody s_law) (L2.defScope s_law) [] [] f fd) (d_law_web : DefIs (mkU K) P w K mg base 3 "_law_web" 3 f_law_web) (d_law_text : DefIs (mkU K) P w K mg base 1 "_law_text" 1 f_law_text) (d_written : DefIs (mkU K) P w K mg base 2 "written" 1 f_written) (d_read : DefIs (mkU K) P w K mg base 3 "read" 1 f_read) (d_law_mix : DefIs (mkU K) P w K mg base 2 "_law_mix" 2 f_law_mix) (d_law_tried : DefIs (mkU K) P w K mg base 2 "_law_tried" 1 f_law_tried) (d_law_is_web : DefIs (mkU K) P w K mg base 2 "_law_is_web" 1 f_law_is_web) (d_law_refusal : DefIs (mkU K) P w K mg base 1 "_law_refusal" 1 f_law_refusal) : L2.FnOk P w K mg base (L2.CX P w) 4 f fd ["_law_script"] (spD (mkU K) K 1 f_law) := by
  have c_law_web : ∃ y m, tabT[7]? = some (y, m) ∧ DefIs (mkU K) P w K mg base 3 y m f_law_web := ⟨_, _, rfl, d_law_web.mono (by decide)⟩
  have c_law_text : ∃ y m, tabT[9]? = some (y, m) ∧ DefIs (mkU K) P w K mg base 3 y m f_law_text := ⟨_, _, rfl, d_law_text.mono (by decide)⟩
  have c_written : ∃ y m, tabT[1]? = some (y, m) ∧ DefIs (mkU K) P w K mg base 3 y m f_written := ⟨_, _, rfl, d_written.mono (by decide)⟩
  have c_read : ∃ y m, tabT[4]? = some (y, m) ∧ DefIs (mkU K) P w K mg base 3 y m f_read := ⟨_, _, rfl, d_read.mono (by decide)⟩
  have c_law_mix : ∃ y m, tabT[6]? = some (y, m) ∧ DefIs (mkU K) P w K mg base 3 y m f_law_mix := ⟨_, _, rfl, d_law_mix.mono (by decide)⟩
  have c_law_tried : ∃ y m, tabT[11]? = some (y, m) ∧ DefIs (mkU K) P w K mg base 3 y m f_law_tried := ⟨_, _, rfl, d_law_tried.mono (by decide)⟩
  have c_law_is_web : ∃ y m, tabT[12]? = some (y, m) ∧ DefIs (mkU K) P w K mg base 3 y m f_law_is_web := ⟨_, _, rfl, d_law_is_web.mono (by decide)⟩
  have c_law_refusal : ∃ y m, tabT[8]? = some (y, m) ∧ DefIs (mkU K) P w K mg base 3 y m f_law_refusal := ⟨_, _, rfl, d_law_refusal.mono (by decide)⟩
  exact def_ok (ps := ["_law_script"]) (N := n_law) (T := tabT) (b := b_law) F sc_law M k_law ⟨⟨c_law_web, ⟨trivial, ⟨trivial, ⟨trivial, trivial⟩⟩⟩⟩, ⟨⟨c_law_text, ⟨trivial, trivial⟩⟩, ⟨⟨⟨⟨⟨c_written, ⟨trivial, trivial⟩⟩, trivial⟩, ⟨⟨⟨c_read, ⟨trivial, trivial⟩⟩, trivial⟩, trivial⟩⟩, ⟨trivial, trivial⟩, trivial⟩, ⟨⟨⟨trivial, ⟨⟨c_law_mix, ⟨trivial, ⟨trivial, trivial⟩⟩⟩, trivial⟩⟩, ⟨⟨c_law_mix, ⟨trivial, ⟨⟨trivial, trivial⟩, trivial⟩⟩⟩, ⟨⟨⟨trivial, trivial⟩, ⟨⟨trivial, trivial⟩, trivial⟩⟩, ⟨⟨trivial, ⟨⟨trivial, trivial⟩, trivial⟩⟩, ⟨⟨⟨⟨⟨trivial, trivial, trivial⟩, trivial⟩, ⟨trivial, trivial, trivial⟩⟩, ⟨⟨⟨⟨trivial, trivial, trivial⟩, trivial⟩, ⟨trivial, ⟨trivial, trivial⟩, trivial⟩⟩, ⟨⟨⟨trivial, trivial, trivial⟩, ⟨trivial, ⟨trivial, trivial⟩, trivial⟩⟩, trivial⟩⟩⟩, ⟨⟨trivial, ⟨trivial, trivial⟩⟩, trivial⟩⟩⟩⟩⟩⟩, ⟨trivial, ⟨trivial, ⟨⟨⟨c_read, ⟨trivial, trivial⟩⟩, trivial⟩, ⟨⟨c_law_tried, ⟨trivial, trivial⟩⟩, ⟨⟨⟨⟨trivial, trivial⟩, ⟨⟨c_law_is_web, ⟨trivial, trivial⟩⟩, trivial⟩⟩, ⟨⟨⟨trivial, trivial⟩, ⟨⟨trivial, trivial⟩, trivial⟩⟩, trivial⟩, trivial⟩, ⟨⟨⟨⟨c_law_refusal, ⟨trivial, trivial⟩⟩, trivial⟩, ⟨trivial, trivial⟩, trivial⟩, ⟨trivial, ⟨⟨⟨c_written, ⟨⟨trivial, ⟨trivial, trivial⟩⟩, trivial⟩⟩, trivial⟩, ⟨⟨⟨c_law_refusal, ⟨trivial, trivial⟩⟩, trivial⟩, trivial⟩⟩⟩⟩⟩⟩⟩⟩⟩⟩⟩⟩⟩
end
end Rwl

set_option Elab.async false
set_option linter.all false
set_option maxRecDepth 100000
set_option maxHeartbeats 0
namespace Rwl
open PySem PySem.W PySem.Calls PyProof.Rows
theorem factsL (hlaw : ∀ ns : List Int, ns.length ≤ 63 → f_law [scr ns] = .ok (.bool true)) {P : Program} {w : World} {K : PySem.W.Frag} {h : Heap} {mg : Str → Option Value} {f : Addr} (X : K.In h) (G : h.Ns mainGlobals mg) (hfa : mg ("law" : Str) = some (.ref f)) (c : He.SaysD faL fnL K) (e : exL K = true) :
    ∃ fd : FuncData, (∀ (s : Shared) (v : Value), BindsTo s fd ⟨[v], []⟩ [("_law_script", v)]) ∧ ∀ base : Heap, K.In base → base.Ns mainGlobals mg → L2.FnOk P w K mg base L2.CX0 4 f fd ["_law_script"] (spLaw K) := by
  have e1 : exB K = true := e
  have c1 : (faL.all fun f => f.ok K) = true := (and2 (show ((faL.all fun f => f.ok K) && fnL.all fun d => d.ok K) = true from congrArg (fun z : He.AlD => z.1) c)).1
  have M : Md (mkU K) K mg := md_of X G (fun f hf => List.all_eq_true.mp c1 f (List.mem_append_left _ hf)) e1
  obtain ⟨fd_look_web, F_look_web⟩ := c.def_ 0 (d := d_look_web) rfl
  have m_look_web := He.glo_ok X G (c.fact 27 (f := .glo "look_web") rfl)
  obtain ⟨fd_written, F_written⟩ := c.def_ 1 (d := d_written) rfl
  have m_written := He.glo_ok X G (c.fact 28 (f := .glo "written") rfl)
  obtain ⟨fd_number_in, F_number_in⟩ := c.def_ 2 (d := d_number_in) rfl
  have m_number_in := He.glo_ok X G (c.fact 29 (f := .glo "number_in") rfl)
  obtain ⟨fd_tie_in, F_tie_in⟩ := c.def_ 3 (d := d_tie_in) rfl
  have m_tie_in := He.glo_ok X G (c.fact 30 (f := .glo "tie_in") rfl)
  obtain ⟨fd_read, F_read⟩ := c.def_ 4 (d := d_read) rfl
  have m_read := He.glo_ok X G (c.fact 31 (f := .glo "read") rfl)
  obtain ⟨fd_law_cell, F_law_cell⟩ := c.def_ 5 (d := d_law_cell) rfl
  have m_law_cell := He.glo_ok X G (c.fact 32 (f := .glo "_law_cell") rfl)
  obtain ⟨fd_law_mix, F_law_mix⟩ := c.def_ 6 (d := d_law_mix) rfl
  have m_law_mix := He.glo_ok X G (c.fact 33 (f := .glo "_law_mix") rfl)
  obtain ⟨fd_law_web, F_law_web⟩ := c.def_ 7 (d := d_law_web) rfl
  have m_law_web := He.glo_ok X G (c.fact 34 (f := .glo "_law_web") rfl)
  obtain ⟨fd_law_refusal, F_law_refusal⟩ := c.def_ 8 (d := d_law_refusal) rfl
  have m_law_refusal := He.glo_ok X G (c.fact 35 (f := .glo "_law_refusal") rfl)
  obtain ⟨fd_law_text, F_law_text⟩ := c.def_ 9 (d := d_law_text) rfl
  have m_law_text := He.glo_ok X G (c.fact 36 (f := .glo "_law_text") rfl)
  obtain ⟨fd_law_numbers, F_law_numbers⟩ := c.def_ 10 (d := d_law_numbers) rfl
  have m_law_numbers := He.glo_ok X G (c.fact 37 (f := .glo "_law_numbers") rfl)
  obtain ⟨fd_law_tried, F_law_tried⟩ := c.def_ 11 (d := d_law_tried) rfl
  have m_law_tried := He.glo_ok X G (c.fact 38 (f := .glo "_law_tried") rfl)
  obtain ⟨fd_law_is_web, F_law_is_web⟩ := c.def_ 12 (d := d_law_is_web) rfl
  have m_law_is_web := He.glo_ok X G (c.fact 39 (f := .glo "_law_is_web") rfl)
  obtain ⟨fd_law, F_law⟩ := c.def_ 13 (d := d_law) rfl
  have m_law := He.glo_ok X G (c.fact 40 (f := .glo "law") rfl)
  have g_MOST_PLACES := gl_int X G (c.fact 41 (f := .int "MOST_PLACES" 8) rfl)
  have g_MOST_WEIGHT := gl_int X G (c.fact 42 (f := .int "MOST_WEIGHT" 100) rfl)
  have g_FIGURES := gl_str X G (c.fact 43 (f := .str "FIGURES" "0123456789") rfl)
  have z := hfa.symm.trans m_law
  cases z
  refine ⟨fd_law, fun s v => L2.FunD.bindsA (ps := ["_law_script"]) F_law (fun _ _ _ _ _ _ us hl => match us, hl with | [_], _ => rfl) s [v] rfl, fun base _ _ => ?_⟩
  have D_look_web := is_look_web (P := P) (w := w) (base := base) M F_look_web m_look_web g_MOST_PLACES g_MOST_WEIGHT
  have D_written := is_written (P := P) (w := w) (base := base) M F_written m_written D_look_web
  have D_number_in := is_number_in (P := P) (w := w) (base := base) M F_number_in m_number_in g_FIGURES
  have D_tie_in := is_tie_in (P := P) (w := w) (base := base) M F_tie_in m_tie_in D_number_in
  have D_read := is_read (P := P) (w := w) (base := base) M F_read m_read D_number_in D_tie_in D_look_web
  have D_law_cell := is_law_cell (P := P) (w := w) (base := base) M F_law_cell m_law_cell
  have D_law_mix := is_law_mix (P := P) (w := w) (base := base) M F_law_mix m_law_mix D_law_cell
  have D_law_web := is_law_web (P := P) (w := w) (base := base) M F_law_web m_law_web D_law_mix
  have D_law_refusal := is_law_refusal (P := P) (w := w) (base := base) M F_law_refusal m_law_refusal
  have D_law_text := is_law_text (P := P) (w := w) (base := base) M F_law_text m_law_text
  have D_law_numbers := is_law_numbers (P := P) (w := w) (base := base) M F_law_numbers m_law_numbers
  have D_law_tried := is_law_tried (P := P) (w := w) (base := base) M F_law_tried m_law_tried D_law_numbers
  have D_law_is_web := is_law_is_web (P := P) (w := w) (base := base) M F_law_is_web m_law_is_web D_look_web
  have D_law := ok_law (P := P) (w := w) (base := base) M F_law D_law_web D_law_text D_written D_read D_law_mix D_law_tried D_law_is_web D_law_refusal
  exact law_fn D_law hlaw
theorem finL (hlaw : ∀ ns : List Int, ns.length ≤ 63 → f_law [scr ns] = .ok (.bool true)) : PySem.Challenge.rw_rowlay_k40_texts.Holds := by
  w_on; o_law
  refine HandSHeadRun.head_any (r := rowL) (q := PySem.W.view rowL.prog [26]) (H := hkL) (ob := obL) (M := 3000) (loose := looseL) (d := HandSHeadRun.topDef rowL.prog 26) (kwd := []) obL_eq (by kernel_rfl) (fun s => by kernel_rfl) runL (by kernel_rfl) (by kernel_rfl) (by kernel_rfl) (by rfl) (by first | assumption | decide +kernel) (by decide +kernel) ⟨rfl, rfl, rfl, rfl, rfl, by decide +kernel⟩ ?hw ?hc
  case hw => w_witness2
  case hc =>
    refine L2.walk_ofE (l := PySem.Challenge.rw_rowlay_k40_texts) (n := 63) (k := 4) (x := "_law_script") (CX := L2.CX0) rfl (by decide) (by kernel_rfl) ⟨rfl, by decide, by decide⟩ ?F (fun _ _ _ _ z => z)
    intro w mg fa h Y G hmg0
    obtain ⟨K, KX, c, e⟩ := Y
    have hmg : mg ("law" : PySem.Str) = some (.ref fa) := by
      have e : (HandSHeadRun.topDef rowL.prog 26).name = ("law" : PySem.Str) := by kernel_rfl
      rw [← e]
      exact hmg0
    obtain ⟨fd, hb, hF⟩ := factsL hlaw (P := (PySem.Challenge.rw_rowlay_k40_texts).prog) (w := w) KX G hmg c e
    exact ⟨K, fd, spLaw K, KX, hb, fun H a ns hl _ hS => ⟨a, ns, rfl, hl, hS, fun _ => rfl⟩, hF⟩
end Rwl

set_option Elab.async false
set_option linter.all false
set_option maxRecDepth 100000
set_option maxHeartbeats 2000000
/-! Rwl, part R: reckoning with the interpreter (plain Lean). -/
namespace Rwl
open PySem
section
variable (env : Env) (a b c d : E) (i : Nat)
@[simp] theorem evE_var : evE env (.var i) = match env.get i with
    | .dat d => .ok d
    | _ => .bad := rfl
@[simp] theorem evE_int (n : Int) : evE env (.int n) = .ok (.int n) := rfl
@[simp] theorem evE_str (n : Str) : evE env (.str n) = .ok (.str n) := rfl
@[simp] theorem evE_bl (n : Bool) : evE env (.bl n) = .ok (.bool n) := rfl
@[simp] theorem evE_non : evE env .non = .ok .none := rfl
@[simp] theorem evE_glb (x : Str) (d : D) : evE env (.glb x d) = .ok d := rfl
@[simp] theorem evE_bin (o : O2) : evE env (.bin o a b) = (evE env a).bind fun x => (evE env b).bind fun y => o.run x y := rfl
@[simp] theorem evE_neg : evE env (.neg a) = (evE env a).bind negD := rfl
@[simp] theorem evE_not : evE env (.not a) = (evE env a).bind fun x => (tru x).bind fun b => .ok (.bool (!b)) := rfl
@[simp] theorem evE_cmp (o : Cm) : evE env (.cmp o a b) = (evE env a).bind fun x => (evE env b).bind fun y => (o.run x y).bind fun k => .ok (.bool k) := rfl
@[simp] theorem evE_ch2 (o p : Cm) : evE env (.ch2 o p a b c) = (evE env a).bind fun x => (evE env b).bind fun y => (o.run x y).bind fun k => match k with
    | false => .ok (.bool false)
    | true => (evE env c).bind fun z => (p.run y z).bind fun k => .ok (.bool k) := rfl
@[simp] theorem evE_ch3 (o p q : Cm) : evE env (.ch3 o p q a b c d) = (evE env a).bind fun x => (evE env b).bind fun y => (o.run x y).bind fun k => match k with
    | false => .ok (.bool false)
    | true => (evE env c).bind fun z => (p.run y z).bind fun k => match k with
      | false => .ok (.bool false)
      | true => (evE env d).bind fun w => (q.run z w).bind fun k => .ok (.bool k) := rfl
@[simp] theorem evE_and : evE env (.and a) = evAnd env a := rfl
@[simp] theorem evE_or : evE env (.or a) = evOr env a := rfl
@[simp] theorem evE_ite : evE env (.ite c a b) = (evT env c).bind fun k => match k with
    | true => evE env a
    | false => evE env b := rfl
@[simp] theorem evE_tup : evE env (.tup a) = (evL env a).bind fun ds => req (decide (ds.length ≤ lim)) (.ok (.tuple ds)) := rfl
@[simp] theorem evE_lst : evE env (.lst a) = (evL env a).bind fun ds => req (decide (ds.length ≤ lim)) (.ok (.list ds)) := rfl
@[simp] theorem evE_ix : evE env (.ix a b) = match evI1 env a with
    | some kvs => (evE env b).bind fun y => (asInt y).bind fun k => ofO (klook kvs k)
    | none => (evC env a).bind fun x => (evE env b).bind fun y => ixD x y := rfl
@[simp] theorem evE_sl : evE env (.sl a b c) = (evC env a).bind fun x => (evO env b).bind fun l => (evO env c).bind fun h => slD l h x := rfl
@[simp] theorem evE_rev : evE env (.rev a) = (evC env a).bind revD := rfl
@[simp] theorem evE_bi (k : Bi) : evE env (.bi k a) = (evL env a).bind fun ds => bi k ds := rfl
@[simp] theorem evE_maxd : evE env (.maxd a d) = (evE env a).bind fun x => (evE env d).bind fun y => match x with
    | .list xs => (ofO (intL xs)).bind fun ns => match ns with
      | [] => .ok y
      | n :: r => .ok (.int (r.foldl max n))
    | _ => .bad := rfl
@[simp] theorem evE_lrg : evE env (.lrg a) = (evE env a).bind fun x => (asInt x).bind fun n => req (decide (0 ≤ n) && decide (n ≤ 100000)) (.ok (.list (rngD 0 n))) := rfl
@[simp] theorem evE_isi (t : Ty) : evE env (.isi a t) = (evE env a).bind fun x => (isiD x t).bind fun b => .ok (.bool b) := rfl
@[simp] theorem evE_call (k : Nat) (f : List D → Res D) : evE env (.call k f a) = (evL env a).bind f := rfl
@[simp] theorem evE_mt (m : Mt) : evE env (.mt m a b) = (evE env a).bind fun x => match x with
    | .list xs => (evL env b).bind fun ds => mt m (.list xs) ds
    | _ => .bad := rfl
@[simp] theorem evE_ms (m : Ms) : evE env (.ms m a b) = (evE env a).bind fun x => match x with
    | .str s => (evL env b).bind fun ds => msD m s ds
    | _ => .bad := rfl
/-- a comprehension's turn -/
def lcTurn (env : Env) (own : List Nat) (t : Tg) (c e : E) (d : D) : Res (Option D) := (t.run (env.wipe own) d).bind fun env' => (evP env' c).bind fun k => match k with
    | true => (evE env' e).bind fun y => .ok (some y)
    | false => .ok none
theorem evE_lc (own : List Nat) (t : Tg) (it : E) : evE env (.lc own t it c a) = (evI env it).bind fun ds => req (decide (ds.length ≤ lim)) ((lcRun (lcTurn env own t c a) ds).bind fun ys => .ok (.list ys)) := rfl
def evN (env : Env) (a : E) : Res Int := pickN (evE env a) (evE env.frz a)
theorem rng_seq0 {b : Bool} {ds : List D} : (req b (.ok (.list ds)) : Res D).bind seqOf = req b (.ok ds) := by cases b <;> rfl
@[simp] theorem evI_rng1 : evI env (.rng1 a) = (evN env a).bind fun n => req (decide (-1000000 ≤ n) && decide (n ≤ 1000000)) (.ok (rngD 0 n)) := by
  show ((evN env a).bind fun n => req (decide (-1000000 ≤ n) && decide (n ≤ 1000000)) (.ok (.list (rngD 0 n)))).bind seqOf = _
  cases evN env a with
  | ok n => exact rng_seq0
  | _ => rfl
@[simp] theorem evI_rng2 : evI env (.rng2 a b) = (evN env a).bind fun m => (evN env b).bind fun n => req (decide (-1000000 ≤ m) && decide (m ≤ 1000000) && decide (-1000000 ≤ n) && decide (n ≤ 1000000)) (.ok (rngD m n)) := by
  show ((evN env a).bind fun m => (evN env b).bind fun n => req (decide (-1000000 ≤ m) && decide (m ≤ 1000000) && decide (-1000000 ≤ n) && decide (n ≤ 1000000)) (.ok (.list (rngD m n)))).bind seqOf = _
  cases evN env a with
  | ok m =>
    show ((evN env b).bind fun n => _).bind seqOf = (evN env b).bind _
    cases evN env b with
    | ok n => exact rng_seq0
    | _ => rfl
  | _ => rfl
theorem evN_ok {env : Env} {a : E} {n : Int} (h : evE env a = .ok (.int n)) : evN env a = .ok n := by
  unfold evN
  rw [h]
  rfl
theorem evN_frz {env : Env} {a : E} {n : Int} (h : evE env a = .bad) (h1 : evE env.frz a = .ok (.int n)) : evN env a = .ok n := by
  unfold evN
  rw [h, h1]
  rfl
theorem evI_seq : evI env a = (evE env a).bind seqOf := rfl
@[simp] theorem evI_var : evI env (.var i) = (evE env (.var i)).bind seqOf := rfl
@[simp] theorem evI_ix : evI env (.ix a b) = (evE env (.ix a b)).bind seqOf := rfl
@[simp] theorem evI_lst : evI env (.lst a) = (evE env (.lst a)).bind seqOf := rfl
@[simp] theorem evI_sl : evI env (.sl a b c) = (evE env (.sl a b c)).bind seqOf := rfl
@[simp] theorem evI_call (k : Nat) (f : List D → Res D) : evI env (.call k f a) = (evE env (.call k f a)).bind seqOf := rfl
@[simp] theorem evL_nil : evL env .nil = .ok [] := rfl
@[simp] theorem evL_cons : evL env (.cons a b) = (evE env a).bind fun x => (evL env b).bind fun xs => .ok (x :: xs) := rfl
@[simp] theorem evAnd_one : evAnd env (.cons a .nil) = evE env a := rfl
@[simp] theorem evAnd_cons : evAnd env (.cons a (.cons b c)) = (evE env a).bind fun x => (tru x).bind fun k => match k with
    | true => evAnd env (.cons b c)
    | false => .ok x := rfl
@[simp] theorem evOr_one : evOr env (.cons a .nil) = evE env a := rfl
@[simp] theorem evOr_cons : evOr env (.cons a (.cons b c)) = (evE env a).bind fun x => (tru x).bind fun k => match k with
    | true => .ok x
    | false => evOr env (.cons b c) := rfl
@[simp] theorem evTAnd_one : evTAnd env (.cons a .nil) = evT env a := rfl
@[simp] theorem evTAnd_cons : evTAnd env (.cons a (.cons b c)) = (evT env a).bind fun k => match k with
    | true => evTAnd env (.cons b c)
    | false => .ok false := rfl
@[simp] theorem evTOr_one : evTOr env (.cons a .nil) = evT env a := rfl
@[simp] theorem evTOr_cons : evTOr env (.cons a (.cons b c)) = (evT env a).bind fun k => match k with
    | true => .ok true
    | false => evTOr env (.cons b c) := rfl
@[simp] theorem evT_and : evT env (.and a) = evTAnd env a := rfl
@[simp] theorem evT_or : evT env (.or a) = evTOr env a := rfl
@[simp] theorem evT_not : evT env (.not a) = (evT env a).bind fun b => .ok (!b) := rfl
@[simp] theorem evT_var : evT env (.var i) = match env.get i with
    | .own xs => .ok (!xs.isEmpty)
    | .dat d => tru d
    | _ => .bad := rfl
@[simp] theorem evT_cmp (o : Cm) : evT env (.cmp o a b) = (evE env a).bind fun x => (evE env b).bind fun y => o.run x y := rfl
@[simp] theorem evT_ch2 (o p : Cm) : evT env (.ch2 o p a b c) = (evE env (.ch2 o p a b c)).bind tru := rfl
@[simp] theorem evT_ch3 (o p q : Cm) : evT env (.ch3 o p q a b c d) = (evE env (.ch3 o p q a b c d)).bind tru := rfl
@[simp] theorem evT_ix : evT env (.ix a b) = (evE env (.ix a b)).bind tru := rfl
@[simp] theorem evT_bi (k : Bi) : evT env (.bi k a) = (evE env (.bi k a)).bind tru := rfl
@[simp] theorem evT_isi (t : Ty) : evT env (.isi a t) = (evE env (.isi a t)).bind tru := rfl
@[simp] theorem evT_call (k : Nat) (f : List D → Res D) : evT env (.call k f a) = (evE env (.call k f a)).bind tru := rfl
@[simp] theorem evC_var : evC env (.var i) = match env.get i with
    | .dat d => .ok d
    | .own xs => .ok (.list xs)
    | _ => .bad := rfl
@[simp] theorem evC_ix : evC env (.ix a b) = evE env (.ix a b) := rfl
@[simp] theorem evC_lst : evC env (.lst a) = evE env (.lst a) := rfl
@[simp] theorem evC_sl : evC env (.sl a b c) = evE env (.sl a b c) := rfl
@[simp] theorem evC_call (k : Nat) (f : List D → Res D) : evC env (.call k f a) = evE env (.call k f a) := rfl
@[simp] theorem evI1_var : evI1 env (.var i) = match env.get i with
    | .dct kvs => some kvs
    | _ => none := rfl
@[simp] theorem evI1_str (x : Str) : evI1 env (.str x) = none := rfl
@[simp] theorem evC_str (x : Str) : evC env (.str x) = evE env (.str x) := rfl
@[simp] theorem evI1_ix : evI1 env (.ix a b) = none := rfl
@[simp] theorem evI1_lst : evI1 env (.lst a) = none := rfl
@[simp] theorem evI1_sl : evI1 env (.sl a b c) = none := rfl
@[simp] theorem evI1_call (k : Nat) (f : List D → Res D) : evI1 env (.call k f a) = none := rfl
@[simp] theorem evO_nop : evO env .nop = .ok none := rfl
@[simp] theorem evO_int (n : Int) : evO env (.int n) = .ok (some n) := rfl
@[simp] theorem evO_var : evO env (.var i) = (evE env (.var i)).bind fun x => (asInt x).bind fun i => .ok (some i) := rfl
@[simp] theorem evO_bin (o : O2) : evO env (.bin o a b) = (evE env (.bin o a b)).bind fun x => (asInt x).bind fun i => .ok (some i) := rfl
@[simp] theorem evO_neg : evO env (.neg a) = (evE env (.neg a)).bind fun x => (asInt x).bind fun i => .ok (some i) := rfl
@[simp] theorem evP_nop : evP env .nop = .ok true := rfl
@[simp] theorem evP_cmp (o : Cm) : evP env (.cmp o a b) = evT env (.cmp o a b) := rfl
@[simp] theorem asInt_int (n : Int) : asInt (.int n) = .ok n := rfl
@[simp] theorem run_add : O2.add.run = addD := rfl
@[simp] theorem run_sub : O2.sub.run = subD := rfl
@[simp] theorem run_mul : O2.mul.run = mulD := rfl
@[simp] theorem run_fdiv : O2.fdiv.run = fdivD := rfl
@[simp] theorem run_mod : O2.mod.run = modD := rfl
@[simp] theorem add_int (m n : Int) : addD (.int m) (.int n) = .ok (.int (m + n)) := rfl
@[simp] theorem sub_int (m n : Int) : subD (.int m) (.int n) = .ok (.int (m - n)) := rfl
@[simp] theorem neg_int (n : Int) : negD (.int n) = .ok (.int (-n)) := rfl
theorem mul_int {m n : Int} (h : (near64 m || near64 n) = true) : mulD (.int m) (.int n) = .ok (.int (m * n)) := by
  show req (near64 m || near64 n) _ = _
  rw [h]; rfl
theorem near_of {n : Int} (h1 : -(2 ^ 64) < n) (h2 : n < 2 ^ 64) : near64 n = true := by unfold near64; rw [decide_eq_true h1, decide_eq_true h2]; rfl
@[simp] theorem mod_int {m n : Int} (h : (decide (0 < n)) = true) : modD (.int m) (.int n) = .ok (.int (m % n)) := by
  show req (decide (0 < n)) _ = _
  rw [h]; rfl
@[simp] theorem fdiv_int {m n : Int} (h : (decide (0 < n) && decide (n < 1073741824)) = true) : fdivD (.int m) (.int n) = .ok (.int (m / n)) := by
  show req (decide (0 < n) && decide (n < 1073741824)) _ = _
  rw [h]; rfl
@[simp] theorem run_lt : Cm.lt.run = ltD := rfl
@[simp] theorem run_le : Cm.le.run = leD := rfl
@[simp] theorem run_gt : Cm.gt.run = gtD := rfl
@[simp] theorem run_ge : Cm.ge.run = geD := rfl
@[simp] theorem run_eq : Cm.eq.run = eqD := rfl
@[simp] theorem run_ne (x y : D) : Cm.ne.run x y = (eqD x y).nott := rfl
@[simp] theorem run_isn (x y : D) : Cm.isn.run x y = req (nonD y) (.ok (nonD x)) := rfl
@[simp] theorem nonD_none : nonD .none = true := rfl
@[simp] theorem run_in (x y : D) : Cm.inn.run x y = inD x y := rfl
@[simp] theorem run_nin (x y : D) : Cm.nin.run x y = (inD x y).nott := rfl
@[simp] theorem lt_int (m n : Int) : ltD (.int m) (.int n) = .ok (decide (m < n)) := rfl
@[simp] theorem le_int (m n : Int) : leD (.int m) (.int n) = .ok (decide (m ≤ n)) := rfl
@[simp] theorem gt_int (m n : Int) : gtD (.int m) (.int n) = .ok (decide (n < m)) := rfl
@[simp] theorem ge_int (m n : Int) : geD (.int m) (.int n) = .ok (decide (n ≤ m)) := rfl
@[simp] theorem eq_int (m n : Int) : eqD (.int m) (.int n) = .ok (decide (m = n)) := by
  show Res.ok (m == n) = _
  rw [Bool.beq_eq_decide_eq]
@[simp] theorem nott_ok (k : Bool) : Res.nott (.ok k) = .ok (!k) := rfl
@[simp] theorem tru_int (n : Int) : tru (.int n) = .ok (n != 0) := rfl
@[simp] theorem tru_bool (n : Bool) : tru (.bool n) = .ok n := rfl
@[simp] theorem tru_list (xs : List D) : tru (.list xs) = .ok (!xs.isEmpty) := rfl
@[simp] theorem seq_list (xs : List D) : seqOf (.list xs) = .ok xs := rfl
@[simp] theorem seq_tuple (xs : List D) : seqOf (.tuple xs) = .ok xs := rfl
end
@[simp] theorem frz_nil : Env.frz [] = [] := rfl
@[simp] theorem frz_cons (s : Slot) (r : Env) : Env.frz (s :: r) = s.frz :: Env.frz r := rfl
@[simp] theorem frz_dat (d : D) : Slot.frz (.dat d) = .dat d := rfl
@[simp] theorem frz_own (d : List D) : Slot.frz (.own d) = .dat (.list d) := rfl
@[simp] theorem frz_none : Slot.frz .none = .none := rfl
@[simp] theorem get_zero (s : Slot) (r : Env) : Env.get (s :: r) 0 = s := rfl
@[simp] theorem get_succ (s : Slot) (r : Env) (n : Nat) : Env.get (s :: r) (n + 1) = Env.get r n := rfl
@[simp] theorem get_one (s t : Slot) (r : Env) : Env.get (s :: t :: r) 1 = t := rfl
@[simp] theorem bindT_nil (env : Env) : bindT env [] [] = .ok env := rfl
@[simp] theorem bindT_cons (env : Env) (i : Nat) (is : List Nat) (d : D) (ds : List D) : bindT env (i :: is) (d :: ds) = bindT (env.set i (.dat d)) is ds := rfl
@[simp] theorem tg_one (env : Env) (i : Nat) (d : D) : (⟨false, [i]⟩ : Tg).run env d = .ok (env.set i (.dat d)) := rfl
@[simp] theorem tg_many (env : Env) (is : List Nat) (ds : List D) : (⟨true, is⟩ : Tg).run env (.tuple ds) = bindT env is ds := rfl
theorem pix_nn {α : Type} {xs : List α} {i : Int} (h : 0 ≤ i) : pix xs i = xs[i.toNat]? := by unfold pix; rw [if_pos h]
/-- what is plain stays -/
theorem evV_pl {env : Env} {e : E} (h : env.frz = env) : evV env e = evE env e := by
  unfold evV
  rw [h]
  cases hr : evE env e with
  | ok d => dsimp only; cases scal d <;> first | rfl | exact hr
  | _ => first | rfl | exact hr
theorem evR_pl {env : Env} {e : E} (h : env.frz = env) : evR env e = evE env e := by
  unfold evR
  rw [h]
  cases hr : evE env e <;> first | rfl | exact hr
theorem evB_pl {env : Env} {e : E} (h : env.frz = env) : evB env e = evT env e := by
  unfold evB
  rw [h]
  cases hr : evT env e <;> first | rfl | exact hr
/-- nothing is owned -/
def Slot.pl : Slot → Bool
  | .own _ => false
  | .dct _ => false
  | _ => true
def Env.pl : Env → Bool
  | [] => true
  | s :: r => s.pl && Env.pl r
theorem frz_pl : ∀ {env : Env}, Env.pl env = true → env.frz = env
  | [], _ => rfl
  | s :: r, h => by
    have h : (s.pl && Env.pl r) = true := h
    have h' : s.pl = true ∧ Env.pl r = true := by simpa using h
    have e : s.frz = s := by cases s <;> first | rfl | cases h'.1
    show s.frz :: Env.frz r = s :: r
    rw [e, frz_pl h'.2]
@[simp] theorem pl_nil : Env.pl [] = true := rfl
@[simp] theorem pl_cons (s : Slot) (r : Env) : Env.pl (s :: r) = (s.pl && Env.pl r) := rfl
@[simp] theorem pl_dat (d : D) : Slot.pl (.dat d) = true := rfl
@[simp] theorem pl_none : Slot.pl .none = true := rfl
@[simp] theorem evV_plain {env : Env} {e : E} (h : Env.pl env = true) : evV env e = evE env e := evV_pl (frz_pl h)
@[simp] theorem evR_plain {env : Env} {e : E} (h : Env.pl env = true) : evR env e = evE env e := evR_pl (frz_pl h)
@[simp] theorem evB_plain {env : Env} {e : E} (h : Env.pl env = true) : evB env e = evT env e := evB_pl (frz_pl h)
/-- by what all that is let go gives -/
theorem evV_scal {env : Env} {e : E} {d : D} (h : evE env.frz e = .ok d) (s : scal d = true) : evV env e = .ok d := by
  unfold evV
  rw [h]
  dsimp only
  rw [s]
theorem evR_ok {env : Env} {e : E} {d : D} (h : evE env.frz e = .ok d) : evR env e = .ok d := by
  unfold evR
  rw [h]
theorem evB_ok {env : Env} {e : E} {d : Bool} (h : evT env.frz e = .ok d) : evB env e = .ok d := by
  unfold evB
  rw [h]
theorem evV_both {env : Env} {e : E} {d : D} (h : evE env.frz e = .ok d) (h2 : evE env e = .ok d) : evV env e = .ok d := by
  unfold evV
  rw [h]
  dsimp only
  cases scal d
  · exact h2
  · rfl
section
variable (env : Env)
@[simp] theorem exS_nil : exS .nil env = .nx env := rfl
@[simp] theorem exS_cons (s r : S) : exS (.cons s r) env = (exS s env).seq (exS r) := rfl
@[simp] theorem exS_asg (i : Nat) (e : E) : exS (.asg i e) env = (evV env e).out env fun d => .nx (env.set i (.dat d)) := rfl
@[simp] theorem exS_asgT (is : List Nat) (e : E) : exS (.asgT is e) env = (evV env e).out env fun d => match d with
    | .tuple ds => (bindT env is ds).out env .nx
    | _ => .bad := rfl
@[simp] theorem exS_new (i : Nat) (e : E) : exS (.new i e) env = (evE env e).out env fun d => match d with
    | .list xs => .nx (env.set i (.own xs))
    | _ => .bad := rfl
@[simp] theorem exS_newd (i : Nat) : exS (.newd i) env = .nx (env.set i (.dct [])) := rfl
@[simp] theorem exS_drop (e : E) : exS (.drop e) env = (evR env e).out env fun _ => .nx env := rfl
@[simp] theorem exS_ret (e : E) : exS (.ret e) env = (evR env e).out env .ret := rfl
@[simp] theorem exS_rai (c : Nat) : exS (.rai c) env = .exc c env := rfl
@[simp] theorem exS_tryk (b : S) (c k n : Nat) : exS (.tryk b c k n) env = match exS b env with
    | .exc c' env' => match decide (c' < 5), below c' c with
      | true, true => .nx ((env'.set k (.dat (exn c'))).set n .none)
      | true, false => .exc c' env'
      | false, _ => .bad
    | o => o := rfl
@[simp] theorem exS_brk : exS .brk env = .brk env := rfl
@[simp] theorem exS_ifs (c : E) (a b : S) : exS (.ifs c a b) env = (evB env c).out env fun k => match k with
    | true => exS a env
    | false => exS b env := rfl
@[simp] theorem exS_forr (t : Tg) (it : E) (b : S) : exS (.forr t it b) env = (evI env it).out env fun ds => forGo (fun d env => (t.run env d).out env (exS b)) ds env := rfl
@[simp] theorem exS_whil (n : Nat) (c : E) (b : S) : exS (.whil n c b) env = whGo (fun env => evB env c) (exS b) n env := rfl
theorem exS_app {i : Nat} {e : E} {xs : List D} {d : D} (h : env.get i = .own xs) (he : evV env e = .ok d) (hl : xs.length < lim) : exS (.app i e) env = .nx (env.set i (.own (xs ++ [d]))) := by
  show (match env.get i with
    | .own xs => (evV env e).out env fun d => match decide (xs.length < lim) with
      | true => Out.nx (env.set i (.own (xs ++ [d])))
      | false => .bad
    | _ => .bad) = _
  rw [h, he]
  dsimp only [out_ok]
  rw [decide_eq_true hl]
theorem exS_ext {i : Nat} {e : E} {xs ys : List D} (h : env.get i = .own xs) (he : evV env e = .ok (.list ys)) (hl : xs.length + ys.length < lim) : exS (.ext i e) env = .nx (env.set i (.own (xs ++ ys))) := by
  show (match env.get i with
    | .own xs => (evV env e).out env fun d => match d with
      | .list ys => match decide (xs.length + ys.length < lim) with
        | true => Out.nx (env.set i (.own (xs ++ ys)))
        | false => .bad
      | _ => .bad
    | _ => .bad) = _
  rw [h, he]
  dsimp only [out_ok]
  rw [decide_eq_true hl]
theorem exS_seti {i : Nat} {k e : E} {xs : List D} {d : D} {j : Int} (h : env.get i = .own xs) (he : evV env e = .ok d) (hk : evV env k = .ok (.int j)) (h0 : 0 ≤ j) (h1 : j < xs.length) : exS (.seti i k e) env = .nx (env.set i (.own (xs.set j.toNat d))) := by
  show (match env.get i with
    | .own xs => (evV env e).out env fun d => (evV env k).out env fun y => match y with
      | .int j => match decide (0 ≤ j) && decide (j < xs.length) with
        | true => Out.nx (env.set i (.own (xs.set j.toNat d)))
        | false => .bad
      | _ => .bad
    | _ => .bad) = _
  rw [h, he, hk]
  dsimp only [out_ok]
  rw [decide_eq_true h0, decide_eq_true h1]
  rfl
theorem exS_setd {i : Nat} {k e : E} {xs : List (Int × D)} {d : D} {j : Int} (h : env.get i = .dct xs) (he : evV env e = .ok d) (hk : evV env k = .ok (.int j)) (hl : xs.length < lim) : exS (.setd i k e) env = .nx (env.set i (.dct (kput xs j d))) := by
  show (match env.get i with
    | .dct kvs => (evV env e).out env fun d => (evV env k).out env fun y => match y with
      | .int j => match decide (kvs.length < lim) with
        | true => Out.nx (env.set i (.dct (kput kvs j d)))
        | false => .bad
      | _ => .bad
    | _ => .bad) = _
  rw [h, he, hk]
  dsimp only [out_ok]
  rw [decide_eq_true hl]
end
theorem exS_appPop {env : Env} {i j : Nat} {e : E} {xs ys : List D} {k : Int} (h : env.get i = .own xs) (h2 : env.get j = .own ys) (he : evV env e = .ok (.int k)) (h0 : 0 ≤ k) (h1 : k < ys.length) (hx : xs.length < lim) (hy : ys.length < lim) (hij : (i != j) = true) :
    exS (.appPop i j e) env = .nx ((env.set j (.own (ys.eraseIdx k.toNat))).set i (.own (xs ++ [ys.getD k.toNat .none]))) := by
  show (match env.get i, env.get j with
    | .own xs, .own ys => (evV env e).out env fun y => match y with
      | .int k => match decide (0 ≤ k) && decide (k < ys.length) && decide (xs.length < lim) && decide (ys.length < lim) && (i != j) with
        | true => Out.nx ((env.set j (.own (ys.eraseIdx k.toNat))).set i (.own (xs ++ [ys.getD k.toNat .none])))
        | false => .bad
      | _ => .bad
    | _, _ => .bad) = _
  rw [h, h2, he]
  dsimp only [out_ok]
  rw [decide_eq_true h0, decide_eq_true h1, decide_eq_true hx, decide_eq_true hy, hij]
  rfl
@[simp] theorem bi_len (xs : List D) : bi .len [.list xs] = .ok (.int xs.length) := rfl
@[simp] theorem bi_lenT (xs : List D) : bi .len [.tuple xs] = .ok (.int xs.length) := rfl
@[simp] theorem bi_abs (i : Int) : bi .abs [.int i] = .ok (.int (if i < 0 then -i else i)) := rfl
theorem bi_sum (ns : List Int) : bi .sum [.list (ns.map .int)] = .ok (.int ns.sum) := by show (ofO (intL _)).bind _ = _; rw [intL_map]; rfl
theorem bi_sorted (ns : List Int) : bi .sorted [.list (ns.map .int)] = .ok (.list ((srt ns).map .int)) := by show (ofO (intL _)).bind _ = _; rw [intL_map]; rfl
theorem bi_max (n : Int) (ns : List Int) : bi .max [.list ((n :: ns).map .int)] = .ok (.int (ns.foldl max n)) := by show (ofO (intL _)).bind _ = _; rw [intL_map]; rfl
@[simp] theorem bi_list (xs : List D) : bi .list [.list xs] = .ok (.list xs) := rfl
@[simp] theorem bi_intB (k : Bool) : bi .int [.bool k] = .ok (.int (if k then 1 else 0)) := rfl
theorem exS_asgT_ok {env env' : Env} {is : List Nat} {e : E} {ds : List D} (h : evV env e = .ok (.tuple ds)) (hb : bindT env is ds = .ok env') : exS (.asgT is e) env = .nx env' := by
  rw [exS_asgT, h, out_ok]
  dsimp only
  rw [hb]
  rfl
theorem rng1_okN {env : Env} {a : E} {n : Int} (ha : evN env a = .ok n) (h0 : -1000000 ≤ n) (h1 : n ≤ 1000000) : evI env (.rng1 a) = .ok (rngD 0 n) := by
  rw [evI_rng1, ha, bind_ok, decide_eq_true h0, decide_eq_true h1]
  rfl
theorem rng2_okN {env : Env} {a b : E} {m n : Int} (ha : evN env a = .ok m) (hb : evN env b = .ok n) (h0 : -1000000 ≤ m) (h1 : m ≤ 1000000) (h2 : -1000000 ≤ n) (h3 : n ≤ 1000000) : evI env (.rng2 a b) = .ok (rngD m n) := by
  rw [evI_rng2, ha, bind_ok, hb, bind_ok, decide_eq_true h0, decide_eq_true h1, decide_eq_true h2, decide_eq_true h3]
  rfl
theorem rng1_ok {env : Env} {a : E} {n : Int} (ha : evE env a = .ok (.int n)) (h0 : -1000000 ≤ n) (h1 : n ≤ 1000000) : evI env (.rng1 a) = .ok (rngD 0 n) := rng1_okN (evN_ok ha) h0 h1
theorem rng2_ok {env : Env} {a b : E} {m n : Int} (ha : evE env a = .ok (.int m)) (hb : evE env b = .ok (.int n)) (h0 : -1000000 ≤ m) (h1 : m ≤ 1000000) (h2 : -1000000 ≤ n) (h3 : n ≤ 1000000) : evI env (.rng2 a b) = .ok (rngD m n) := rng2_okN (evN_ok ha) (evN_ok hb) h0 h1 h2 h3
/-! ### lists -/
theorem lcRun_map {α : Type} {f : D → Res (Option D)} {g : α → D} {h : α → D} : ∀ {l : List α}, (∀ x ∈ l, f (g x) = .ok (some (h x))) → lcRun f (l.map g) = .ok (l.map h)
  | [], _ => rfl
  | x :: r, q => by
    have e := q x List.mem_cons_self
    have ih := lcRun_map (l := r) fun y hy => q y (List.mem_cons_of_mem _ hy)
    show (f (g x)).bind (fun o => (lcRun f (r.map g)).bind fun ds => .ok (o.toList ++ ds)) = _
    rw [e, ih]
    rfl
theorem lcRun_filter {α : Type} {f : D → Res (Option D)} {g : α → D} {h : α → Option D} : ∀ {l : List α}, (∀ x ∈ l, f (g x) = .ok (h x)) → lcRun f (l.map g) = .ok (l.filterMap h)
  | [], _ => rfl
  | x :: r, q => by
    have e := q x List.mem_cons_self
    have ih := lcRun_filter (l := r) fun y hy => q y (List.mem_cons_of_mem _ hy)
    show (f (g x)).bind (fun o => (lcRun f (r.map g)).bind fun ds => .ok (o.toList ++ ds)) = _
    rw [e, ih, List.filterMap_cons]
    cases h x <;> rfl
theorem forGo_inv {α : Type} {f : D → Env → Out} {g : α → D} (I : List α → Env → Prop) : ∀ {l : List α} {env : Env}, I l env → (∀ x r env, I (x :: r) env → ∃ env', f (g x) env = .nx env' ∧ I r env') → ∃ env', forGo f (l.map g) env = .nx env' ∧ I [] env'
  | [], env, h, _ => ⟨env, rfl, h⟩
  | x :: r, env, h, q => by
    obtain ⟨env1, e1, h1⟩ := q x r env h
    obtain ⟨env2, e2, h2⟩ := forGo_inv I h1 q
    refine ⟨env2, ?_, h2⟩
    show (f (g x) env).turn (forGo f (r.map g)) = _
    rw [e1]
    exact e2
/-- the turns of a range -/
theorem forGo_rng {f : D → Env → Out} {m : Int} (I : Nat → Env → Prop) {n : Nat} {env : Env} (h : I 0 env) (q : ∀ i env, i < n → I i env → ∃ env', f (.int (m + i)) env = .nx env' ∧ I (i + 1) env') : ∃ env', forGo f ((List.range n).map fun (i : Nat) => .int (m + i)) env = .nx env' ∧ I n env' := by
  have aux : ∀ (k j : Nat) (env : Env), j + k = n → I j env → ∃ env', forGo f ((List.range' j k).map fun (i : Nat) => .int (m + i)) env = .nx env' ∧ I n env' := by
    intro k
    induction k with
    | zero =>
      intro j env hj hi
      have : j = n := by omega
      subst this
      exact ⟨env, rfl, hi⟩
    | succ k ih =>
      intro j env hj hi
      obtain ⟨env1, e1, h1⟩ := q j env (by omega) hi
      obtain ⟨env2, e2, h2⟩ := ih (j + 1) env1 (by omega) h1
      refine ⟨env2, ?_, h2⟩
      rw [List.range'_succ, List.map_cons]
      show (f (.int (m + j)) env).turn _ = _
      rw [e1]
      exact e2
  rw [List.range_eq_range']
  exact aux n 0 env (by omega) h
theorem rngD_nat (n : Nat) : rngD 0 (n : Int) = (List.range n).map fun (i : Nat) => .int (0 + i) := by unfold rngD; simp
end Rwl

set_option Elab.async false
set_option linter.all false
set_option maxRecDepth 100000
set_option maxHeartbeats 1000000
namespace Rwl
open PySem
/-! ### the script's numbers -/
def cellZ (ns : List Int) (k : Int) : Int := match ns with
  | [] => 0
  | _ :: _ => (ns[(k % (ns.length : Int)).toNat]?).getD 0
theorem tru_scr (ns : List Int) : tru (scr ns) = .ok (!ns.isEmpty) := by simp [tru, scr, scrOf]
theorem len_scr (ns : List Int) : bi .len [scr ns] = .ok (.int ns.length) := by simp [bi, scr, scrOf]
theorem ix_scr (ns : List Int) (i : Int) : ixD (scr ns) (.int i) = ofO (pix (ns.map .int) i) := by simp [ixD, scr, scrOf]
theorem cell_ok (ns : List Int) (k : Int) : f_law_cell [scr ns, .int k] = .ok (.int (cellZ ns k)) := by
  cases ns with
  | nil => rfl
  | cons n r =>
    have hlt : (0 : Int) < ((n :: r).length : Int) := by simp only [List.length_cons]; omega
    have h0 := Int.emod_nonneg k (Int.ne_of_gt hlt)
    have h1 := Int.emod_lt_of_pos k hlt
    have hp : ofO (pix ((n :: r).map PyData.int) (k % ((n :: r).length : Int))) = Res.ok (PyData.int (cellZ (n :: r) k)) := by
      rw [pix_nn h0, List.getElem?_map, List.getElem?_eq_getElem (by omega)]
      simp only [Option.map_some, ofO_some]
      unfold cellZ
      dsimp only
      rw [List.getElem?_eq_getElem (by omega)]
      rfl
    simp only [List.length_cons, List.map_cons, Int.natCast_add, Int.cast_ofNat_Int] at hp
    simp [f_law_cell, b_law_cell, x0_law_cell, run, tru_scr, len_scr, ix_scr, hp]
def mixZ (ns : List Int) (k : Int) : Int := ((cellZ ns k + 104729 * (k + 1)) % 4294967291 * 48271 % 4294967279 / 64 * 69621 + (cellZ ns k + 104729 * (k + 1)) % 4294967291 * 48271 % 4294967279) % 4294967231
theorem mix_ok (ns : List Int) (k : Int) : f_law_mix [scr ns, .int k] = .ok (.int (mixZ ns k)) := by
  simp [f_law_mix, b_law_mix, x0_law_mix, x1_law_mix, x2_law_mix, run, cell_ok, mulD, near64, mixZ]
theorem mix_nn (ns : List Int) (k : Int) : 0 ≤ mixZ ns k := by unfold mixZ; omega
end Rwl

set_option Elab.async false
set_option linter.all false
set_option maxRecDepth 100000
set_option maxHeartbeats 1000000
namespace Rwl
open PySem
/-! ### a web -/
abbrev Tie := Int × Int × Int
def tieD (t : Tie) : D := .tuple [.int t.1, .int t.2.1, .int t.2.2]
def Tie.lt (s t : Tie) : Prop := s.1 < t.1 ∨ (s.1 = t.1 ∧ s.2.1 < t.2.1)
structure Ties (m : Int) (ts : List Tie) : Prop where
  each : ∀ t ∈ ts, 0 ≤ t.1 ∧ t.1 < t.2.1 ∧ t.2.1 < m ∧ 1 ≤ t.2.2 ∧ t.2.2 ≤ 100
  up : ts.Pairwise Tie.lt
def wtZ (n : Int) : Int := match (n / 64 % 6).toNat with
  | 0 => 1
  | 1 => 1
  | 2 => 2
  | 3 => 3
  | 4 => 7
  | _ => 100
theorem wt_ok (n : Int) : ixD (.list [.int 1, .int 1, .int 2, .int 3, .int 7, .int 100]) (.int (n / 64 % 6)) = .ok (.int (wtZ n)) := by
  have h0 : 0 ≤ n / 64 % 6 := by omega
  have h1 : n / 64 % 6 < 6 := by omega
  show ofO (pix _ _) = _
  rw [pix_nn h0]
  unfold wtZ
  have hr : (n / 64 % 6).toNat < 6 := by omega
  generalize (n / 64 % 6).toNat = r at *
  match r, hr with
  | 0, _ => rfl
  | 1, _ => rfl
  | 2, _ => rfl
  | 3, _ => rfl
  | 4, _ => rfl
  | 5, _ => rfl
theorem wt_rng (n : Int) : 1 ≤ wtZ n ∧ wtZ n ≤ 100 := by
  unfold wtZ
  split <;> omega
/-- the frame of _law_web -/
def envW (ns : List Int) (k p m dn : Int) (xs : List D) (s6 s7 s8 : Slot) : Env := [.dat (scr ns), .dat (.int k), .dat (.int p), .dat (.int m), .dat (.int dn), .own xs, s6, s7, s8]
theorem in_turn (ns : List Int) (k p m dn a b : Int) (xs : List D) (s7 s8 : Slot) (hx : xs.length < lim) :
    ∃ xs' s8', exS l5_law_web (envW ns k p m dn xs (.dat (.int a)) (.dat (.int b)) s8) = .nx (envW ns k p m dn xs' (.dat (.int a)) (.dat (.int b)) s8') ∧ (xs' = xs ∨ ∃ w, 1 ≤ w ∧ w ≤ 100 ∧ xs' = xs ++ [tieD (a, b, w)]) := by
  have e1 : evV (envW ns k p m dn xs (.dat (.int a)) (.dat (.int b)) s8) x2_law_web = .ok (.int (mixZ ns (k + 2 + 8 * a + b))) :=
    evV_scal (by simp [envW, x2_law_web, mulD, near64, mix_ok]) rfl
  generalize mixZ ns (k + 2 + 8 * a + b) = z at *
  have e2 : evB (envW ns k p m dn xs (.dat (.int a)) (.dat (.int b)) (.dat (.int z))) x3_law_web = .ok (decide (z / 8 % 4 < dn)) :=
    evB_ok (by simp [envW, x3_law_web])
  have e3 : evV (envW ns k p m dn xs (.dat (.int a)) (.dat (.int b)) (.dat (.int z))) x4_law_web = .ok (tieD (a, b, wtZ z)) :=
    evV_both (by simp [envW, x4_law_web, lim, wt_ok, tieD]) (by simp [envW, x4_law_web, lim, wt_ok, tieD])
  have e4 := exS_app (i := 5) (env := envW ns k p m dn xs (.dat (.int a)) (.dat (.int b)) (.dat (.int z))) rfl e3 hx
  show ∃ xs' s8', ((evV (envW ns k p m dn xs (.dat (.int a)) (.dat (.int b)) s8) x2_law_web).out (envW ns k p m dn xs (.dat (.int a)) (.dat (.int b)) s8) fun d => Out.nx ((envW ns k p m dn xs (.dat (.int a)) (.dat (.int b)) s8).set 8 (.dat d))).seq (exS (.cons (.ifs x3_law_web (.cons (.app 5 x4_law_web) .nil) (.nil)) .nil)) = _ ∧ _
  rw [e1]
  show ∃ xs' s8', ((evB (envW ns k p m dn xs (.dat (.int a)) (.dat (.int b)) (.dat (.int z))) x3_law_web).out _ _).seq _ = _ ∧ _
  rw [e2]
  cases decide (z / 8 % 4 < dn) with
  | false => exact ⟨xs, _, rfl, .inl rfl⟩
  | true =>
    refine ⟨xs ++ [tieD (a, b, wtZ z)], .dat (.int z), ?_, .inr ⟨_, (wt_rng z).1, (wt_rng z).2, rfl⟩⟩
    show ((exS (.app 5 x4_law_web) (envW ns k p m dn xs (.dat (.int a)) (.dat (.int b)) (.dat (.int z)))).seq (exS .nil)).seq (exS .nil) = _
    rw [e4]
    rfl
theorem lt_append {ts : List Tie} {t : Tie} (h : ts.Pairwise Tie.lt) (hb : ∀ s ∈ ts, Tie.lt s t) : (ts ++ [t]).Pairwise Tie.lt :=
  List.pairwise_append.mpr ⟨h, List.pairwise_singleton _ _, fun s hs u hu => by rw [List.mem_singleton.mp hu]; exact hb s hs⟩
/-- ahead of the tie (a, b) -/
def Upto (m a b : Int) (ts : List Tie) : Prop := Ties m ts ∧ ∀ s ∈ ts, s.1 < a ∨ (s.1 = a ∧ s.2.1 < b)
theorem web_ok (ns : List Int) (k p : Int) (hp : 0 ≤ p) (hp8 : p ≤ 8) : ∃ m ts, f_law_web [scr ns, .int k, .int p] = .ok (.tuple [.int m, .list (ts.map tieD)]) ∧ 0 ≤ m ∧ m ≤ p ∧ Ties m ts ∧ ts.length ≤ 64 := by
  have e1 : evV [Slot.dat (scr ns), .dat (.int k), .dat (.int p), .none, .none, .none, .none, .none, .none] x0_law_web = .ok (.int (mixZ ns k % (p + 1))) := by
    have := mod_int (m := mixZ ns k) (n := p + 1) (decide_eq_true (by omega))
    simp [x0_law_web, mix_ok, this]
  have hm0 : 0 ≤ mixZ ns k % (p + 1) := Int.emod_nonneg _ (by omega)
  have hm1 : mixZ ns k % (p + 1) < p + 1 := Int.emod_lt_of_pos _ (by omega)
  generalize mixZ ns k % (p + 1) = m at *
  obtain ⟨n, rfl⟩ : ∃ n : Nat, m = n := ⟨m.toNat, by omega⟩
  have hn : n ≤ 8 := by omega
  have e2 : evV [Slot.dat (scr ns), .dat (.int k), .dat (.int p), .dat (.int n), .none, .none, .none, .none, .none] x1_law_web = .ok (.int (1 + mixZ ns (k + 1) % 4)) := by
    simp [x1_law_web, mix_ok]
  generalize 1 + mixZ ns (k + 1) % 4 = dn at *
  -- the loop
  have inner : ∀ (i : Nat) (xs : List Tie) (s6 s7 s8 : Slot), i < n → Upto n i 0 xs → xs.length ≤ 8 * i → ∃ xs' s6' s7' s8', exS l6_law_web (envW ns k p n dn (xs.map tieD) (.dat (.int (0 + i))) s7 s8) = .nx (envW ns k p n dn (xs'.map tieD) s6' s7' s8') ∧ Upto n (i + 1) 0 xs' ∧ xs'.length ≤ 8 * (i + 1) := by
    intro i xs s6 s7 s8 hi hu hl
    have hr : evI (envW ns k p n dn (xs.map tieD) (.dat (.int (0 + i))) s7 s8) (.rng2 (.bin .add (.var 6) (.int 1)) (.var 3)) = .ok (rngD (0 + i + 1) n) :=
      rng2_ok rfl rfl (by omega) (by omega) (by omega) (by omega)
    obtain ⟨env', h1, xs', s7', s8', rfl, h2, h3⟩ := forGo_rng (f := fun d env => ((⟨false, [7]⟩ : Tg).run env d).out env (exS l5_law_web)) (m := 0 + (i : Int) + 1) (n := ((n : Int) - (0 + i + 1)).toNat)
      (I := fun j env => ∃ xs' s7' s8', env = envW ns k p n dn (xs'.map tieD) (.dat (.int (0 + i))) s7' s8' ∧ Upto n i (i + 1 + j) xs' ∧ xs'.length ≤ 8 * i + j)
      ⟨xs, s7, s8, rfl, ⟨hu.1, fun s hs => by rcases hu.2 s hs with h | ⟨h, h'⟩; exact .inl h; have := hu.1.each s hs; omega⟩, hl⟩
      (fun j env hj ⟨xs', s7', s8', he, hu', hl'⟩ => by
        subst he
        obtain ⟨ys, s8n, h1, h2⟩ := in_turn ns k p n dn (0 + i) (0 + i + 1 + j) (xs'.map tieD) s7' s8' (by rw [List.length_map]; unfold lim; omega)
        rcases h2 with rfl | ⟨w, w1, w2, rfl⟩
        · exact ⟨_, h1, xs', _, _, rfl, ⟨hu'.1, fun s hs => by rcases hu'.2 s hs with h | ⟨h, h'⟩; exact .inl h; exact .inr ⟨h, by omega⟩⟩, by omega⟩
        · refine ⟨_, h1, xs' ++ [(0 + (i : Int), 0 + (i : Int) + 1 + j, w)], _, _, by rw [List.map_append]; rfl, ⟨⟨fun s hs => ?_, lt_append hu'.1.up fun s hs => ?_⟩, fun s hs => ?_⟩, by rw [List.length_append, List.length_singleton]; omega⟩
          · rcases List.mem_append.mp hs with hs | hs
            · exact hu'.1.each s hs
            · rw [List.mem_singleton.mp hs]
              dsimp only
              omega
          · rcases hu'.2 s hs with h | ⟨h, h'⟩
            · exact .inl (by dsimp only; omega)
            · exact .inr ⟨by dsimp only; omega, by dsimp only; omega⟩
          · rcases List.mem_append.mp hs with hs | hs
            · rcases hu'.2 s hs with h | ⟨h, h'⟩
              · exact .inl h
              · exact .inr ⟨h, by omega⟩
            · rw [List.mem_singleton.mp hs]
              exact .inr ⟨by dsimp only; omega, by dsimp only; omega⟩)
    refine ⟨xs', .dat (.int (0 + i)), s7', s8', ?_, ⟨h2.1, fun s hs => ?_⟩, by omega⟩
    · show ((evI (envW ns k p n dn (xs.map tieD) (.dat (.int (0 + i))) s7 s8) (.rng2 (.bin .add (.var 6) (.int 1)) (.var 3))).out _ _).seq _ = _
      rw [hr]
      show (forGo _ (rngD (0 + i + 1) n) _).seq _ = _
      unfold rngD
      rw [h1]
      rfl
    · rcases h2.2 s hs with h | ⟨h, h'⟩ <;> exact .inl (by omega)
  obtain ⟨env', h1, xs', s6', s7', s8', rfl, h2, h3⟩ := forGo_rng (f := fun d env => ((⟨false, [6]⟩ : Tg).run env d).out env (exS l6_law_web)) (m := 0) (n := n) (env := envW ns k p n dn [] .none .none .none)
    (I := fun i env => ∃ xs' s6' s7' s8', env = envW ns k p n dn (xs'.map tieD) s6' s7' s8' ∧ Upto n i 0 xs' ∧ xs'.length ≤ 8 * i)
    ⟨[], .none, .none, .none, rfl, ⟨⟨fun _ h => absurd h (by simp), .nil⟩, fun _ h => absurd h (by simp)⟩, by simp⟩
    (fun i env hi ⟨xs', s6', s7', s8', he, hu', hl'⟩ => by
      subst he
      obtain ⟨ys, t6, t7, t8, q1, q2, q3⟩ := inner i xs' s6' s7' s8' hi hu' hl'
      refine ⟨envW ns k p n dn (ys.map tieD) t6 t7 t8, ?_, ys, t6, t7, t8, rfl, ⟨q2.1, fun s hs => ?_⟩, q3⟩
      · rw [tg_one, out_ok]
        exact q1
      · have := q2.2 s hs
        omega)
  have hr : evI (envW ns k p n dn [] .none .none .none) (.rng1 (.var 3)) = .ok (rngD 0 n) := rng1_ok rfl (by omega) (by omega)
  have hret : evR (envW ns k p n dn (xs'.map tieD) s6' s7' s8') x7_law_web = .ok (.tuple [.int n, .list (xs'.map tieD)]) := evR_ok (by simp [envW, x7_law_web, lim])
  refine ⟨n, xs', ?_, by omega, by omega, h2.1, by omega⟩
  have go : exS b_law_web [Slot.dat (scr ns), .dat (.int k), .dat (.int p), .none, .none, .none, .none, .none, .none] = .ret (.tuple [.int n, .list (xs'.map tieD)]) := by
    unfold b_law_web
    rw [exS_cons, exS_asg, e1, out_ok, seq_nx, exS_cons, exS_asg]
    rw [show ([Slot.dat (scr ns), .dat (.int k), .dat (.int p), .none, .none, .none, .none, .none, .none] : Env).set 3 (.dat (.int n)) = [Slot.dat (scr ns), .dat (.int k), .dat (.int p), .dat (.int n), .none, .none, .none, .none, .none] from rfl, e2, out_ok, seq_nx, exS_cons]
    rw [show (exS (.new 5 (.lst .nil)) (([Slot.dat (scr ns), .dat (.int k), .dat (.int p), .dat (.int n), .none, .none, .none, .none, .none] : Env).set 4 (.dat (.int dn)))) = .nx (envW ns k p n dn [] .none .none .none) from rfl, seq_nx, exS_cons, exS_forr, hr, out_ok]
    rw [rngD_nat, h1, seq_nx, exS_cons, exS_ret, hret]
    rfl
  show run 3 9 b_law_web _ = _
  unfold run
  show (match exS b_law_web [Slot.dat (scr ns), .dat (.int k), .dat (.int p), .none, .none, .none, .none, .none, .none] with
    | .ret d => Res.ok d
    | .nx _ => .ok .none
    | .exc c _ => .exc c
    | _ => .bad) = _
  rw [go]
end Rwl

set_option Elab.async false
set_option linter.all false
set_option maxRecDepth 100000
set_option maxHeartbeats 1000000
namespace Rwl
open PySem
/-! ### look_web -/
def webD (m : Int) (xs : List D) : D := .tuple [.int m, .list xs]
def envL (m : Int) (xs : List D) (s : Slot) : Env := [.dat (webD m xs), .dat (.int m), .dat (.list xs), s]
theorem slt (a b w : Int) : slD none (some 2) (.tuple [.int a, .int b, .int w]) = .ok (.tuple [.int a, .int b]) := rfl
theorem ltT (a b c d : Int) : ltD (.tuple [.int a, .int b]) (.tuple [.int c, .int d]) = .ok (decide (a < c) || (decide (a = c) && decide (b < d))) := by
  show Res.ok (lexLt [a, b] [c, d]) = _
  congr 1
  unfold lexLt
  by_cases h : a = c
  · subst h
    rw [if_pos rfl]
    unfold lexLt
    by_cases h2 : b = d
    · subst h2
      rw [if_pos rfl]
      simp [lexLt]
    · rw [if_neg h2]
      simp
  · rw [if_neg h]
    simp [h]
theorem ix3 (a b w : Int) : ixD (tieD (a, b, w)) (.int 0) = .ok (.int a) ∧ ixD (tieD (a, b, w)) (.int 1) = .ok (.int b) ∧ ixD (tieD (a, b, w)) (.int 2) = .ok (.int w) := ⟨rfl, rfl, rfl⟩
/-- a tie by itself -/
def tie1 (m : Int) (t : Tie) : Bool := decide (0 ≤ t.1) && decide (t.1 < t.2.1) && decide (t.2.1 < m) && decide (1 ≤ t.2.2) && decide (t.2.2 ≤ 100)
theorem x1_tie {m : Int} {xs : List D} {k : Int} {t : Tie} (h : ixD (.list xs) (.int k) = .ok (tieD t)) : evB (envL m xs (.dat (.int k))) x1_look_web = .ok (!tie1 m t) := by
  obtain ⟨a, b, w⟩ := t
  obtain ⟨i0, i1, i2⟩ := ix3 a b w
  have hb : bi .len [tieD (a, b, w)] = .ok (.int 3) := rfl
  rw [evB_plain rfl]
  simp [envL, x1_look_web, h, hb, i0, i1, i2, eqD, dep, PyData.eqv, tie1]
  by_cases h0 : 0 ≤ a <;> by_cases h1 : a < b <;> by_cases h2 : b < m <;> by_cases h3 : 1 ≤ w <;> by_cases h4 : w ≤ 100 <;> simp [h0, h1, h2, h3, h4]
theorem x1_pair {m : Int} {xs : List D} {k : Int} {a b : Int} (h : ixD (.list xs) (.int k) = .ok (.tuple [.int a, .int b])) : evB (envL m xs (.dat (.int k))) x1_look_web = .ok true := by
  rw [evB_plain rfl]
  simp [envL, x1_look_web, h, eqD, dep, PyData.eqv]
def ltB (s t : Tie) : Bool := decide (s.1 < t.1) || (decide (s.1 = t.1) && decide (s.2.1 < t.2.1))
theorem x2_zero {m : Int} {xs : List D} : evB (envL m xs (.dat (.int 0))) x2_look_web = .ok false := by
  rw [evB_plain rfl]
  simp [envL, x2_look_web]
theorem x2_tie {m : Int} {xs : List D} {k : Int} {s t : Tie} (hk : 0 < k) (h0 : ixD (.list xs) (.int (k - 1)) = .ok (tieD s)) (h : ixD (.list xs) (.int k) = .ok (tieD t)) : evB (envL m xs (.dat (.int k))) x2_look_web = .ok (!ltB s t) := by
  obtain ⟨a, b, w⟩ := t
  obtain ⟨a', b', w'⟩ := s
  have e1 : slD none (some 2) (tieD (a, b, w)) = .ok (.tuple [.int a, .int b]) := rfl
  have e2 : slD none (some 2) (tieD (a', b', w')) = .ok (.tuple [.int a', .int b']) := rfl
  rw [evB_plain rfl]
  simp [envL, x2_look_web, h, h0, hk, e1, e2, ltT, ltB]
theorem l3_run {m : Int} {xs : List D} {k : Int} {b1 b2 : Bool} (h1 : evB (envL m xs (.dat (.int k))) x1_look_web = .ok b1) (h2 : b1 = false → evB (envL m xs (.dat (.int k))) x2_look_web = .ok b2) :
    exS l3_look_web (envL m xs (.dat (.int k))) = if b1 = true ∨ b2 = true then .exc 4 (envL m xs (.dat (.int k))) else .nx (envL m xs (.dat (.int k))) := by
  unfold l3_look_web
  rw [exS_cons, exS_ifs, h1, out_ok]
  cases b1 with
  | true => rw [if_pos (.inl rfl)]; rfl
  | false =>
    dsimp only
    rw [exS_nil, seq_nx, exS_cons, exS_ifs, h2 rfl, out_ok]
    cases b2 with
    | true => rw [if_pos (.inr rfl)]; rfl
    | false => rw [if_neg (by simp)]; rfl
end Rwl

set_option Elab.async false
set_option linter.all false
set_option maxRecDepth 100000
set_option maxHeartbeats 1000000
namespace Rwl
open PySem
abbrev loopL (d : D) (env : Env) : Out := ((⟨false, [3]⟩ : Tg).run env d).out env (exS l3_look_web)
theorem loopL_is (m : Int) (xs : List D) (s : Slot) (k : Int) : loopL (.int k) (envL m xs s) = exS l3_look_web (envL m xs (.dat (.int k))) := rfl
theorem go_nx {m : Int} {xs : List D} : ∀ (k j : Nat) (s : Slot), (∀ i, i < j + k → exS l3_look_web (envL m xs (.dat (.int (0 + (i : Nat))))) = .nx (envL m xs (.dat (.int (0 + (i : Nat)))))) → ∃ s', forGo loopL ((List.range' j k).map fun (i : Nat) => .int (0 + i)) (envL m xs s) = .nx (envL m xs s')
  | 0, j, s, _ => ⟨s, rfl⟩
  | k + 1, j, s, h => by
    obtain ⟨s', e⟩ := go_nx k (j + 1) (.dat (.int (0 + (j : Nat)))) fun i hi => h i (by omega)
    refine ⟨s', ?_⟩
    rw [List.range'_succ, List.map_cons]
    show (loopL (.int (0 + (j : Nat))) (envL m xs s)).turn _ = _
    rw [loopL_is, h j (by omega)]
    exact e
theorem go_exc {m : Int} {xs : List D} {b : Nat} {ee : Env} (hb : exS l3_look_web (envL m xs (.dat (.int (0 + (b : Nat))))) = .exc 4 ee) : ∀ (k j : Nat) (s : Slot), j ≤ b → b < j + k → (∀ i, i < b → exS l3_look_web (envL m xs (.dat (.int (0 + (i : Nat))))) = .nx (envL m xs (.dat (.int (0 + (i : Nat)))))) → forGo loopL ((List.range' j k).map fun (i : Nat) => .int (0 + i)) (envL m xs s) = .exc 4 ee
  | 0, j, s, h1, h2, _ => absurd h1 (by omega)
  | k + 1, j, s, h1, h2, h => by
    rw [List.range'_succ, List.map_cons]
    show (loopL (.int (0 + (j : Nat))) (envL m xs s)).turn _ = _
    rw [loopL_is]
    by_cases e : j = b
    · subst e
      rw [hb]
      rfl
    · rw [h j (by omega), turn_nx]
      exact go_exc hb k (j + 1) _ (by omega) (by omega) h
theorem look_run {m : Int} {xs : List D} (hm : 0 ≤ m ∧ m ≤ 8) (hl : xs.length ≤ 1000) : f_look_web [webD m xs] = match forGo loopL ((List.range xs.length).map fun (i : Nat) => .int (0 + i)) (envL m xs .none) with
    | .ret d => .ok d
    | .nx _ => .ok .none
    | .exc c _ => .exc c
    | _ => .bad := by
  have e0 : evB (envL m xs .none) x0_look_web = .ok false := by
    rw [evB_plain rfl]
    simp [envL, x0_look_web, hm.1, hm.2]
  have hr : evI (envL m xs .none) (.rng1 (.bi .len (.cons (.var 2) .nil))) = .ok (rngD 0 xs.length) := rng1_ok rfl (by omega) (by omega)
  have go : exS b_look_web [Slot.dat (webD m xs), .none, .none, .none] = (forGo loopL ((List.range xs.length).map fun (i : Nat) => .int (0 + i)) (envL m xs .none)).seq (exS .nil) := by
    unfold b_look_web
    rw [exS_cons]
    rw [show exS (.asgT [1, 2] (.var 0)) [Slot.dat (webD m xs), .none, .none, .none] = .nx (envL m xs .none) from rfl, seq_nx, exS_cons, exS_ifs, e0, out_ok]
    dsimp only
    rw [exS_nil, seq_nx, exS_cons, exS_forr, hr, out_ok, rngD_nat]
  show run 1 4 b_look_web _ = _
  unfold run
  show (match exS b_look_web [Slot.dat (webD m xs), .none, .none, .none] with
    | .ret d => Res.ok d
    | .nx _ => .ok .none
    | .exc c _ => .exc c
    | _ => .bad) = _
  rw [go]
  cases forGo loopL ((List.range xs.length).map fun (i : Nat) => .int (0 + i)) (envL m xs .none) <;> rfl
theorem look_m {m : Int} {xs : List D} (hm : ¬ (0 ≤ m ∧ m ≤ 8)) : f_look_web [webD m xs] = .exc 4 := by
  have e0 : evB (envL m xs .none) x0_look_web = .ok true := by
    rw [evB_plain rfl]
    by_cases h0 : 0 ≤ m
    · have h8 : ¬ m ≤ 8 := fun h => hm ⟨h0, h⟩
      simp [envL, x0_look_web, h0, h8]
    · simp [envL, x0_look_web, h0]
  have go : exS b_look_web [Slot.dat (webD m xs), .none, .none, .none] = .exc 4 (envL m xs .none) := by
    unfold b_look_web
    rw [exS_cons]
    rw [show exS (.asgT [1, 2] (.var 0)) [Slot.dat (webD m xs), .none, .none, .none] = .nx (envL m xs .none) from rfl, seq_nx, exS_cons, exS_ifs, e0, out_ok]
    rfl
  show run 1 4 b_look_web _ = _
  unfold run
  show (match exS b_look_web [Slot.dat (webD m xs), .none, .none, .none] with
    | .ret d => Res.ok d
    | .nx _ => .ok .none
    | .exc c _ => .exc c
    | _ => .bad) = _
  rw [go]
theorem look_none {m : Int} {xs : List D} (hm : 0 ≤ m ∧ m ≤ 8) (hl : xs.length ≤ 1000) (h : ∀ i, i < xs.length → exS l3_look_web (envL m xs (.dat (.int (0 + (i : Nat))))) = .nx (envL m xs (.dat (.int (0 + (i : Nat)))))) : f_look_web [webD m xs] = .ok .none := by
  rw [look_run hm hl, List.range_eq_range']
  obtain ⟨s', e⟩ := go_nx (m := m) (xs := xs) xs.length 0 .none fun i hi => h i (by omega)
  rw [e]
theorem look_exc {m : Int} {xs : List D} (hm : 0 ≤ m ∧ m ≤ 8) (hl : xs.length ≤ 1000) (b : Nat) (hb : b < xs.length) {ee : Env} (e : exS l3_look_web (envL m xs (.dat (.int (0 + (b : Nat))))) = .exc 4 ee) (h : ∀ i, i < b → exS l3_look_web (envL m xs (.dat (.int (0 + (i : Nat))))) = .nx (envL m xs (.dat (.int (0 + (i : Nat)))))) : f_look_web [webD m xs] = .exc 4 := by
  rw [look_run hm hl, List.range_eq_range', go_exc e xs.length 0 .none (by omega) (by omega) h]
theorem ix_nat {xs : List D} {i : Nat} {d : D} (h : xs[i]? = some d) : ixD (.list xs) (.int (0 + (i : Nat))) = .ok d := by
  show ofO (pix xs _) = _
  rw [pix_nn (by omega), show (0 + (i : Int)).toNat = i by omega, h]
  rfl
/-- a tie that is as it should be: k > 0 -> ahead of it one that is less -/
theorem l3_ok {m : Int} {xs : List D} {i : Nat} {t : Tie} (h : xs[i]? = some (tieD t)) (h1 : tie1 m t = true) (h2 : ∀ j, i = j + 1 → ∃ s, xs[j]? = some (tieD s) ∧ ltB s t = true) : exS l3_look_web (envL m xs (.dat (.int (0 + (i : Nat))))) = .nx (envL m xs (.dat (.int (0 + (i : Nat))))) := by
  have e1 := x1_tie (m := m) (ix_nat h)
  rw [h1] at e1
  cases i with
  | zero =>
    rw [l3_run e1 (fun _ => x2_zero)]
    rfl
  | succ j =>
    obtain ⟨s, q1, q2⟩ := h2 j rfl
    have e2 := x2_tie (m := m) (xs := xs) (k := 0 + ((j + 1 : Nat) : Int)) (s := s) (t := t) (by omega) (by rw [show 0 + ((j + 1 : Nat) : Int) - 1 = 0 + (j : Int) by omega]; exact ix_nat q1) (ix_nat h)
    rw [q2] at e2
    rw [l3_run e1 (fun _ => e2)]
    rfl
theorem l3_bad {m : Int} {xs : List D} {i : Nat} {t : Tie} (h : xs[i]? = some (tieD t)) (h1 : tie1 m t = false) : ∃ ee, exS l3_look_web (envL m xs (.dat (.int (0 + (i : Nat))))) = .exc 4 ee := by
  have e1 := x1_tie (m := m) (ix_nat h)
  rw [h1] at e1
  refine ⟨envL m xs (.dat (.int (0 + (i : Nat)))), ?_⟩
  rw [l3_run (b2 := true) e1 (fun z => by cases z)]
  rfl
theorem l3_pair {m : Int} {xs : List D} {i : Nat} {a b : Int} (h : xs[i]? = some (.tuple [.int a, .int b])) : ∃ ee, exS l3_look_web (envL m xs (.dat (.int (0 + (i : Nat))))) = .exc 4 ee := by
  refine ⟨envL m xs (.dat (.int (0 + (i : Nat)))), ?_⟩
  rw [l3_run (b2 := true) (x1_pair (ix_nat h)) (fun z => by cases z)]
  rfl
theorem l3_fall {m : Int} {xs : List D} {j : Nat} {s t : Tie} (h0 : xs[j]? = some (tieD s)) (h : xs[j + 1]? = some (tieD t)) (h1 : ltB s t = false) : ∃ ee, exS l3_look_web (envL m xs (.dat (.int (0 + ((j + 1 : Nat) : Int))))) = .exc 4 ee := by
  refine ⟨envL m xs (.dat (.int (0 + ((j + 1 : Nat) : Int)))), ?_⟩
  have e2 := x2_tie (m := m) (xs := xs) (k := 0 + ((j + 1 : Nat) : Int)) (s := s) (t := t) (by omega) (by rw [show 0 + ((j + 1 : Nat) : Int) - 1 = 0 + (j : Int) by omega]; exact ix_nat h0) (ix_nat h)
  rw [h1] at e2
  rw [l3_run (x1_tie (ix_nat h)) (fun _ => e2)]
  rw [if_pos (.inr rfl)]
theorem tie1_of {m : Int} {ts : List Tie} (h : Ties m ts) {t : Tie} (ht : t ∈ ts) : tie1 m t = true := by
  have := h.each t ht
  simp [tie1, this.1, this.2.1, this.2.2.1, this.2.2.2.1, this.2.2.2.2]
theorem ltB_of {s t : Tie} (h : Tie.lt s t) : ltB s t = true := by
  rcases h with h | ⟨h1, h2⟩
  · simp [ltB, h]
  · simp [ltB, h1, h2]
theorem ltB_asymm {s t : Tie} (h : Tie.lt s t) : ltB t s = false := by
  unfold Tie.lt at h
  simp [ltB]
  omega
theorem up_get {ts : List Tie} (h : ts.Pairwise Tie.lt) {i j : Nat} {s t : Tie} (hij : i < j) (hs : ts[i]? = some s) (ht : ts[j]? = some t) : Tie.lt s t := by
  obtain ⟨h1, e1⟩ := List.getElem?_eq_some_iff.mp hs
  obtain ⟨h2, e2⟩ := List.getElem?_eq_some_iff.mp ht
  rw [← e1, ← e2]
  exact List.pairwise_iff_getElem.mp h i j h1 h2 hij
/-- the turns among the ties as they are, where the list agrees with them -/
theorem l3_same {m : Int} {ts : List Tie} (h : Ties m ts) {xs : List D} {n : Nat} (hx : ∀ i, i < n → xs[i]? = (ts.map tieD)[i]?) (hn : n ≤ ts.length) : ∀ i, i < n → exS l3_look_web (envL m xs (.dat (.int (0 + (i : Nat))))) = .nx (envL m xs (.dat (.int (0 + (i : Nat))))) := fun i hi => by
  have hg : ts[i]? = some ts[i] := List.getElem?_eq_getElem (by omega)
  refine l3_ok (t := ts[i]) (by rw [hx i hi, List.getElem?_map, hg]; rfl) (tie1_of h (List.getElem_mem _)) fun j hj => ?_
  have hg2 : ts[j]? = some ts[j] := List.getElem?_eq_getElem (by omega)
  exact ⟨ts[j], by rw [hx j (by omega), List.getElem?_map, hg2]; rfl, ltB_of (up_get h.up (by omega) hg2 hg)⟩
theorem look_ok {m : Int} {ts : List Tie} (hm : 0 ≤ m ∧ m ≤ 8) (h : Ties m ts) (hl : ts.length ≤ 100) : f_look_web [webD m (ts.map tieD)] = .ok .none :=
  look_none hm (by rw [List.length_map]; omega) fun i hi => l3_same h (n := ts.length) (fun _ _ => rfl) (Nat.le_refl _) i (by rw [List.length_map] at hi; exact hi)
end Rwl

set_option Elab.async false
set_option linter.all false
set_option maxRecDepth 100000
set_option maxHeartbeats 1000000
namespace Rwl
open PySem TL
/-! ### words that are numbers -/
def dig (c : Nat) : Bool := decide (48 ≤ c) && decide (c ≤ 57)
/-- at most three figures without noughts ahead -/
def numB (l : List Nat) : Bool := decide (1 ≤ l.length) && decide (l.length ≤ 3) && l.all dig && (decide (l.length = 1) || decide (l.head? ≠ some 48))
def okW (w : Str) : Bool := numB (tl w)
def valW (w : Str) : Int := (NumText.digitsVal (tl w) : Nat)
theorem all_dig {l : List Nat} (h : l.all dig = true) : NumText.AllDigits l := fun c hc => by
  have := List.all_eq_true.mp h c hc
  unfold dig at this
  simpa using this
theorem int_word {w : Str} (h1 : 1 ≤ (tl w).length) (h3 : (tl w).length ≤ 3) (h : (tl w).all dig = true) : intText? w = some (valW w) := by
  have := intText_digits (x := w) (all_dig h) (fun e => by
    have e : (tl w) = [] := e
    rw [e] at h1; exact absurd h1 (by decide)) (by rw [len_tl]; omega)
  exact this
/-- written again -/
theorem num_back {l : List Nat} (h1 : 1 ≤ l.length) (h3 : l.length ≤ 3) (h : l.all dig = true) : (numL (NumText.digitsVal l) = l) ↔ (l.length = 1 ∨ l.head? ≠ some 48) := by
  match l, h1, h3 with
  | [a], _, _ =>
    have ha := List.all_eq_true.mp h a (by simp)
    unfold dig at ha
    simp at ha
    have e : NumText.digitsVal [a] = a - 48 := by simp [NumText.digitsVal]
    rw [e, numL_lt (by omega)]
    simp
    omega
  | [a, b], _, _ =>
    have ha := List.all_eq_true.mp h a (by simp)
    have hb := List.all_eq_true.mp h b (by simp)
    unfold dig at ha hb
    simp at ha hb
    have e : NumText.digitsVal [a, b] = (a - 48) * 10 + (b - 48) := by simp [NumText.digitsVal]
    rw [e]
    by_cases h0 : a = 48
    · subst h0
      rw [numL_lt (by omega)]
      simp
    · rw [numL_step (by omega), numL_lt (by omega)]
      simp [h0]
      omega
  | [a, b, c], _, _ =>
    have ha := List.all_eq_true.mp h a (by simp)
    have hb := List.all_eq_true.mp h b (by simp)
    have hc := List.all_eq_true.mp h c (by simp)
    unfold dig at ha hb hc
    simp at ha hb hc
    have e : NumText.digitsVal [a, b, c] = ((a - 48) * 10 + (b - 48)) * 10 + (c - 48) := by simp [NumText.digitsVal]
    rw [e]
    by_cases h0 : a = 48
    · subst h0
      have hl := numL_len (n := ((48 - 48) * 10 + (b - 48)) * 10 + (c - 48)) (k := 2) (by decide) (by omega)
      constructor
      · intro q
        rw [q] at hl
        exact absurd hl (by simp)
      · intro q
        simp at q
    · rw [numL_step (by omega), numL_step (by omega), numL_lt (by omega)]
      simp [h0]
      omega
theorem numB_num {n : Nat} (h : n < 1000) : numB (numL n) = true := by
  have hl := numL_len (n := n) (k := 3) (by decide) (by omega)
  have h1 : 1 ≤ (numL n).length := List.length_pos_iff.mpr (numL_ne n)
  have ha : (numL n).all dig = true := List.all_eq_true.mpr fun c hc => by
    have := numL_digits n c hc
    unfold dig
    simp
    omega
  have hb := (num_back h1 hl ha).mp (by rw [numL_val])
  unfold numB
  simp only [Bool.and_eq_true, Bool.or_eq_true, decide_eq_true_eq]
  exact ⟨⟨⟨h1, hl⟩, ha⟩, hb⟩
def natS (n : Nat) : Str := Str.ofString (toString ((n : Nat) : Int))
theorem okW_num {n : Nat} (h : n < 1000) : okW (natS n) = true := by
  unfold okW natS
  rw [tl_num]
  exact numB_num h
theorem valW_num (n : Nat) : valW (natS n) = n := by
  unfold valW natS
  rw [tl_num, numL_val]
/-! ### texts cut -/
theorem spl_each (S : List Nat) : ∀ (l acc : List Nat) (k : Nat), ∀ p ∈ spl S k acc l, p.length ≤ acc.length + l.length
  | [], acc, k, p, hp => by
    rw [spl_nil] at hp
    rw [List.mem_singleton.mp hp]
    omega
  | c :: r, acc, 0, p, hp => by
    have hp : p ∈ (if pre S (c :: r) = true then acc :: spl S (S.length - 1) [] r else spl S 0 (acc ++ [c]) r) := hp
    split at hp
    · rcases List.mem_cons.mp hp with rfl | hp
      · omega
      · have := spl_each S r [] _ p hp
        simp only [List.length_nil, List.length_cons] at this ⊢
        omega
    · have := spl_each S r _ _ p hp
      simp only [List.length_append, List.length_cons, List.length_nil] at this ⊢
      omega
  | c :: r, acc, k + 1, p, hp => by
    have hp : p ∈ spl S k acc r := hp
    have := spl_each S r acc k p hp
    simp only [List.length_cons]
    omega
theorem spl_ne (S : List Nat) : ∀ (l acc : List Nat) (k : Nat), spl S k acc l ≠ []
  | [], acc, k => by rw [spl_nil]; simp
  | c :: r, acc, 0 => by
    show (if pre S (c :: r) = true then acc :: spl S (S.length - 1) [] r else spl S 0 (acc ++ [c]) r) ≠ []
    split
    · simp
    · exact spl_ne S r _ _
  | c :: r, acc, k + 1 => spl_ne S r acc k
theorem spl_count (S : List Nat) : ∀ (l acc : List Nat) (k : Nat), (spl S k acc l).length ≤ l.length + 1
  | [], acc, k => by rw [spl_nil]; simp
  | c :: r, acc, 0 => by
    show (if pre S (c :: r) = true then acc :: spl S (S.length - 1) [] r else spl S 0 (acc ++ [c]) r).length ≤ _
    split
    · have := spl_count S r [] (S.length - 1)
      simp only [List.length_cons]
      omega
    · have := spl_count S r (acc ++ [c]) 0
      simp only [List.length_cons]
      omega
  | c :: r, acc, k + 1 => by
    have := spl_count S r acc k
    show (spl S k acc r).length ≤ _
    simp only [List.length_cons]
    omega
structure Sep (y : Str) : Prop where
  ne : tl y ≠ []
  kd : y.cps.all (· < 256) = true
theorem split_tl (x : Str) {y : Str} (h : Sep y) : (Txt.split x y).map tl = spl (tl y) 0 [] (tl x) := split_spl x y h.ne (kind_ok h.kd)
theorem split_each {x y : Str} (h : Sep y) : ∀ p ∈ Txt.split x y, p.length ≤ x.length := fun p hp => by
  have := spl_each (tl y) (tl x) [] 0 (tl p) (by rw [← split_tl x h]; exact List.mem_map.mpr ⟨p, hp, rfl⟩)
  rw [len_tl, len_tl]
  simpa using this
theorem split_ne {x y : Str} (h : Sep y) : Txt.split x y ≠ [] := fun e => by
  have := split_tl x h
  rw [e] at this
  exact spl_ne _ _ _ _ this.symm
theorem split_count {x y : Str} (h : Sep y) : (Txt.split x y).length ≤ x.length + 1 := by
  have := spl_count (tl y) (tl x) [] 0
  rw [← split_tl x h, List.length_map] at this
  rw [len_tl x]
  exact this
theorem sep_nl : Sep "\n" := ⟨by decide +kernel, by decide +kernel⟩
theorem sep_sp : Sep " " := ⟨by decide +kernel, by decide +kernel⟩
theorem sep_hy : Sep "-" := ⟨by decide +kernel, by decide +kernel⟩
end Rwl

set_option Elab.async false
set_option linter.all false
set_option maxRecDepth 100000
set_option maxHeartbeats 1000000
namespace Rwl
open PySem TL
/-! ### numbers in words -/
def outR : Out → Res D
  | .ret d => .ok d
  | .nx _ => .ok .none
  | .exc c _ => .exc c
  | _ => .bad
theorem run1 {b : S} {n : Nat} {x : D} {o : Out} (h : exS b ([Slot.dat x] ++ List.replicate (n - 1) .none) = o) : run 1 n b [x] = outR o := by
  rw [← h]
  unfold run
  show (match exS b ([Slot.dat x] ++ List.replicate (n - 1) .none) with
    | .ret d => Res.ok d
    | .nx _ => .ok .none
    | .exc c _ => .exc c
    | _ => .bad) = _
  cases exS b ([Slot.dat x] ++ List.replicate (n - 1) .none) <;> rfl
theorem or3c {env : Env} {a b c : E} {p q r : Bool} (ha : evT env a = .ok p) (hb : p = false → evT env b = .ok q) (hc : p = false → q = false → evT env c = .ok r) : evT env (.or (.cons a (.cons b (.cons c .nil)))) = .ok (p || q || r) := by
  rw [evT_or, evTOr_cons, ha, bind_ok]
  cases p with
  | true => rfl
  | false =>
    dsimp only
    rw [evTOr_cons, hb rfl, bind_ok]
    cases q with
    | true => rfl
    | false => dsimp only; rw [evTOr_one, hc rfl rfl]; rfl
theorem or4c {env : Env} {a b c d : E} {p q r s : Bool} (ha : evT env a = .ok p) (hb : p = false → evT env b = .ok q) (hc : p = false → q = false → evT env c = .ok r) (hd : p = false → q = false → r = false → evT env d = .ok s) : evT env (.or (.cons a (.cons b (.cons c (.cons d .nil))))) = .ok (p || q || r || s) := by
  rw [evT_or, evTOr_cons, ha, bind_ok]
  cases p with
  | true => rfl
  | false =>
    dsimp only
    rw [evTOr_cons, hb rfl, bind_ok]
    cases q with
    | true => rfl
    | false =>
      dsimp only
      rw [evTOr_cons, hc rfl rfl, bind_ok]
      cases r with
      | true => rfl
      | false => dsimp only; rw [evTOr_one, hd rfl rfl rfl]; rfl
theorem eq_str (a b : Str) : eqD (.str a) (.str b) = .ok (decide (a = b)) := by
  show req (dep 8 (.str a) && dep 8 (.str b)) (.ok (PyData.eqv (.str a) (.str b))) = _
  show Res.ok (PyData.eqv (.str a) (.str b)) = _
  congr 1
theorem str_eq {a b : Str} : a = b ↔ tl a = tl b := ⟨fun h => by rw [h], ext_tl⟩
theorem tl_digs : tl "0123456789" = [48, 49, 50, 51, 52, 53, 54, 55, 56, 57] := by decide +kernel
theorem dig_mem (c : Nat) : decide (c ∈ tl "0123456789") = dig c := by
  rw [tl_digs]
  unfold dig
  rw [Bool.eq_iff_iff]
  simp
  omega
theorem lc_dig {env : Env} {i j : Nat} {w : Str} {e : E} (hw : evE env (.var i) = .ok (.str w)) (hl : w.length ≤ lim) (hv : ∀ d, (evE ((env.wipe [j]).set j (.dat d)) (.cmp .inn (.var j) e)) = (inD d (.str "0123456789")).bind fun k => .ok (.bool k)) :
    evE env (.lc [j] ⟨false, [j]⟩ (.var i) .nop (.cmp .inn (.var j) e)) = .ok (.list (((tl w).map dig).map .bool)) := by
  have turn : ∀ c ∈ tl w, lcTurn env [j] ⟨false, [j]⟩ .nop (.cmp .inn (.var j) e) (.str ⟨#[c]⟩) = .ok (some (.bool (dig c))) := fun c hc => by
    show (evE ((env.wipe [j]).set j (.dat (.str ⟨#[c]⟩))) (.cmp .inn (.var j) e)).bind (fun y => Res.ok (some y)) = _
    rw [hv]
    show ((Res.ok (decide (c ∈ tl "0123456789"))).bind fun k => Res.ok (PyData.bool k)).bind (fun y => Res.ok (some y)) = _
    rw [dig_mem]
    rfl
  have hi : evI env (.var i) = .ok ((tl w).map fun c => PyData.str ⟨#[c]⟩) := by
    rw [evI_var, hw]
    show req (decide (w.length ≤ lim)) _ = _
    rw [decide_eq_true hl]
    rfl
  rw [evE_lc, hi, bind_ok, List.length_map, ← len_tl, decide_eq_true hl, req_true, lcRun_map (h := fun c => PyData.bool (dig c)) turn, bind_ok, List.map_map]
  rfl
theorem bi_all (bs : List Bool) : bi .all [.list (bs.map .bool)] = .ok (.bool (bs.all id)) := by show (ofO (bolL _)).bind _ = _; rw [bolL_map]; rfl
theorem all_map (l : List Nat) : (l.map dig).all id = l.all dig := by rw [List.all_map]; rfl
theorem len_str {w : Str} (h : w.length ≤ lim) : bi .len [.str w] = .ok (.int w.length) := by
  show req (decide (w.length ≤ lim)) _ = _
  rw [decide_eq_true h]
  rfl
/-- the program's look at a word -/
theorem x0_number {w : Str} (hl : w.length ≤ lim) : evB [Slot.dat (.str w), .none] x0_number_in = .ok (!okW w) := by
  rw [evB_plain rfl]
  have hlen := len_str hl
  unfold x0_number_in
  have key : (!(decide (1 ≤ w.length) && decide (w.length ≤ 3)) || !((tl w).all dig) || (decide ((tl w).head? = some 48) && decide (tl w ≠ [48]))) = !okW w := by
    unfold okW numB
    rw [len_tl]
    rcases htl : tl w with _ | ⟨a, l⟩
    · rfl
    · by_cases ha : a = 48
      · subst ha
        cases l with
        | nil => simp
        | cons b r => cases (48 :: b :: r).all dig <;> simp
      · cases (a :: l).all dig <;> simp [ha]
  rw [← key]
  refine or3c ?_ (fun _ => ?_) fun h1 h2 => ?_
  · rw [evT_not, evT_ch2, evE_ch2]
    show (((Res.ok (PyData.int 1)).bind fun x => (bi .len [.str w]).bind fun y => (Cm.le.run x y).bind fun k => match k with
      | false => .ok (.bool false)
      | true => (Res.ok (PyData.int 3)).bind fun z => (Cm.le.run y z).bind fun k => .ok (.bool k)).bind tru).bind (fun b => .ok !b) = _
    rw [bind_ok, hlen, bind_ok]
    show (((Res.ok (decide ((1 : Int) ≤ w.length))).bind fun k => match k with
      | false => .ok (.bool false)
      | true => (Res.ok (PyData.int 3)).bind fun z => (Cm.le.run (.int w.length) z).bind fun k => .ok (.bool k)).bind tru).bind (fun b => .ok !b) = _
    have e1 : decide ((1 : Int) ≤ w.length) = decide (1 ≤ w.length) := by rw [decide_eq_decide]; omega
    have e2 : decide ((w.length : Int) ≤ 3) = decide (w.length ≤ 3) := by rw [decide_eq_decide]; omega
    rw [e1, bind_ok]
    cases decide (1 ≤ w.length) with
    | false => rfl
    | true =>
      show Res.ok (!decide ((w.length : Int) ≤ 3)) = _
      rw [e2]
      rfl
  · rw [evT_not, evT_bi, evE_bi, evL_cons, lc_dig (w := w) rfl hl (fun d => rfl), bind_ok, evL_nil, bind_ok, bind_ok, bi_all, all_map]
    rfl
  · have hw1 : 1 ≤ w.length := by
      apply Classical.byContradiction
      intro hn
      rw [decide_eq_false hn] at h1
      cases h1
    rw [len_tl] at hw1
    rcases htl : tl w with _ | ⟨a, l⟩
    · rw [htl] at hw1; exact absurd hw1 (by simp)
    · have hix : ixD (.str w) (.int 0) = .ok (.str ⟨#[a]⟩) := by
        show req (decide (w.length ≤ lim)) ((ofO (pix (tl w) 0)).bind fun c => Res.ok (PyData.str ⟨#[c]⟩)) = _
        rw [decide_eq_true hl, htl]
        rfl
      have e1 : decide ((⟨#[a]⟩ : Str) = "0") = decide ((a :: l).head? = some 48) := by
        rw [decide_eq_decide, str_eq]
        show [a] = [48] ↔ some a = some 48
        simp
      have e2 : decide (w = "0") = decide (a :: l = [48]) := by
        rw [decide_eq_decide, str_eq, htl]
        show a :: l = [48] ↔ _
        rfl
      show evTAnd [Slot.dat (.str w), .none] (.cons (.cmp .eq (.ix (.var 0) (.int 0)) (.str "0")) (.cons (.cmp .ne (.var 0) (.str "0")) .nil)) = _
      rw [evTAnd_cons]
      show ((ixD (.str w) (.int 0)).bind fun x => eqD x (.str "0")).bind _ = _
      rw [hix, bind_ok, eq_str, bind_ok, e1]
      cases decide ((a :: l).head? = some 48) with
      | false => rfl
      | true =>
        show (eqD (.str w) (.str "0")).nott = _
        rw [eq_str, nott_ok, e2]
        simp
theorem int_str {w : Str} (h : okW w = true) : bi .int [.str w] = .ok (.int (valW w)) := by
  unfold okW numB at h
  simp only [Bool.and_eq_true, decide_eq_true_eq] at h
  obtain ⟨⟨⟨h1, h3⟩, ha⟩, _⟩ := h
  show req (decide (w.length ≤ 640)) ((ofO (intText? w)).bind fun n => Res.ok (PyData.int n)) = _
  rw [decide_eq_true (by rw [len_tl]; omega), int_word h1 h3 ha]
  rfl
def numR (w : Str) : Res D := if okW w = true then .ok (.int (valW w)) else .exc 3
theorem number_in_is {w : Str} (hl : w.length ≤ lim) : f_number_in [.str w] = numR w := by
  have h0 := x0_number hl
  unfold f_number_in numR
  cases hok : okW w with
  | false =>
    rw [hok] at h0
    refine (run1 (o := .exc 3 [Slot.dat (.str w), .none]) ?_).trans rfl
    show exS b_number_in [Slot.dat (.str w), .none] = _
    unfold b_number_in
    rw [exS_cons, exS_ifs, h0]
    rfl
  | true =>
    rw [hok] at h0
    refine (run1 (o := .ret (.int (valW w))) ?_).trans rfl
    show exS b_number_in [Slot.dat (.str w), .none] = _
    unfold b_number_in
    rw [exS_cons, exS_ifs, h0]
    have v : evR [Slot.dat (.str w), .none] x1_number_in = .ok (.int (valW w)) := by
      rw [evR_plain rfl]
      show bi .int [.str w] = _
      exact int_str hok
    show (exS (.cons (.ret x1_number_in) .nil) [Slot.dat (.str w), .none]) = _
    rw [exS_cons, exS_ret, v]
    rfl
end Rwl

set_option Elab.async false
set_option linter.all false
set_option maxRecDepth 100000
set_option maxHeartbeats 1000000
namespace Rwl
open PySem TL
/-! ### the law's numbers -/
theorem x0_numbers {w : Str} (hl : w.length ≤ lim) (s0 : D) (s1 : List D) (s3 : Slot) : evB [Slot.dat s0, .own s1, .dat (.str w), s3] x0_law_numbers = .ok (!okW w) := by
  refine evB_ok ?_
  rw [frz_cons, frz_cons, frz_cons, frz_cons, frz_nil, frz_dat, frz_own, frz_dat]
  have hlen := len_str hl
  have key : (decide (tl w = []) || decide (3 < w.length) || !((tl w).all dig) || !decide (numL (NumText.digitsVal (tl w)) = tl w)) = !okW w := by
    unfold okW numB
    rw [len_tl]
    generalize tl w = l
    by_cases h0 : l = []
    · simp [h0]
    · have h1 : 1 ≤ l.length := List.length_pos_iff.mpr h0
      by_cases h3 : l.length ≤ 3
      · cases ha : l.all dig with
        | false => simp
        | true =>
          have hb := num_back h1 h3 ha
          by_cases hn : numL (NumText.digitsVal l) = l
          · have q := hb.mp hn
            rw [decide_eq_false h0, decide_eq_false (by omega : ¬ 3 < l.length), decide_eq_true hn, decide_eq_true h1, decide_eq_true h3]
            rcases q with q | q
            · rw [decide_eq_true q]; rfl
            · rw [decide_eq_true q, Bool.or_true]; rfl
          · have q1 : ¬ l.length = 1 := fun z => hn (hb.mpr (.inl z))
            have q2 : ¬ l.head? ≠ some 48 := fun z => hn (hb.mpr (.inr z))
            rw [decide_eq_false hn, decide_eq_false q1, decide_eq_false q2, decide_eq_true h1, decide_eq_true h3, decide_eq_false h0, decide_eq_false (by omega : ¬ 3 < l.length)]
            rfl
      · rw [decide_eq_true (by omega : 3 < l.length), decide_eq_false h3, decide_eq_false h0, decide_eq_true h1]
        cases l.all dig <;> simp
  rw [← key]
  unfold x0_law_numbers
  refine or4c ?_ (fun _ => ?_) (fun h1 h2 => ?_) fun h1 h2 h3 => ?_
  · show eqD (.str w) (.str "") = _
    rw [eq_str]
    congr 1
    rw [decide_eq_decide, str_eq]
    show tl w = [] ↔ _
    rfl
  · show (bi .len [.str w]).bind (fun x => Cm.gt.run x (.int 3)) = _
    rw [hlen, bind_ok]
    show Res.ok (decide ((3 : Int) < w.length)) = _
    congr 1
    rw [decide_eq_decide]
    omega
  · rw [evT_not, evT_bi, evE_bi, evL_cons, lc_dig (w := w) rfl hl (fun d => rfl), bind_ok, evL_nil, bind_ok, bind_ok, bi_all, all_map]
    rfl
  · have q1 : 1 ≤ (tl w).length := by
      have : ¬ tl w = [] := of_decide_eq_false h1
      exact List.length_pos_iff.mpr this
    have q3 : (tl w).length ≤ 3 := by
      have := of_decide_eq_false h2
      rw [len_tl] at this
      omega
    have qa : (tl w).all dig = true := by simpa using h3
    have hi : bi .int [.str w] = .ok (.int (valW w)) := by
      show req (decide (w.length ≤ 640)) ((ofO (intText? w)).bind fun n => Res.ok (PyData.int n)) = _
      rw [decide_eq_true (by rw [len_tl]; omega), int_word q1 q3 qa]
      rfl
    have hs : bi .str [.int (valW w)] = .ok (.str (natS (NumText.digitsVal (tl w)))) := by
      show req (decide ((valW w).natAbs < 2 ^ 1000)) _ = _
      rw [decide_eq_true ?_]
      · rfl
      · have hb : ∀ (l : List Nat) (a : Nat), l.all dig = true → l.foldl (fun acc c => acc * 10 + (c - 48)) a < (a + 1) * 10 ^ l.length := fun l => by
          induction l with
          | nil => intro a _; simp
          | cons c r ih =>
            intro a h
            rw [List.all_cons, Bool.and_eq_true] at h
            have hc := h.1
            unfold dig at hc
            simp at hc
            have := ih (a * 10 + (c - 48)) h.2
            rw [List.foldl_cons, List.length_cons, Nat.pow_succ]
            refine Nat.lt_of_lt_of_le this ?_
            have : a * 10 + (c - 48) + 1 ≤ (a + 1) * 10 := by omega
            calc (a * 10 + (c - 48) + 1) * 10 ^ r.length ≤ (a + 1) * 10 * 10 ^ r.length := Nat.mul_le_mul_right _ this
              _ = (a + 1) * (10 ^ r.length * 10) := by rw [Nat.mul_assoc, Nat.mul_comm 10]
        have := hb (tl w) 0 qa
        have h10 : 10 ^ (tl w).length ≤ 10 ^ 3 := Nat.pow_le_pow_right (by decide) q3
        have hv : (valW w).natAbs = NumText.digitsVal (tl w) := by unfold valW; omega
        rw [hv]
        have : NumText.digitsVal (tl w) < (0 + 1) * 10 ^ (tl w).length := this
        have h2 : (1000 : Nat) < 2 ^ 1000 := Nat.lt_of_lt_of_le (by decide : 1000 < 2 ^ 10) (Nat.pow_le_pow_right (by decide) (by decide))
        omega
    show (((bi .int [.str w]).bind fun x => (Res.ok []).bind fun xs => Res.ok (x :: xs)).bind (bi .str) |>.bind fun x => Cm.ne.run x (.str w)) = _
    rw [hi]
    show (bi .str [.int (valW w)]).bind (fun x => Cm.ne.run x (.str w)) = _
    rw [hs, bind_ok, run_ne, eq_str, nott_ok]
    congr 2
    rw [decide_eq_decide, str_eq]
    unfold natS
    rw [tl_num]
def envN (W : D) (fs : List Int) (s2 s3 : Slot) : Env := [.dat W, .own (fs.map .int), s2, s3]
abbrev turnN (d : D) (env : Env) : Out := ((⟨false, [2]⟩ : Tg).run env d).out env (exS l2_law_numbers)
theorem numbers_loop (W : D) : ∀ (ws : List Str) (fs : List Int) (s2 s3 : Slot), (∀ w ∈ ws, w.length ≤ lim) → fs.length + ws.length < lim →
    if ws.all okW = true then ∃ s2' s3', forGo turnN (ws.map .str) (envN W fs s2 s3) = .nx (envN W (fs ++ ws.map valW) s2' s3') else forGo turnN (ws.map .str) (envN W fs s2 s3) = .ret .none
  | [], fs, s2, s3, _, _ => ⟨s2, s3, by rw [List.map_nil, List.map_nil, List.append_nil]; rfl⟩
  | w :: r, fs, s2, s3, hw, hl => by
    have hwl := hw w List.mem_cons_self
    have h0 := x0_numbers hwl W (fs.map .int) s3
    rw [List.all_cons]
    have step : forGo turnN ((w :: r).map .str) (envN W fs s2 s3) = (exS l2_law_numbers (envN W fs (.dat (.str w)) s3)).turn (forGo turnN (r.map .str)) := rfl
    rw [step]
    cases hok : okW w with
    | false =>
      rw [hok] at h0
      rw [Bool.false_and, if_neg (by simp)]
      unfold l2_law_numbers
      rw [exS_cons, exS_ifs]
      show ((evB [Slot.dat W, .own (fs.map .int), .dat (.str w), s3] x0_law_numbers).out _ _ |>.seq _).turn _ = _
      rw [h0]
      rfl
    | true =>
      rw [hok] at h0
      have v : evV (envN W fs (.dat (.str w)) s3) x1_law_numbers = .ok (.int (valW w)) := by
        refine evV_scal ?_ rfl
        show bi .int [.str w] = _
        exact int_str hok
      have e := exS_app (i := 1) (env := envN W fs (.dat (.str w)) s3) rfl v (by rw [List.length_map]; omega)
      have e2 : exS l2_law_numbers (envN W fs (.dat (.str w)) s3) = .nx (envN W (fs ++ [valW w]) (.dat (.str w)) s3) := by
        unfold l2_law_numbers
        rw [exS_cons, exS_ifs, show evB (envN W fs (.dat (.str w)) s3) x0_law_numbers = .ok (!true) from h0, out_ok]
        show (Out.nx (envN W fs (.dat (.str w)) s3)).seq (exS (.cons (.app 1 x1_law_numbers) .nil)) = _
        rw [seq_nx, exS_cons, e, seq_nx, exS_nil]
        show Out.nx [Slot.dat W, .own (fs.map .int ++ [.int (valW w)]), .dat (.str w), s3] = _
        unfold envN
        rw [List.map_append]
        rfl
      rw [e2, turn_nx, Bool.true_and]
      have ih := numbers_loop W r (fs ++ [valW w]) (.dat (.str w)) s3 (fun u hu => hw u (List.mem_cons_of_mem _ hu)) (by rw [List.length_append, List.length_singleton]; rw [List.length_cons] at hl; omega)
      have el : fs ++ (w :: r).map valW = fs ++ [valW w] ++ r.map valW := by simp
      rw [el]
      exact ih
def numsD (ws : List Str) : D := if ws.all okW = true then .tuple ((ws.map valW).map .int) else .none
theorem numbers_is {ws : List Str} (hw : ∀ w ∈ ws, w.length ≤ lim) (hl : ws.length < lim) : f_law_numbers [.list (ws.map .str)] = .ok (numsD ws) := by
  have main := numbers_loop (.list (ws.map .str)) ws [] .none .none hw (by rw [List.length_nil]; omega)
  have start : exS (.new 1 (.lst .nil)) [Slot.dat (.list (ws.map .str)), .none, .none, .none] = .nx (envN (.list (ws.map .str)) [] .none .none) := rfl
  have hi : evI (envN (.list (ws.map .str)) [] .none .none) (.var 0) = .ok (ws.map .str) := rfl
  unfold f_law_numbers numsD
  cases hok : ws.all okW with
  | false =>
    rw [hok, if_neg (by simp)] at main
    refine (run1 (o := .ret .none) ?_).trans rfl
    show exS b_law_numbers [Slot.dat (.list (ws.map .str)), .none, .none, .none] = _
    unfold b_law_numbers
    rw [exS_cons, start, seq_nx, exS_cons, exS_forr, hi, out_ok, main]
    rfl
  | true =>
    rw [hok, if_pos rfl] at main
    obtain ⟨s2, s3, q⟩ := main
    rw [List.nil_append] at q
    refine (run1 (o := .ret (.tuple ((ws.map valW).map .int))) ?_).trans rfl
    show exS b_law_numbers [Slot.dat (.list (ws.map .str)), .none, .none, .none] = _
    unfold b_law_numbers
    have v : evR (envN (.list (ws.map .str)) (ws.map valW) s2 s3) x3_law_numbers = .ok (.tuple ((ws.map valW).map .int)) := evR_ok rfl
    rw [exS_cons, start, seq_nx, exS_cons, exS_forr, hi, out_ok, q, seq_nx, exS_cons, exS_ret, v]
    rfl
end Rwl

set_option Elab.async false
set_option linter.all false
set_option maxRecDepth 100000
set_option maxHeartbeats 1000000
namespace Rwl
open PySem TL
/-! ### a row, a text read -/
theorem split_D {x y : Str} (hx : x.length ≤ lim) (hy : (y.length == 0) = false) : msD .split x [.str y] = .ok (.list ((Txt.split x y).map .str)) := by
  show req (decide (x.length ≤ lim) && !(y.length == 0)) _ = _
  rw [decide_eq_true hx, hy]
  rfl
def tieR (row : Str) : Option Tie := match Txt.split row " " with
  | [p, q] => match Txt.split p "-" with
    | [a, b] => if (okW a && okW b && okW q) = true then some (valW a, valW b, valW q) else none
    | _ => none
  | _ => none
def tieO (row : Str) : Res D := match tieR row with
  | some t => .ok (tieD t)
  | none => .exc 3
theorem ne_len {α : Type} (l : List α) (k : Nat) : Cm.ne.run (.int (l.length : Int)) (.int (k : Int)) = .ok (!decide (l.length = k)) := by
  rw [run_ne, eq_int, nott_ok]
  congr 2
  rw [decide_eq_decide]
  omega
/-- words behind one another: the first that is none raises -/
theorem three {env : Env} {a b c : E} {x y z : Str} (hx : x.length ≤ lim) (hy : y.length ≤ lim) (hz : z.length ≤ lim) (ha : evL env a = .ok [.str x]) (hb : evL env b = .ok [.str y]) (hc : evL env c = .ok [.str z]) :
    evE env (.tup (.cons (.call 2 f_number_in a) (.cons (.call 2 f_number_in b) (.cons (.call 2 f_number_in c) .nil)))) = if (okW x && okW y && okW z) = true then .ok (tieD (valW x, valW y, valW z)) else .exc 3 := by
  rw [evE_tup, evL_cons, evE_call, ha, bind_ok, number_in_is hx, evL_cons, evE_call, hb, bind_ok, number_in_is hy, evL_cons, evE_call, hc, bind_ok, number_in_is hz, evL_nil]
  unfold numR
  cases okW x with
  | false => rfl
  | true =>
    cases okW y with
    | false => rfl
    | true =>
      cases okW z with
      | false => rfl
      | true => rfl
theorem tie_in_cut {row p : Str} {ps ends : List Str} (hl : row.length ≤ 10000) (hs : Txt.split row " " = p :: ps) (he : Txt.split p "-" = ends) :
    ((!decide ((p :: ps).length = 2) || !decide (ends.length = 2)) = true → f_tie_in [.str row] = .exc 3) ∧
    ∀ a b q, ps = [q] → ends = [a, b] → f_tie_in [.str row] = if (okW a && okW b && okW q) = true then .ok (tieD (valW a, valW b, valW q)) else .exc 3 := by
  have hlim : row.length ≤ lim := by unfold lim; omega
  have e0 := split_D (y := " ") hlim rfl
  have each := split_each (x := row) sep_sp
  rw [hs] at e0 each
  have hp : p.length ≤ lim := Nat.le_trans (each p List.mem_cons_self) hlim
  have e1 := split_D (y := "-") hp rfl
  have each2 := split_each (x := p) sep_hy
  rw [he] at e1 each2
  have v0 : evV [Slot.dat (.str row), .none, .none] x0_tie_in = .ok (.list ((p :: ps).map .str)) := by
    rw [evV_plain rfl]
    show msD .split row [.str " "] = _
    exact e0
  have v1 : evV [Slot.dat (.str row), .dat (.list ((p :: ps).map .str)), .none] x1_tie_in = .ok (.list (ends.map .str)) := by
    rw [evV_plain rfl]
    show msD .split p [.str "-"] = _
    exact e1
  have v2 : evB [Slot.dat (.str row), .dat (.list ((p :: ps).map .str)), .dat (.list (ends.map .str))] x2_tie_in = .ok (!decide ((p :: ps).length = 2) || !decide (ends.length = 2)) := by
    rw [evB_plain rfl]
    unfold x2_tie_in
    rw [evT_or, evTOr_cons]
    have a1 : evT [Slot.dat (.str row), .dat (.list ((p :: ps).map .str)), .dat (.list (ends.map .str))] (.cmp .ne (.bi .len (.cons (.var 1) .nil)) (.int 2)) = .ok (!decide ((p :: ps).length = 2)) := by
      have := ne_len ((p :: ps).map PyData.str) 2
      rw [List.length_map] at this
      rw [← this]
      show Cm.ne.run (.int (((p :: ps).map PyData.str).length : Int)) (.int 2) = _
      rw [List.length_map]
      rfl
    have a2 : evT [Slot.dat (.str row), .dat (.list ((p :: ps).map .str)), .dat (.list (ends.map .str))] (.cmp .ne (.bi .len (.cons (.var 2) .nil)) (.int 2)) = .ok (!decide (ends.length = 2)) := by
      have := ne_len (ends.map PyData.str) 2
      rw [List.length_map] at this
      rw [← this]
      show Cm.ne.run (.int ((ends.map PyData.str).length : Int)) (.int 2) = _
      rw [List.length_map]
      rfl
    rw [a1, bind_ok]
    cases decide ((p :: ps).length = 2) with
    | false => rfl
    | true =>
      show evTOr _ _ = _
      rw [evTOr_one, a2]
      rfl
  have pre : ∀ o : Out, (exS (.cons (.ifs x2_tie_in (.cons (.rai 3) .nil) (.nil)) <| .cons (.ret x3_tie_in) <| .nil) [Slot.dat (.str row), .dat (.list ((p :: ps).map .str)), .dat (.list (ends.map .str))] = o) → f_tie_in [.str row] = outR o := fun o h => by
    unfold f_tie_in
    refine run1 ?_
    show exS b_tie_in [Slot.dat (.str row), .none, .none] = _
    unfold b_tie_in
    rw [exS_cons, exS_asg, v0, out_ok, seq_nx, show ([Slot.dat (.str row), .none, .none] : Env).set 1 (.dat (.list ((p :: ps).map .str))) = [Slot.dat (.str row), .dat (.list ((p :: ps).map .str)), .none] from rfl]
    rw [exS_cons, exS_asg, v1, out_ok, seq_nx, show ([Slot.dat (.str row), .dat (.list ((p :: ps).map .str)), .none] : Env).set 2 (.dat (.list (ends.map .str))) = [Slot.dat (.str row), .dat (.list ((p :: ps).map .str)), .dat (.list (ends.map .str))] from rfl]
    exact h
  refine ⟨fun hb => ?_, fun a b q e1 e2 => ?_⟩
  · rw [hb] at v2
    refine (pre (.exc 3 [Slot.dat (.str row), .dat (.list ((p :: ps).map .str)), .dat (.list (ends.map .str))]) ?_).trans rfl
    rw [exS_cons, exS_ifs, v2]
    rfl
  · subst e1
    subst e2
    have ha : a.length ≤ lim := Nat.le_trans (each2 a (by simp)) hp
    have hb : b.length ≤ lim := Nat.le_trans (each2 b (by simp)) hp
    have hq : q.length ≤ lim := Nat.le_trans (each q (by simp)) hlim
    have v3 : evR [Slot.dat (.str row), .dat (.list ([p, q].map .str)), .dat (.list ([a, b].map .str))] x3_tie_in = if (okW a && okW b && okW q) = true then .ok (tieD (valW a, valW b, valW q)) else .exc 3 := by
      rw [evR_plain rfl]
      exact three ha hb hq rfl rfl rfl
    cases hok : (okW a && okW b && okW q) with
    | true =>
      rw [hok, if_pos rfl] at v3
      refine (pre (.ret (tieD (valW a, valW b, valW q))) ?_).trans rfl
      rw [exS_cons, exS_ifs, v2]
      show exS (.cons (.ret x3_tie_in) <| .nil) [Slot.dat (.str row), .dat (.list ([p, q].map .str)), .dat (.list ([a, b].map .str))] = _
      rw [exS_cons, exS_ret, v3]
      rfl
    | false =>
      rw [hok, if_neg (by simp)] at v3
      refine (pre (.exc 3 [Slot.dat (.str row), .dat (.list ([p, q].map .str)), .dat (.list ([a, b].map .str))]) ?_).trans rfl
      rw [exS_cons, exS_ifs, v2]
      show exS (.cons (.ret x3_tie_in) <| .nil) [Slot.dat (.str row), .dat (.list ([p, q].map .str)), .dat (.list ([a, b].map .str))] = _
      rw [exS_cons, exS_ret, v3]
      rfl
/-- a row by its words -/
def tieO2 (ps ends : List Str) : Option Tie := match ps with
  | [q] => match ends with
    | [a, b] => if (okW a && okW b && okW q) = true then some (valW a, valW b, valW q) else none
    | _ => none
  | _ => none
theorem tieR_cut {row p : Str} {ps : List Str} (hs : Txt.split row " " = p :: ps) : tieR row = tieO2 ps (Txt.split p "-") := by
  unfold tieR tieO2
  rw [hs]
  rcases ps with _ | ⟨q, _ | ⟨_, _⟩⟩ <;> rfl
theorem tieO2_bad {p : Str} {ps ends : List Str} (h : (!decide ((p :: ps).length = 2) || !decide (ends.length = 2)) = true) : tieO2 ps ends = none := by
  unfold tieO2
  rcases ps with _ | ⟨q, _ | ⟨_, _⟩⟩
  · rfl
  · rcases ends with _ | ⟨a, _ | ⟨b, _ | ⟨_, _⟩⟩⟩
    · rfl
    · rfl
    · exact absurd h (by simp)
    · rfl
  · rfl
theorem tieO2_good {p : Str} {ps ends : List Str} (h : (!decide ((p :: ps).length = 2) || !decide (ends.length = 2)) = false) : ∃ a b q, ps = [q] ∧ ends = [a, b] := by
  rcases ps with _ | ⟨q, _ | ⟨_, _⟩⟩
  · exact absurd h (by simp)
  · rcases ends with _ | ⟨a, _ | ⟨b, _ | ⟨_, _⟩⟩⟩
    · exact absurd h (by simp)
    · exact absurd h (by simp)
    · exact ⟨a, b, q, rfl, rfl⟩
    · exact absurd h (by simp)
  · exact absurd h (by simp)
theorem tie_in_is {row : Str} (hl : row.length ≤ 10000) : f_tie_in [.str row] = tieO row := by
  obtain ⟨p, ps, hs⟩ : ∃ p ps, Txt.split row " " = p :: ps := by
    have hne := split_ne (x := row) sep_sp
    cases h : Txt.split row " " with
    | nil => exact absurd h hne
    | cons p ps => exact ⟨p, ps, rfl⟩
  obtain ⟨h1, h2⟩ := tie_in_cut hl hs rfl
  unfold tieO
  rw [tieR_cut hs]
  cases hb : (!decide ((p :: ps).length = 2) || !decide ((Txt.split p "-").length = 2)) with
  | true => rw [h1 hb, tieO2_bad hb]
  | false =>
    obtain ⟨a, b, q, e1, e2⟩ := tieO2_good hb
    rw [h2 a b q e1 e2, e1, e2]
    unfold tieO2
    dsimp only
    cases (okW a && okW b && okW q) <;> rfl
/-! ### all rows -/
def tiesR : List Str → Option (List Tie)
  | [] => some []
  | r :: rs => match tieR r with
    | none => none
    | some t => match tiesR rs with
      | none => none
      | some ts => some (t :: ts)
def headS (r : Str) : Str := ⟨(cut (tl r) none (some 7)).toArray⟩
def restS (r : Str) : Str := ⟨(cut (tl r) (some 7) none).toArray⟩
theorem cut_le {α : Type} (xs : List α) (lo hi : Option Int) : (cut xs lo hi).length ≤ xs.length := by
  unfold cut
  rw [List.length_take, List.length_drop]
  omega
theorem rest_le (r : Str) : (restS r).length ≤ r.length := by
  rw [len_tl, len_tl]
  exact cut_le (tl r) _ _
theorem head_le (r : Str) : (headS r).length ≤ r.length := by
  rw [len_tl, len_tl]
  exact cut_le (tl r) _ _
def webR (t : Str) : Option (Int × List Tie) := match Txt.split t "\n" with
  | [] => none
  | r :: rs => if (decide (headS r = "places ") && okW (restS r)) = true then (tiesR rs).map fun ts => (valW (restS r), ts) else none
theorem lc_ties {f : D → Res (Option D)} : ∀ {rs : List Str}, (∀ r ∈ rs, f (.str r) = (tieO r).bind fun d => .ok (some d)) → lcRun f (rs.map .str) = match tiesR rs with
    | some ts => .ok (ts.map tieD)
    | none => .exc 3
  | [], _ => rfl
  | r :: rs, h => by
    have ih := lc_ties (f := f) (rs := rs) fun u hu => h u (List.mem_cons_of_mem _ hu)
    show (f (.str r)).bind (fun o => (lcRun f (rs.map .str)).bind fun ds => .ok (o.toList ++ ds)) = _
    rw [h r List.mem_cons_self]
    unfold tieO tiesR
    cases tieR r with
    | none => rfl
    | some t =>
      rw [ih]
      cases tiesR rs <;> rfl
end Rwl

set_option Elab.async false
set_option linter.all false
set_option maxRecDepth 100000
set_option maxHeartbeats 1000000
namespace Rwl
open PySem TL
/-! ### look_web at whatever was read -/
theorem l3_any {m : Int} {ts : List Tie} (i : Nat) (hi : i < ts.length) : exS l3_look_web (envL m (ts.map tieD) (.dat (.int (0 + (i : Nat))))) = .nx (envL m (ts.map tieD) (.dat (.int (0 + (i : Nat))))) ∨ ∃ ee, exS l3_look_web (envL m (ts.map tieD) (.dat (.int (0 + (i : Nat))))) = .exc 4 ee := by
  have hx : (ts.map tieD)[i]? = some (tieD ts[i]) := by rw [List.getElem?_map, List.getElem?_eq_getElem hi]; rfl
  cases h1 : tie1 m ts[i] with
  | false => exact .inr (l3_bad hx h1)
  | true =>
    cases i with
    | zero => exact .inl (l3_ok hx h1 fun j hj => absurd hj (by omega))
    | succ j =>
      have hj : j < ts.length := by omega
      have hx0 : (ts.map tieD)[j]? = some (tieD ts[j]) := by rw [List.getElem?_map, List.getElem?_eq_getElem hj]; rfl
      cases h2 : ltB ts[j] ts[j + 1] with
      | false => exact .inr (l3_fall hx0 hx h2)
      | true => exact .inl (l3_ok hx h1 fun j' hj' => by
          have : j' = j := by omega
          subst this
          exact ⟨_, hx0, h2⟩)
theorem look_total (m : Int) {ts : List Tie} (hl : ts.length ≤ 1000) : f_look_web [webD m (ts.map tieD)] = .ok .none ∨ f_look_web [webD m (ts.map tieD)] = .exc 4 := by
  by_cases hm : 0 ≤ m ∧ m ≤ 8
  · have hlen : (ts.map tieD).length ≤ 1000 := by rw [List.length_map]; exact hl
    have scan : ∀ n, n ≤ ts.length → (∀ i, i < n → exS l3_look_web (envL m (ts.map tieD) (.dat (.int (0 + (i : Nat))))) = .nx (envL m (ts.map tieD) (.dat (.int (0 + (i : Nat)))))) ∨
        ∃ b ee, b < n ∧ exS l3_look_web (envL m (ts.map tieD) (.dat (.int (0 + (b : Nat))))) = .exc 4 ee ∧ ∀ i, i < b → exS l3_look_web (envL m (ts.map tieD) (.dat (.int (0 + (i : Nat))))) = .nx (envL m (ts.map tieD) (.dat (.int (0 + (i : Nat))))) := fun n => by
      induction n with
      | zero => intro _; exact .inl fun i hi => absurd hi (by omega)
      | succ n ih =>
        intro hn
        rcases ih (by omega) with h | ⟨b, ee, h1, h2, h3⟩
        · rcases l3_any (m := m) n (by omega : n < ts.length) with q | ⟨ee, q⟩
          · left
            intro i hi
            by_cases e : i = n
            · subst e; exact q
            · exact h i (by omega)
          · exact .inr ⟨n, ee, by omega, q, h⟩
        · exact .inr ⟨b, ee, by omega, h2, h3⟩
    rcases scan ts.length (Nat.le_refl _) with h | ⟨b, ee, h1, h2, h3⟩
    · exact .inl (look_none hm hlen fun i hi => h i (by rw [List.length_map] at hi; exact hi))
    · exact .inr (look_exc hm hlen b (by rw [List.length_map]; exact h1) h2 h3)
  · exact .inr (look_m hm)
/-- a web -/
def isW (m : Int) (ts : List Tie) : Prop := f_look_web [webD m (ts.map tieD)] = .ok .none
theorem not_isW {m : Int} {ts : List Tie} (hl : ts.length ≤ 1000) (h : ¬ isW m ts) : f_look_web [webD m (ts.map tieD)] = .exc 4 := (look_total m hl).resolve_left h
theorem is_web_yes {w : D} (h : f_look_web [w] = .ok .none) : f_law_is_web [w] = .ok (.bool true) := by
  have v : evR [Slot.dat w, .dat .none, .none] x0_law_is_web = .ok .none := by
    rw [evR_plain rfl]
    exact h
  unfold f_law_is_web
  refine (run1 (o := .ret (.bool true)) ?_).trans rfl
  show exS b_law_is_web [Slot.dat w, .none, .none] = _
  unfold b_law_is_web
  rw [exS_cons, show exS (.asg 1 .non) [Slot.dat w, .none, .none] = .nx [Slot.dat w, .dat .none, .none] from rfl, seq_nx, exS_cons, exS_tryk, exS_cons, exS_drop, v]
  rfl
theorem is_web_no {w : D} (h : f_look_web [w] = .exc 4) : f_law_is_web [w] = .ok (.bool false) := by
  have v : evR [Slot.dat w, .dat .none, .none] x0_law_is_web = .exc 4 := by
    rw [evR_plain rfl]
    exact h
  unfold f_law_is_web
  refine (run1 (o := .ret (.bool false)) ?_).trans rfl
  show exS b_law_is_web [Slot.dat w, .none, .none] = _
  unfold b_law_is_web
  rw [exS_cons, show exS (.asg 1 .non) [Slot.dat w, .none, .none] = .nx [Slot.dat w, .dat .none, .none] from rfl, seq_nx, exS_cons, exS_tryk, exS_cons, exS_drop, v]
  rfl
/-! ### read -/
theorem tiesR_len : ∀ {rs : List Str} {ts : List Tie}, tiesR rs = some ts → ts.length = rs.length
  | [], ts, h => by cases h; rfl
  | r :: rs, ts, h => by
    unfold tiesR at h
    cases hr : tieR r with
    | none => rw [hr] at h; cases h
    | some t =>
      rw [hr] at h
      cases hrs : tiesR rs with
      | none => rw [hrs] at h; cases h
      | some us =>
        rw [hrs] at h
        cases h
        rw [List.length_cons, List.length_cons, tiesR_len hrs]
theorem head_slice {r : Str} (hl : r.length ≤ lim) : slD none (some 7) (.str r) = .ok (.str (headS r)) := by
  show req (decide (r.length ≤ lim)) _ = _
  rw [decide_eq_true hl]
  rfl
theorem rest_slice {r : Str} (hl : r.length ≤ lim) : slD (some 7) none (.str r) = .ok (.str (restS r)) := by
  show req (decide (r.length ≤ lim)) _ = _
  rw [decide_eq_true hl]
  rfl
theorem cut_one {α : Type} (x : α) (xs : List α) : cut (x :: xs) (some 1) none = xs := by
  unfold cut sI
  simp
def readO (t : Str) (r : Res D) : Prop := match webR t with
  | none => r = .exc 3
  | some (m, ts) => (isW m ts → r = .ok (webD m (ts.map tieD))) ∧ (¬ isW m ts → r = .exc 3)
theorem read_is {t : Str} (ht : t.length ≤ 900) : readO t (f_read [.str t]) := by
  have hlim : t.length ≤ lim := by unfold lim; omega
  have e0 := split_D (y := "\n") hlim rfl
  have each := split_each (x := t) sep_nl
  have cnt := split_count (x := t) sep_nl
  have hne := split_ne (x := t) sep_nl
  unfold readO webR
  generalize Txt.split t "\n" = rows at *
  rcases rows with _ | ⟨r, rs⟩
  · exact absurd rfl hne
  rw [List.length_cons] at cnt
  have hr : r.length ≤ 900 := Nat.le_trans (each r List.mem_cons_self) ht
  have hrl : r.length ≤ lim := by unfold lim; omega
  have v0 : evV [Slot.dat (.str t), .none, .none, .none, .none, .none] x0_read = .ok (.list ((r :: rs).map .str)) := by
    rw [evV_plain rfl]
    show msD .split t [.str "\n"] = _
    exact e0
  have v1 : evB [Slot.dat (.str t), .dat (.list ((r :: rs).map .str)), .none, .none, .none, .none] x1_read = .ok (!decide (headS r = "places ")) := by
    rw [evB_plain rfl]
    show (slD none (some 7) (.str r)).bind (fun x => Cm.ne.run x (.str "places ")) = _
    rw [head_slice hrl, bind_ok, run_ne, eq_str]
    rfl
  have pre : ∀ o : Out, ((exS (.ifs x1_read (.cons (.rai 3) .nil) (.nil)) [Slot.dat (.str t), .dat (.list ((r :: rs).map .str)), .none, .none, .none, .none]).seq (exS (.cons (.asg 2 x2_read) <| .cons (.asg 4 .non) <| .cons (.tryk (.cons (.drop x3_read) .nil) 4 4 5) <| .cons (.ifs x4_read (.cons (.rai 3) .nil) (.nil)) <| .cons (.ret (.var 2)) <| .nil)) = o) → f_read [.str t] = outR o := fun o h => by
    unfold f_read
    refine run1 ?_
    show exS b_read [Slot.dat (.str t), .none, .none, .none, .none, .none] = _
    unfold b_read
    rw [exS_cons, exS_asg, v0, out_ok, seq_nx, show ([Slot.dat (.str t), .none, .none, .none, .none, .none] : Env).set 1 (.dat (.list ((r :: rs).map .str))) = [Slot.dat (.str t), .dat (.list ((r :: rs).map .str)), .none, .none, .none, .none] from rfl, exS_cons]
    exact h
  dsimp only
  cases hh : decide (headS r = "places ") with
  | false =>
    rw [hh] at v1
    rw [Bool.false_and, if_neg (by simp)]
    show f_read [.str t] = .exc 3
    refine (pre (.exc 3 [Slot.dat (.str t), .dat (.list ((r :: rs).map .str)), .none, .none, .none, .none]) ?_).trans rfl
    rw [exS_ifs, v1]
    rfl
  | true =>
    rw [hh] at v1
    rw [Bool.true_and]
    have hrest : (restS r).length ≤ lim := Nat.le_trans (rest_le r) hrl
    have hnum := number_in_is hrest
    -- the pair that is read
    have turn : ∀ u ∈ rs, lcTurn [Slot.dat (.str t), .dat (.list ((r :: rs).map .str)), .none, .none, .none, .none] [3] ⟨false, [3]⟩ .nop (.call 3 f_tie_in (.cons (.var 3) .nil)) (.str u) = (tieO u).bind fun d => .ok (some d) := fun u hu => by
      have hul : u.length ≤ 10000 := by have := each u (List.mem_cons_of_mem _ hu); omega
      rw [← tie_in_is hul]
      rfl
    have hlc : evE [Slot.dat (.str t), .dat (.list ((r :: rs).map .str)), .none, .none, .none, .none] (.lc [3] ⟨false, [3]⟩ (.sl (.var 1) (.int 1) .nop) .nop (.call 3 f_tie_in (.cons (.var 3) .nil))) = match tiesR rs with
        | some ts => .ok (.list (ts.map tieD))
        | none => .exc 3 := by
      have hi : evI [Slot.dat (.str t), .dat (.list ((r :: rs).map .str)), .none, .none, .none, .none] (.sl (.var 1) (.int 1) .nop) = .ok (rs.map .str) := by
        rw [evI_sl]
        show (Res.ok (PyData.list (cut ((r :: rs).map PyData.str) (some 1) none))).bind seqOf = _
        rw [List.map_cons, cut_one]
        rfl
      rw [evE_lc, hi, bind_ok, List.length_map, decide_eq_true (by unfold lim; omega), req_true, lc_ties turn]
      cases tiesR rs <;> rfl
    have v2 : evV [Slot.dat (.str t), .dat (.list ((r :: rs).map .str)), .none, .none, .none, .none] x2_read = if okW (restS r) = true then (match tiesR rs with
        | some ts => .ok (webD (valW (restS r)) (ts.map tieD))
        | none => .exc 3) else .exc 3 := by
      rw [evV_plain rfl]
      unfold x2_read
      have hcall : evE [Slot.dat (.str t), .dat (.list ((r :: rs).map .str)), .none, .none, .none, .none] (.call 2 f_number_in (.cons (.sl (.ix (.var 1) (.int 0)) (.int 7) .nop) .nil)) = numR (restS r) := by
        rw [evE_call, evL_cons, show evE [Slot.dat (.str t), .dat (.list ((r :: rs).map .str)), .none, .none, .none, .none] (.sl (.ix (.var 1) (.int 0)) (.int 7) .nop) = .ok (.str (restS r)) from rest_slice hrl, bind_ok, evL_nil, bind_ok, bind_ok, hnum]
      rw [evE_tup, evL_cons, hcall, evL_cons, hlc, evL_nil]
      unfold numR
      cases okW (restS r) with
      | false => rfl
      | true => cases tiesR rs <;> rfl
    have fail : evV [Slot.dat (.str t), .dat (.list ((r :: rs).map .str)), .none, .none, .none, .none] x2_read = .exc 3 → f_read [.str t] = .exc 3 := fun hv => by
      refine (pre (.exc 3 [Slot.dat (.str t), .dat (.list ((r :: rs).map .str)), .none, .none, .none, .none]) ?_).trans rfl
      rw [exS_ifs, v1]
      show exS (.cons (.asg 2 x2_read) <| .cons (.asg 4 .non) <| .cons (.tryk (.cons (.drop x3_read) .nil) 4 4 5) <| .cons (.ifs x4_read (.cons (.rai 3) .nil) (.nil)) <| .cons (.ret (.var 2)) <| .nil) [Slot.dat (.str t), .dat (.list ((r :: rs).map .str)), .none, .none, .none, .none] = _
      rw [exS_cons, exS_asg, hv]
      rfl
    cases hok : okW (restS r) with
    | false =>
      rw [hok, if_neg (by simp)] at v2
      rw [if_neg (by simp)]
      exact fail v2
    | true =>
      rw [hok, if_pos rfl] at v2
      rw [if_pos rfl]
      cases hts : tiesR rs with
      | none =>
        rw [hts] at v2
        exact fail v2
      | some ts =>
        rw [hts] at v2
        have hlen : ts.length ≤ 1000 := by rw [tiesR_len hts]; omega
        show (isW (valW (restS r)) ts → _) ∧ (¬ isW (valW (restS r)) ts → _)
        generalize valW (restS r) = m at *
        have w0 : ∀ d : D, evR [Slot.dat (.str t), .dat (.list ((r :: rs).map .str)), .dat d, .none, .dat .none, .none] x3_read = f_look_web [d] := fun d => by
          rw [evR_plain rfl]
          rfl
        have go : ∀ o : Out, ((exS (.tryk (.cons (.drop x3_read) .nil) 4 4 5) [Slot.dat (.str t), .dat (.list ((r :: rs).map .str)), .dat (webD m (ts.map tieD)), .none, .dat .none, .none]).seq (exS (.cons (.ifs x4_read (.cons (.rai 3) .nil) (.nil)) <| .cons (.ret (.var 2)) <| .nil)) = o) → f_read [.str t] = outR o := fun o h => by
          refine pre _ ?_
          rw [exS_ifs, v1]
          show exS (.cons (.asg 2 x2_read) <| .cons (.asg 4 .non) <| .cons (.tryk (.cons (.drop x3_read) .nil) 4 4 5) <| .cons (.ifs x4_read (.cons (.rai 3) .nil) (.nil)) <| .cons (.ret (.var 2)) <| .nil) [Slot.dat (.str t), .dat (.list ((r :: rs).map .str)), .none, .none, .none, .none] = _
          rw [exS_cons, exS_asg, v2]
          exact h
        refine ⟨fun hw => ?_, fun hw => ?_⟩
        · have hw : f_look_web [webD m (ts.map tieD)] = .ok .none := hw
          refine (go (.ret (webD m (ts.map tieD))) ?_).trans rfl
          rw [exS_tryk, exS_cons, exS_drop, w0, hw]
          rfl
        · have hw := not_isW hlen hw
          refine (go (.exc 3 [Slot.dat (.str t), .dat (.list ((r :: rs).map .str)), .dat (webD m (ts.map tieD)), .none, .dat (exn 4), .none]) ?_).trans rfl
          rw [exS_tryk, exS_cons, exS_drop, w0, hw]
          rfl
end Rwl

set_option Elab.async false
set_option linter.all false
set_option maxRecDepth 100000
set_option maxHeartbeats 1000000
namespace Rwl
open PySem TL
/-! ### the law's own look at a text -/
def badB (p : Str) (ps ends : List Str) : Bool := !decide ((p :: ps).length = 2) || !((ends ++ ps).all okW) || !decide ((ends ++ ps).length = 3)
theorem badB_yes {p : Str} {ps ends : List Str} (h : badB p ps ends = true) : tieO2 ps ends = none := by
  unfold badB at h
  unfold tieO2
  rcases ps with _ | ⟨q, _ | ⟨_, _⟩⟩
  · rfl
  · rcases ends with _ | ⟨a, _ | ⟨b, _ | ⟨_, _⟩⟩⟩
    · rfl
    · rfl
    · dsimp only
      have : (okW a && okW b && okW q) = false := by
        simp only [List.length_cons, List.length_nil, List.cons_append, List.nil_append, List.all_cons, List.all_nil, Bool.and_true] at h
        cases ha : okW a <;> cases hb : okW b <;> cases hq : okW q <;> first | rfl | (rw [ha, hb, hq] at h; exact absurd h (by decide))
      rw [this]
      rfl
    · rfl
  · rfl
theorem badB_no {p : Str} {ps ends : List Str} (h : badB p ps ends = false) : ∃ t, tieO2 ps ends = some t ∧ numsD (ends ++ ps) = tieD t := by
  unfold badB at h
  rcases ps with _ | ⟨q, _ | ⟨_, _⟩⟩
  · exact absurd h (by simp)
  · rcases ends with _ | ⟨a, _ | ⟨b, _ | ⟨_, _⟩⟩⟩
    · exact absurd h (by simp)
    · exact absurd h (by simp)
    · simp only [List.length_cons, List.length_nil, List.cons_append, List.nil_append, List.all_cons, List.all_nil, Bool.and_true] at h
      cases ha : okW a <;> cases hb : okW b <;> cases hq : okW q <;> first | (rw [ha, hb, hq] at h; exact absurd h (by decide)) | skip
      refine ⟨(valW a, valW b, valW q), ?_, ?_⟩
      · unfold tieO2
        simp [ha, hb, hq]
      · unfold numsD
        simp [ha, hb, hq, tieD]
    · exact absurd h (by simp)
  · exact absurd h (by simp)
def envT (T R M : D) (acc : List D) (s4 s5 s6 : Slot) : Env := [.dat T, .dat R, .dat M, .own acc, s4, s5, s6]
abbrev turnT (d : D) (env : Env) : Out := ((⟨false, [4]⟩ : Tg).run env d).out env (exS l6_law_tried)
theorem add_strs {a b : List Str} (h : a.length + b.length ≤ lim) : addD (.list (a.map .str)) (.list (b.map .str)) = .ok (.list ((a ++ b).map .str)) := by
  show req (decide ((a.map PyData.str).length + (b.map PyData.str).length ≤ lim)) (Res.ok (PyData.list (a.map .str ++ b.map .str))) = _
  rw [List.length_map, List.length_map, decide_eq_true h, List.map_append]
  rfl
theorem row_turn (T R M : D) (acc : List D) (s5 s6 : Slot) {row : Str} (hl : row.length ≤ 900) (ha : acc.length < lim) : match tieR row with
    | some t => ∃ s5' s6', exS l6_law_tried (envT T R M acc (.dat (.str row)) s5 s6) = .nx (envT T R M (acc ++ [tieD t]) (.dat (.str row)) s5' s6')
    | none => exS l6_law_tried (envT T R M acc (.dat (.str row)) s5 s6) = .ret .none := by
  have hlim : row.length ≤ lim := by unfold lim; omega
  obtain ⟨p, ps, hs⟩ : ∃ p ps, Txt.split row " " = p :: ps := by
    have hne := split_ne (x := row) sep_sp
    cases h : Txt.split row " " with
    | nil => exact absurd h hne
    | cons p ps => exact ⟨p, ps, rfl⟩
  have each := split_each (x := row) sep_sp
  have cnt := split_count (x := row) sep_sp
  have e0 := split_D (y := " ") hlim rfl
  rw [tieR_cut hs]
  rw [hs] at each cnt e0
  rw [List.length_cons] at cnt
  have hp := each p List.mem_cons_self
  have hpl : p.length ≤ lim := by unfold lim; omega
  have each2 := split_each (x := p) sep_hy
  have cnt2 := split_count (x := p) sep_hy
  have e1 := split_D (y := "-") hpl rfl
  generalize Txt.split p "-" = ends at *
  have hwords : ∀ w ∈ ends ++ ps, w.length ≤ lim := fun w hw => by
    rcases List.mem_append.mp hw with hw | hw
    · have := each2 w hw; unfold lim; omega
    · have := each w (List.mem_cons_of_mem _ hw); unfold lim; omega
  have hcount : (ends ++ ps).length < lim := by rw [List.length_append]; unfold lim; omega
  have hnum := numbers_is hwords hcount
  have v3 : evV (envT T R M acc (.dat (.str row)) s5 s6) x3_law_tried = .ok (.list ((p :: ps).map .str)) := by
    refine evV_both ?_ ?_
    · show msD .split row [.str " "] = _
      exact e0
    · show msD .split row [.str " "] = _
      exact e0
  have w4 : ∀ s3 s6 : Slot, evE [Slot.dat T, .dat R, .dat M, s3, .dat (.str row), .dat (.list ((p :: ps).map .str)), s6] x4_law_tried = .ok (numsD (ends ++ ps)) := fun s3 s6 => by
    unfold x4_law_tried
    have hb : evE [Slot.dat T, .dat R, .dat M, s3, .dat (.str row), .dat (.list ((p :: ps).map .str)), s6] (.bin .add (.ms .split (.ix (.var 5) (.int 0)) (.cons (.str "-") .nil)) (.sl (.var 5) (.int 1) .nop)) = .ok (.list ((ends ++ ps).map .str)) := by
      rw [evE_bin]
      show (msD .split p [.str "-"]).bind (fun x => (Res.ok (PyData.list (cut ((p :: ps).map PyData.str) (some 1) none))).bind fun y => addD x y) = _
      rw [e1, bind_ok, bind_ok, List.map_cons, cut_one, add_strs (by rw [List.length_append] at hcount; omega)]
    rw [evE_call, evL_cons, hb, bind_ok, evL_nil, bind_ok, bind_ok, hnum]
  have v4 : evV (envT T R M acc (.dat (.str row)) (.dat (.list ((p :: ps).map .str))) s6) x4_law_tried = .ok (numsD (ends ++ ps)) := evV_both (w4 _ _) (w4 _ _)
  have v5 : evB (envT T R M acc (.dat (.str row)) (.dat (.list ((p :: ps).map .str))) (.dat (numsD (ends ++ ps)))) x5_law_tried = .ok (badB p ps ends) := by
    refine evB_ok ?_
    unfold x5_law_tried badB
    refine or3c ?_ (fun _ => ?_) fun h1 h2 => ?_
    · show Cm.ne.run (.int (((p :: ps).map PyData.str).length : Int)) (.int ((2 : Nat) : Int)) = _
      rw [ne_len, List.length_map]
    · show Res.ok (nonD (numsD (ends ++ ps))) = _
      unfold numsD
      cases (ends ++ ps).all okW <;> rfl
    · have hall : (ends ++ ps).all okW = true := by simpa using h2
      have hn : numsD (ends ++ ps) = .tuple (((ends ++ ps).map valW).map .int) := by unfold numsD; rw [if_pos hall]
      show (bi .len [numsD (ends ++ ps)]).bind (fun x => Cm.ne.run x (.int ((3 : Nat) : Int))) = _
      rw [hn, bi_lenT, bind_ok, ne_len, List.length_map, List.length_map]
  have start : exS l6_law_tried (envT T R M acc (.dat (.str row)) s5 s6) = (exS (.ifs x5_law_tried (.cons (.ret .non) .nil) (.nil)) (envT T R M acc (.dat (.str row)) (.dat (.list ((p :: ps).map .str))) (.dat (numsD (ends ++ ps))))).seq (exS (.cons (.app 3 (.var 6)) .nil)) := by
    unfold l6_law_tried
    rw [exS_cons, exS_asg, v3, out_ok, seq_nx, show (envT T R M acc (.dat (.str row)) s5 s6).set 5 (.dat (.list ((p :: ps).map .str))) = envT T R M acc (.dat (.str row)) (.dat (.list ((p :: ps).map .str))) s6 from rfl]
    rw [exS_cons, exS_asg, v4, out_ok, seq_nx, show (envT T R M acc (.dat (.str row)) (.dat (.list ((p :: ps).map .str))) s6).set 6 (.dat (numsD (ends ++ ps))) = envT T R M acc (.dat (.str row)) (.dat (.list ((p :: ps).map .str))) (.dat (numsD (ends ++ ps))) from rfl]
    rw [exS_cons]
  rw [start, exS_ifs, v5, out_ok]
  cases hb : badB p ps ends with
  | true => rw [badB_yes hb]; rfl
  | false =>
    obtain ⟨t, h1, h2⟩ := badB_no hb
    rw [h1, h2]
    have e := exS_app (i := 3) (e := .var 6) (env := envT T R M acc (.dat (.str row)) (.dat (.list ((p :: ps).map .str))) (.dat (tieD t))) (d := tieD t) rfl (evV_both rfl rfl) ha
    refine ⟨.dat (.list ((p :: ps).map .str)), .dat (tieD t), ?_⟩
    show (Out.nx (envT T R M acc (.dat (.str row)) (.dat (.list ((p :: ps).map .str))) (.dat (tieD t)))).seq (exS (.cons (.app 3 (.var 6)) .nil)) = _
    rw [seq_nx, exS_cons, e]
    rfl
theorem tried_loop (T R M : D) : ∀ (rs : List Str) (acc : List D) (s4 s5 s6 : Slot), (∀ r ∈ rs, r.length ≤ 900) → acc.length + rs.length < lim → match tiesR rs with
    | some ts => ∃ s4' s5' s6', forGo turnT (rs.map .str) (envT T R M acc s4 s5 s6) = .nx (envT T R M (acc ++ ts.map tieD) s4' s5' s6')
    | none => forGo turnT (rs.map .str) (envT T R M acc s4 s5 s6) = .ret .none
  | [], acc, s4, s5, s6, _, _ => ⟨s4, s5, s6, by rw [List.map_nil, List.map_nil, List.append_nil]; rfl⟩
  | r :: rs, acc, s4, s5, s6, hr, hl => by
    rw [List.length_cons] at hl
    have h1 := row_turn T R M acc s5 s6 (hr r List.mem_cons_self) (by omega)
    have step : forGo turnT ((r :: rs).map .str) (envT T R M acc s4 s5 s6) = (exS l6_law_tried (envT T R M acc (.dat (.str r)) s5 s6)).turn (forGo turnT (rs.map .str)) := rfl
    rw [step]
    unfold tiesR
    cases ht : tieR r with
    | none =>
      rw [ht] at h1
      have h1 : exS l6_law_tried (envT T R M acc (.dat (.str r)) s5 s6) = .ret .none := h1
      rw [h1]
      rfl
    | some t =>
      rw [ht] at h1
      obtain ⟨s5', s6', q⟩ := h1
      rw [q, turn_nx]
      have ih := tried_loop T R M rs (acc ++ [tieD t]) (.dat (.str r)) s5' s6' (fun u hu => hr u (List.mem_cons_of_mem _ hu)) (by rw [List.length_append, List.length_singleton]; omega)
      cases hts : tiesR rs with
      | none => rw [hts] at ih; exact ih
      | some ts =>
        rw [hts] at ih
        have ih : ∃ a b c, forGo turnT (rs.map .str) (envT T R M (acc ++ [tieD t]) (.dat (.str r)) s5' s6') = .nx (envT T R M (acc ++ [tieD t] ++ ts.map tieD) a b c) := ih
        show ∃ a b c, forGo turnT (rs.map .str) (envT T R M (acc ++ [tieD t]) (.dat (.str r)) s5' s6') = .nx (envT T R M (acc ++ (t :: ts).map tieD) a b c)
        have el : acc ++ (t :: ts).map tieD = acc ++ [tieD t] ++ ts.map tieD := by simp
        rw [el]
        exact ih
def triedD (t : Str) : D := match webR t with
  | some (m, ts) => webD m (ts.map tieD)
  | none => .none
theorem tried_is {t : Str} (ht : t.length ≤ 900) : f_law_tried [.str t] = .ok (triedD t) := by
  have hlim : t.length ≤ lim := by unfold lim; omega
  have e0 := split_D (y := "\n") hlim rfl
  have each := split_each (x := t) sep_nl
  have cnt := split_count (x := t) sep_nl
  have hne := split_ne (x := t) sep_nl
  unfold triedD webR
  generalize Txt.split t "\n" = rows at *
  rcases rows with _ | ⟨r, rs⟩
  · exact absurd rfl hne
  dsimp only
  rw [List.length_cons] at cnt
  have hr : r.length ≤ 900 := Nat.le_trans (each r List.mem_cons_self) ht
  have hrl : r.length ≤ lim := by unfold lim; omega
  have hnum := numbers_is (ws := [restS r]) (fun w hw => by rw [List.mem_singleton.mp hw]; exact Nat.le_trans (rest_le r) hrl) (by show 1 < lim; unfold lim; decide)
  have v0 : evV [Slot.dat (.str t), .none, .none, .none, .none, .none, .none] x0_law_tried = .ok (.list ((r :: rs).map .str)) := by
    rw [evV_plain rfl]
    show msD .split t [.str "\n"] = _
    exact e0
  have v1 : evV [Slot.dat (.str t), .dat (.list ((r :: rs).map .str)), .none, .none, .none, .none, .none] x1_law_tried = .ok (numsD [restS r]) := by
    rw [evV_plain rfl]
    unfold x1_law_tried
    rw [evE_call, evL_cons, evE_lst, evL_cons, show evE [Slot.dat (.str t), .dat (.list ((r :: rs).map .str)), .none, .none, .none, .none, .none] (.sl (.ix (.var 1) (.int 0)) (.int 7) .nop) = .ok (.str (restS r)) from rest_slice hrl, bind_ok, evL_nil, bind_ok, bind_ok]
    rw [show decide ([PyData.str (restS r)].length ≤ lim) = true from rfl, req_true, bind_ok, bind_ok, bind_ok]
    exact hnum
  have v2 : evB [Slot.dat (.str t), .dat (.list ((r :: rs).map .str)), .dat (numsD [restS r]), .none, .none, .none, .none] x2_law_tried = .ok (!(decide (headS r = "places ") && okW (restS r))) := by
    rw [evB_plain rfl]
    unfold x2_law_tried
    rw [evT_or, evTOr_cons]
    have a1 : evT [Slot.dat (.str t), .dat (.list ((r :: rs).map .str)), .dat (numsD [restS r]), .none, .none, .none, .none] (.cmp .ne (.sl (.ix (.var 1) (.int 0)) .nop (.int 7)) (.str "places ")) = .ok (!decide (headS r = "places ")) := by
      show (slD none (some 7) (.str r)).bind (fun x => Cm.ne.run x (.str "places ")) = _
      rw [head_slice hrl, bind_ok, run_ne, eq_str]
      rfl
    rw [a1, bind_ok]
    cases decide (headS r = "places ") with
    | false => rfl
    | true =>
      show Res.ok (nonD (numsD [restS r])) = _
      unfold numsD
      rw [show [restS r].all okW = okW (restS r) by simp]
      cases okW (restS r) <;> rfl
  have pre : ∀ o : Out, ((exS (.ifs x2_law_tried (.cons (.ret .non) .nil) (.nil)) [Slot.dat (.str t), .dat (.list ((r :: rs).map .str)), .dat (numsD [restS r]), .none, .none, .none, .none]).seq (exS (.cons (.new 3 (.lst .nil)) <| .cons (.forr ⟨false, [4]⟩ (.sl (.var 1) (.int 1) .nop) (l6_law_tried)) <| .cons (.ret x7_law_tried) <| .nil)) = o) → f_law_tried [.str t] = outR o := fun o h => by
    unfold f_law_tried
    refine run1 ?_
    show exS b_law_tried [Slot.dat (.str t), .none, .none, .none, .none, .none, .none] = _
    unfold b_law_tried
    rw [exS_cons, exS_asg, v0, out_ok, seq_nx, show ([Slot.dat (.str t), .none, .none, .none, .none, .none, .none] : Env).set 1 (.dat (.list ((r :: rs).map .str))) = [Slot.dat (.str t), .dat (.list ((r :: rs).map .str)), .none, .none, .none, .none, .none] from rfl]
    rw [exS_cons, exS_asg, v1, out_ok, seq_nx, show ([Slot.dat (.str t), .dat (.list ((r :: rs).map .str)), .none, .none, .none, .none, .none] : Env).set 2 (.dat (numsD [restS r])) = [Slot.dat (.str t), .dat (.list ((r :: rs).map .str)), .dat (numsD [restS r]), .none, .none, .none, .none] from rfl, exS_cons]
    exact h
  cases hc : (decide (headS r = "places ") && okW (restS r)) with
  | false =>
    rw [hc] at v2
    rw [if_neg (by simp)]
    refine (pre (.ret .none) ?_).trans rfl
    rw [exS_ifs, v2]
    rfl
  | true =>
    rw [hc] at v2
    rw [if_pos rfl]
    have hok : okW (restS r) = true := by simp at hc; exact hc.2
    have hM : numsD [restS r] = .tuple [.int (valW (restS r))] := by unfold numsD; simp [hok]
    rw [hM] at v2 pre
    have main := tried_loop (.str t) (.list ((r :: rs).map .str)) (.tuple [.int (valW (restS r))]) rs [] .none .none .none (fun u hu => Nat.le_trans (each u (List.mem_cons_of_mem _ hu)) ht) (by rw [List.length_nil]; unfold lim; omega)
    have hi : evI (envT (.str t) (.list ((r :: rs).map .str)) (.tuple [.int (valW (restS r))]) [] .none .none .none) (.sl (.var 1) (.int 1) .nop) = .ok (rs.map .str) := by
      rw [evI_sl]
      show (Res.ok (PyData.list (cut ((r :: rs).map PyData.str) (some 1) none))).bind seqOf = _
      rw [List.map_cons, cut_one]
      rfl
    have go : ∀ o : Out, ((forGo turnT (rs.map .str) (envT (.str t) (.list ((r :: rs).map .str)) (.tuple [.int (valW (restS r))]) [] .none .none .none)).seq (exS (.cons (.ret x7_law_tried) <| .nil)) = o) → f_law_tried [.str t] = outR o := fun o h => by
      refine pre o ?_
      rw [exS_ifs, v2]
      show exS (.cons (.new 3 (.lst .nil)) <| .cons (.forr ⟨false, [4]⟩ (.sl (.var 1) (.int 1) .nop) (l6_law_tried)) <| .cons (.ret x7_law_tried) <| .nil) [Slot.dat (.str t), .dat (.list ((r :: rs).map .str)), .dat (.tuple [.int (valW (restS r))]), .none, .none, .none, .none] = _
      rw [exS_cons, show exS (.new 3 (.lst .nil)) [Slot.dat (.str t), .dat (.list ((r :: rs).map .str)), .dat (.tuple [.int (valW (restS r))]), .none, .none, .none, .none] = .nx (envT (.str t) (.list ((r :: rs).map .str)) (.tuple [.int (valW (restS r))]) [] .none .none .none) from rfl, seq_nx, exS_cons, exS_forr, hi, out_ok]
      exact h
    cases hts : tiesR rs with
    | none =>
      rw [hts] at main
      have main : forGo turnT (rs.map .str) (envT (.str t) (.list ((r :: rs).map .str)) (.tuple [.int (valW (restS r))]) [] .none .none .none) = .ret .none := main
      refine (go (.ret .none) ?_).trans rfl
      rw [main]
      rfl
    | some ts =>
      rw [hts] at main
      obtain ⟨s4, s5, s6, main⟩ := main
      rw [List.nil_append] at main
      refine (go (.ret (webD (valW (restS r)) (ts.map tieD))) ?_).trans rfl
      have v7 : evR (envT (.str t) (.list ((r :: rs).map .str)) (.tuple [.int (valW (restS r))]) (ts.map tieD) s4 s5 s6) x7_law_tried = .ok (webD (valW (restS r)) (ts.map tieD)) := evR_ok rfl
      rw [main, seq_nx, exS_cons, exS_ret, v7]
      rfl
end Rwl

set_option Elab.async false
set_option linter.all false
set_option maxRecDepth 100000
set_option maxHeartbeats 1000000
namespace Rwl
open PySem TL
/-! ### a web's text -/
def numS (i : Int) : Str := Str.ofString (toString i)
theorem numS_nat (n : Nat) : numS (n : Int) = natS n := rfl
theorem tl_numS (n : Nat) : tl (numS n) = numL n := tl_num n
def tieS (t : Tie) : Str := numS t.1 ++ "-" ++ numS t.2.1 ++ " " ++ numS t.2.2
def rowsS (m : Int) (ts : List Tie) : List Str := (("places " : Str) ++ numS m) :: ts.map tieS
def textS (m : Int) (ts : List Tie) : Str := Txt.join "\n" (rowsS m ts)
theorem tl_pl : tl "places " = [112, 108, 97, 99, 101, 115, 32] := by decide +kernel
theorem tl_hy : tl "-" = [45] := by decide +kernel
theorem tl_sp : tl " " = [32] := by decide +kernel
theorem tl_nl : tl "\n" = [10] := by decide +kernel
/-- small numbers -/
def Sm (i : Int) : Prop := 0 ≤ i ∧ i < 1000
theorem Sm.nat {i : Int} (h : Sm i) : ∃ n : Nat, i = n ∧ n < 1000 := ⟨i.toNat, by have := h.1; omega, by have := h.2; have := h.1; omega⟩
theorem Sm.len {i : Int} (h : Sm i) : (numS i).length ≤ 3 := by
  obtain ⟨n, rfl, hn⟩ := h.nat
  rw [len_tl, tl_numS]
  exact numL_len (by decide) (by omega)
theorem Sm.free {i : Int} (h : Sm i) {s : Nat} (hs : s < 48 ∨ 57 < s) : s ∉ tl (numS i) := by
  obtain ⟨n, rfl, hn⟩ := h.nat
  rw [tl_numS]
  exact numL_free hs
theorem Sm.ok {i : Int} (h : Sm i) : okW (numS i) = true := by
  obtain ⟨n, rfl, hn⟩ := h.nat
  rw [numS_nat]
  exact okW_num hn
theorem Sm.val {i : Int} (h : Sm i) : valW (numS i) = i := by
  obtain ⟨n, rfl, hn⟩ := h.nat
  rw [numS_nat]
  exact valW_num n
theorem Sm.str {i : Int} (h : Sm i) : bi .str [.int i] = .ok (.str (numS i)) := by
  obtain ⟨h0, h1⟩ := h
  show req (decide (i.natAbs < 2 ^ 1000)) _ = _
  have h2 : (1000 : Nat) < 2 ^ 1000 := Nat.lt_of_lt_of_le (by decide : 1000 < 2 ^ 10) (Nat.pow_le_pow_right (by decide) (by decide))
  rw [decide_eq_true (by omega)]
  rfl
structure SmT (t : Tie) : Prop where
  a : Sm t.1
  b : Sm t.2.1
  w : Sm t.2.2
theorem str_len_add (a b : Str) : (a ++ b).length = a.length + b.length := by
  rw [len_tl, len_tl, len_tl, tl_append, List.length_append]
theorem len_sp : (" " : Str).length = 1 := by rw [len_tl, tl_sp]; rfl
theorem len_hy : ("-" : Str).length = 1 := by rw [len_tl, tl_hy]; rfl
theorem len_nl : ("\n" : Str).length = 1 := by rw [len_tl, tl_nl]; rfl
theorem len_pl : ("places " : Str).length = 7 := by rw [len_tl, tl_pl]; rfl
theorem tieS_len {t : Tie} (h : SmT t) : (tieS t).length ≤ 11 := by
  have := h.a.len
  have := h.b.len
  have := h.w.len
  unfold tieS
  rw [str_len_add, str_len_add, str_len_add, str_len_add, len_sp, len_hy]
  omega
theorem add_str {a b : Str} (h : a.length + b.length ≤ lim) : addD (.str a) (.str b) = .ok (.str (a ++ b)) := by
  show req (decide (a.length + b.length ≤ lim)) _ = _
  rw [decide_eq_true h]
  rfl
/-- a row as the expression has it -/
theorem row_expr {env : Env} {i j k : Nat} {t : Tie} (h : SmT t) (hi : evE env (.var i) = .ok (.int t.1)) (hj : evE env (.var j) = .ok (.int t.2.1)) (hk : evE env (.var k) = .ok (.int t.2.2)) :
    evE env (.bin .add (.bin .add (.bin .add (.bin .add (.bi .str (.cons (.var i) .nil)) (.str "-")) (.bi .str (.cons (.var j) .nil))) (.str " ")) (.bi .str (.cons (.var k) .nil))) = .ok (.str (tieS t)) := by
  have la := h.a.len
  have lb := h.b.len
  have lw := h.w.len
  have big : 100 ≤ lim := by unfold lim; decide
  rw [evE_bin, evE_bin, evE_bin, evE_bin, evE_bi, evL_cons, hi, bind_ok, evL_nil, bind_ok, bind_ok, h.a.str, bind_ok, evE_str, bind_ok, run_add, add_str (by rw [len_hy]; omega), bind_ok]
  rw [evE_bi, evL_cons, hj, bind_ok, evL_nil, bind_ok, bind_ok, h.b.str, bind_ok, add_str (by rw [str_len_add, len_hy]; omega), bind_ok]
  rw [evE_str, bind_ok, add_str (by rw [str_len_add, str_len_add, len_hy, len_sp]; omega), bind_ok]
  rw [evE_bi, evL_cons, hk, bind_ok, evL_nil, bind_ok, bind_ok, h.w.str, bind_ok, add_str (by rw [str_len_add, str_len_add, str_len_add, len_hy, len_sp]; omega)]
  rfl
structure Wt (n : Nat) (ts : List Tie) : Prop where
  n8 : n ≤ 8
  ties : Ties n ts
  len : ts.length ≤ 64
theorem Wt.sm {n : Nat} {ts : List Tie} (h : Wt n ts) {t : Tie} (ht : t ∈ ts) : SmT t := by
  have := h.ties.each t ht
  have := h.n8
  exact ⟨⟨by omega, by omega⟩, ⟨by omega, by omega⟩, ⟨by omega, by omega⟩⟩
theorem Wt.smn {n : Nat} {ts : List Tie} (h : Wt n ts) : Sm (n : Int) := ⟨by omega, by have := h.n8; omega⟩
theorem Wt.look {n : Nat} {ts : List Tie} (h : Wt n ts) : f_look_web [webD n (ts.map tieD)] = .ok .none := look_ok (by have := h.n8; omega) h.ties (by have := h.len; omega)
theorem evI_web {n : Int} {ts : List D} {env : Env} (h : env.get 0 = .dat (webD n ts)) : evI env (.ix (.var 0) (.int 1)) = .ok ts := by
  rw [evI_ix, evE_ix, evI1_var, h]
  dsimp only
  rw [evC_var, h]
  rfl
theorem lc_rows {n : Nat} {ts : List Tie} (h : Wt n ts) {s1 s2 s3 s4 : Slot} : evE [Slot.dat (webD n (ts.map tieD)), s1, s2, s3, s4] (.lc [2, 3, 4] ⟨true, [2, 3, 4]⟩ (.ix (.var 0) (.int 1)) .nop (.bin .add (.bin .add (.bin .add (.bin .add (.bi .str (.cons (.var 2) .nil)) (.str "-")) (.bi .str (.cons (.var 3) .nil))) (.str " ")) (.bi .str (.cons (.var 4) .nil)))) = .ok (.list ((ts.map tieS).map .str)) := by
  have turn : ∀ t ∈ ts, lcTurn [Slot.dat (webD n (ts.map tieD)), s1, s2, s3, s4] [2, 3, 4] ⟨true, [2, 3, 4]⟩ .nop (.bin .add (.bin .add (.bin .add (.bin .add (.bi .str (.cons (.var 2) .nil)) (.str "-")) (.bi .str (.cons (.var 3) .nil))) (.str " ")) (.bi .str (.cons (.var 4) .nil))) (tieD t) = .ok (some (.str (tieS t))) := fun t ht => by
    show (evE [Slot.dat (webD n (ts.map tieD)), s1, .dat (.int t.1), .dat (.int t.2.1), .dat (.int t.2.2)] _).bind (fun y => Res.ok (some y)) = _
    rw [row_expr (h.sm ht) rfl rfl rfl]
    rfl
  rw [evE_lc, evI_web (n := n) (ts := ts.map tieD) rfl, bind_ok, List.length_map, decide_eq_true (by have := h.len; unfold lim; omega), req_true, lcRun_map (h := fun t => PyData.str (tieS t)) turn, bind_ok, List.map_map]
  rfl
theorem join_D {y : Str} {xs : List Str} (h : (xs.map (·.length)).sum + xs.length * y.length ≤ 16777216) : msD .join y [.list (xs.map .str)] = .ok (.str (Txt.join y xs)) := by
  show (ofO (strL (xs.map .str))).bind _ = _
  rw [strL_map, ofO_some, bind_ok, decide_eq_true h]
  rfl
theorem rows_sum : ∀ {xs : List Str} {k : Nat}, (∀ x ∈ xs, x.length ≤ k) → (xs.map (·.length)).sum ≤ k * xs.length
  | [], k, _ => by simp
  | x :: r, k, h => by
    have ih := rows_sum (xs := r) (k := k) fun y hy => h y (List.mem_cons_of_mem _ hy)
    have := h x List.mem_cons_self
    rw [List.map_cons, List.sum_cons, List.length_cons, Nat.mul_succ]
    omega
theorem rows_each {n : Nat} {ts : List Tie} (h : Wt n ts) : ∀ x ∈ rowsS n ts, x.length ≤ 11 := fun x hx => by
  rcases List.mem_cons.mp hx with rfl | hx
  · have := h.smn.len
    rw [str_len_add, len_pl]
    omega
  · obtain ⟨t, ht, rfl⟩ := List.mem_map.mp hx
    exact tieS_len (h.sm ht)
theorem rows_len {n : Nat} {ts : List Tie} (h : Wt n ts) : (rowsS n ts).length ≤ 65 := by
  unfold rowsS
  rw [List.length_cons, List.length_map]
  have := h.len
  omega
theorem rows_join {n : Nat} {ts : List Tie} (h : Wt n ts) : msD .join "\n" [.list ((rowsS n ts).map .str)] = .ok (.str (textS n ts)) := by
  refine join_D ?_
  have h1 := rows_sum (rows_each h)
  have h2 := rows_len h
  rw [len_nl]
  omega
theorem joinL_len (S : List Nat) : ∀ ps : List (List Nat), (joinL S ps).length ≤ (ps.map (·.length)).sum + ps.length * S.length
  | [] => by simp [joinL]
  | [p] => by simp [joinL]
  | p :: q :: r => by
    have ih := joinL_len S (q :: r)
    show (p ++ (S ++ joinL S (q :: r))).length ≤ _
    rw [List.length_append, List.length_append, List.map_cons, List.sum_cons, List.length_cons, Nat.succ_mul]
    omega
theorem text_len {n : Nat} {ts : List Tie} (h : Wt n ts) : (textS n ts).length ≤ 800 := by
  unfold textS
  rw [len_tl, join_eq, tl_join]
  have h0 := joinL_len (tl "\n") ((rowsS n ts).map tl)
  have h1 := rows_sum (rows_each h)
  have h2 := rows_len h
  have e : (((rowsS n ts).map tl).map (·.length)).sum = ((rowsS n ts).map (·.length)).sum := by
    rw [List.map_map]
    congr 1
  rw [e, List.length_map, tl_nl] at h0
  simp only [List.length_cons, List.length_nil] at h0
  rw [tl_nl]
  omega
/-- the law's text -/
theorem first_row {n : Nat} {ts : List Tie} (h : Wt n ts) {env : Env} (he : env.get 0 = .dat (webD n (ts.map tieD))) : evE env (.lst (.cons (.bin .add (.str "places ") (.bi .str (.cons (.ix (.var 0) (.int 0)) .nil))) .nil)) = .ok (.list [.str (("places " : Str) ++ numS n)]) := by
  have hn := h.smn.len
  have hix : evE env (.ix (.var 0) (.int 0)) = .ok (.int n) := by
    rw [evE_ix, evI1_var, he]
    dsimp only
    rw [evC_var, he]
    rfl
  rw [evE_lst, evL_cons, evE_bin, evE_str, bind_ok, evE_bi, evL_cons, hix, bind_ok, evL_nil, bind_ok, bind_ok, h.smn.str, bind_ok, run_add, add_str (by rw [len_pl]; unfold lim; omega), bind_ok, bind_ok, bind_ok]
  rfl
theorem text_is {n : Nat} {ts : List Tie} (h : Wt n ts) : f_law_text [webD n (ts.map tieD)] = .ok (.str (textS n ts)) := by
  have v0 : evV [Slot.dat (webD n (ts.map tieD)), .none, .none, .none, .none] x0_law_text = .ok (.list [.str (("places " : Str) ++ numS n)]) := by
    rw [evV_plain rfl]
    exact first_row h rfl
  have v1 : evR [Slot.dat (webD n (ts.map tieD)), .dat (.list [.str (("places " : Str) ++ numS n)]), .none, .none, .none] x1_law_text = .ok (.str (textS n ts)) := by
    rw [evR_plain rfl]
    unfold x1_law_text
    have hadd : evE [Slot.dat (webD n (ts.map tieD)), .dat (.list [.str (("places " : Str) ++ numS n)]), .none, .none, .none] (.bin .add (.var 1) (.lc [2, 3, 4] ⟨true, [2, 3, 4]⟩ (.ix (.var 0) (.int 1)) .nop (.bin .add (.bin .add (.bin .add (.bin .add (.bi .str (.cons (.var 2) .nil)) (.str "-")) (.bi .str (.cons (.var 3) .nil))) (.str " ")) (.bi .str (.cons (.var 4) .nil))))) = .ok (.list ((rowsS n ts).map .str)) := by
      rw [evE_bin, lc_rows h]
      show addD (.list ([("places " : Str) ++ numS n].map .str)) (.list ((ts.map tieS).map .str)) = _
      rw [add_strs (by rw [List.length_map, List.length_singleton]; have := h.len; unfold lim; omega)]
      rfl
    rw [evE_ms, evE_str, bind_ok]
    dsimp only
    rw [evL_cons, hadd, bind_ok, evL_nil, bind_ok, bind_ok, rows_join h]
  unfold f_law_text
  refine (run1 (o := .ret (.str (textS n ts))) ?_).trans rfl
  show exS b_law_text [Slot.dat (webD n (ts.map tieD)), .none, .none, .none, .none] = _
  unfold b_law_text
  rw [exS_cons, exS_asg, v0, out_ok, seq_nx, show ([Slot.dat (webD n (ts.map tieD)), .none, .none, .none, .none] : Env).set 1 (.dat (.list [.str (("places " : Str) ++ numS n)])) = [Slot.dat (webD n (ts.map tieD)), .dat (.list [.str (("places " : Str) ++ numS n)]), .none, .none, .none] from rfl, exS_cons, exS_ret, v1]
  rfl
theorem written_is {n : Nat} {ts : List Tie} (h : Wt n ts) : f_written [webD n (ts.map tieD)] = .ok (.str (textS n ts)) := by
  have v0 : evR [Slot.dat (webD n (ts.map tieD)), .none, .none, .none, .none] x0_written = .ok .none := by
    rw [evR_plain rfl]
    exact h.look
  have v1 : exS (.new 1 x1_written) [Slot.dat (webD n (ts.map tieD)), .none, .none, .none, .none] = .nx [Slot.dat (webD n (ts.map tieD)), .own [.str (("places " : Str) ++ numS n)], .none, .none, .none] := by
    rw [exS_new, show evE [Slot.dat (webD n (ts.map tieD)), .none, .none, .none, .none] x1_written = .ok (.list [.str (("places " : Str) ++ numS n)]) from first_row h rfl]
    rfl
  have v2 : exS (.ext 1 x2_written) [Slot.dat (webD n (ts.map tieD)), .own [.str (("places " : Str) ++ numS n)], .none, .none, .none] = .nx [Slot.dat (webD n (ts.map tieD)), .own ((rowsS n ts).map .str), .none, .none, .none] := by
    unfold x2_written
    rw [exS_ext (i := 1) (env := [Slot.dat (webD n (ts.map tieD)), .own [.str (("places " : Str) ++ numS n)], .none, .none, .none]) (ys := (ts.map tieS).map .str) rfl (evV_both (lc_rows h) (lc_rows h)) (by rw [List.length_map, List.length_map, List.length_singleton]; have := h.len; unfold lim; omega)]
    rfl
  have v3 : evR [Slot.dat (webD n (ts.map tieD)), .own ((rowsS n ts).map .str), .none, .none, .none] x3_written = .ok (.str (textS n ts)) := by
    refine evR_ok ?_
    show msD .join "\n" [.list ((rowsS n ts).map .str)] = _
    exact rows_join h
  unfold f_written
  refine (run1 (o := .ret (.str (textS n ts))) ?_).trans rfl
  show exS b_written [Slot.dat (webD n (ts.map tieD)), .none, .none, .none, .none] = _
  unfold b_written
  rw [exS_cons, exS_drop, v0, out_ok, seq_nx, exS_cons, v1, seq_nx, exS_cons, v2, seq_nx, exS_cons, exS_ret, v3]
  rfl
theorem written_exc {w : D} {c : Nat} (h : f_look_web [w] = .exc c) : f_written [w] = .exc c := by
  have v0 : evR [Slot.dat w, .none, .none, .none, .none] x0_written = .exc c := by
    rw [evR_plain rfl]
    show f_look_web [w] = _
    exact h
  unfold f_written
  refine (run1 (o := .exc c [Slot.dat w, .none, .none, .none, .none]) ?_).trans rfl
  show exS b_written [Slot.dat w, .none, .none, .none, .none] = _
  unfold b_written
  rw [exS_cons, exS_drop, v0]
  rfl
/-! ### the text read again -/
theorem row_no {t : Tie} (h : SmT t) : 10 ∉ tl (tieS t) := by
  unfold tieS
  rw [tl_append, tl_append, tl_append, tl_append, tl_hy, tl_sp]
  simp only [List.mem_append, List.mem_singleton, not_or]
  exact ⟨⟨⟨⟨h.a.free (.inl (by decide)), by decide⟩, h.b.free (.inl (by decide))⟩, by decide⟩, h.w.free (.inl (by decide))⟩
theorem text_split {n : Nat} {ts : List Tie} (h : Wt n ts) : Txt.split (textS n ts) "\n" = rowsS n ts := by
  unfold textS
  refine split_join tl_nl sep_nl.kd (by unfold rowsS; simp) fun p hp => ?_
  rcases List.mem_cons.mp hp with rfl | hp
  · rw [tl_append, tl_pl]
    simp only [List.mem_append, not_or]
    exact ⟨by decide, h.smn.free (.inl (by decide))⟩
  · obtain ⟨t, ht, rfl⟩ := List.mem_map.mp hp
    exact row_no (h.sm ht)
theorem tie_back {t : Tie} (h : SmT t) : tieR (tieS t) = some t := by
  have hA : tieS t = Txt.join " " [numS t.1 ++ "-" ++ numS t.2.1, numS t.2.2] := by
    rw [join_eq]
    rfl
  have s1 : Txt.split (tieS t) " " = [numS t.1 ++ "-" ++ numS t.2.1, numS t.2.2] := by
    rw [hA]
    refine split_join tl_sp sep_sp.kd (by simp) fun p hp => ?_
    simp only [List.mem_cons, List.not_mem_nil, or_false] at hp
    rcases hp with rfl | rfl
    · rw [tl_append, tl_append, tl_hy]
      simp only [List.mem_append, List.mem_singleton, not_or]
      exact ⟨⟨h.a.free (.inl (by decide)), by decide⟩, h.b.free (.inl (by decide))⟩
    · exact h.w.free (.inl (by decide))
  have hB : numS t.1 ++ "-" ++ numS t.2.1 = Txt.join "-" [numS t.1, numS t.2.1] := by
    rw [join_eq]
    rfl
  have s2 : Txt.split (numS t.1 ++ "-" ++ numS t.2.1) "-" = [numS t.1, numS t.2.1] := by
    rw [hB]
    refine split_join tl_hy sep_hy.kd (by simp) fun p hp => ?_
    simp only [List.mem_cons, List.not_mem_nil, or_false] at hp
    rcases hp with rfl | rfl
    · exact h.a.free (.inl (by decide))
    · exact h.b.free (.inl (by decide))
  rw [tieR_cut s1, s2]
  unfold tieO2
  dsimp only
  rw [h.a.ok, h.b.ok, h.w.ok, h.a.val, h.b.val, h.w.val]
  rfl
theorem ties_back : ∀ {ts : List Tie}, (∀ t ∈ ts, SmT t) → tiesR (ts.map tieS) = some ts
  | [], _ => rfl
  | t :: r, h => by
    have ih := ties_back (ts := r) fun u hu => h u (List.mem_cons_of_mem _ hu)
    rw [List.map_cons]
    unfold tiesR
    rw [tie_back (h t List.mem_cons_self), ih]
theorem web_back {n : Nat} {ts : List Tie} (h : Wt n ts) : webR (textS n ts) = some ((n : Int), ts) := by
  have hh : headS (("places " : Str) ++ numS n) = "places " := by
    refine ext_tl ?_
    unfold headS
    rw [tl_mk, tl_append, tl_pl, tl_numS]
    unfold cut sI
    simp
  have hr : restS (("places " : Str) ++ numS n) = numS n := by
    refine ext_tl ?_
    unfold restS
    rw [tl_mk, tl_append, tl_pl, tl_numS]
    unfold cut sI
    simp
  unfold webR
  rw [text_split h]
  unfold rowsS
  dsimp only
  rw [hh, hr, h.smn.ok, h.smn.val, ties_back fun t ht => h.sm ht]
  rfl
end Rwl

set_option Elab.async false
set_option linter.all false
set_option maxRecDepth 100000
set_option maxHeartbeats 1000000
namespace Rwl
open PySem TL
/-! ### the law -/
theorem eqv_tie (t : Tie) : PyData.eqv (tieD t) (tieD t) = true := by simp [tieD, PyData.eqv, PyData.eqvAll]
theorem eqv_ties : ∀ ts : List Tie, PyData.eqvAll (ts.map tieD) (ts.map tieD) = true
  | [] => rfl
  | t :: r => by
    show (PyData.eqv (tieD t) (tieD t) && PyData.eqvAll (r.map tieD) (r.map tieD)) = true
    rw [eqv_tie, eqv_ties r]
    rfl
theorem dep_ties (ts : List Tie) : (ts.map tieD).all (dep 6) = true := by
  rw [List.all_map, List.all_eq_true]
  intro t _
  rfl
theorem eq_web (m : Int) (ts : List Tie) : eqD (webD m (ts.map tieD)) (webD m (ts.map tieD)) = .ok true := by
  have hd : dep 8 (webD m (ts.map tieD)) = true := by
    show (dep 7 (.int m) && ((ts.map tieD).all (dep 6) && true)) = true
    rw [dep_ties]
    rfl
  have he : PyData.eqv (webD m (ts.map tieD)) (webD m (ts.map tieD)) = true := by
    have := eqv_ties ts
    simp [webD, PyData.eqv, PyData.eqvAll, this]
  unfold eqD
  rw [hd, he]
  rfl
theorem refusal_3 : f_law_refusal [exn 3] = .ok (.str "text") := rfl
theorem refusal_4 : f_law_refusal [exn 4] = .ok (.str "web") := rfl
def envZ (sc w : D) (t : Str) (s3 s4 s5 s6 s7 s8 s9 s10 s11 : Slot) : Env := [.dat sc, .dat w, .dat (.str t), s3, s4, s5, s6, s7, s8, s9, s10, s11]
theorem sub_text {t : Str} (hl : t.length ≤ lim) (lo hi : Option Int) : ∃ u : Str, slD lo hi (.str t) = .ok (.str u) ∧ u.length ≤ t.length := by
  refine ⟨⟨(cut t.cps.toList lo hi).toArray⟩, ?_, ?_⟩
  · show req (decide (t.length ≤ lim)) _ = _
    rw [decide_eq_true hl]
    rfl
  · rw [len_tl, len_tl]
    exact cut_le (tl t) lo hi
/-- what stands ahead of a sign, and behind: together no more than the text -/
theorem sub_two {t : Str} (hl : t.length ≤ lim) (i : Nat) (j : Int) (hj : (i : Int) ≤ j) : ∃ u v : Str, slD none (some (i : Int)) (.str t) = .ok (.str u) ∧ slD (some j) none (.str t) = .ok (.str v) ∧ u.length + v.length ≤ t.length := by
  refine ⟨⟨(cut t.cps.toList none (some (i : Int))).toArray⟩, ⟨(cut t.cps.toList (some j) none).toArray⟩, ?_, ?_, ?_⟩
  · show req (decide (t.length ≤ lim)) _ = _
    rw [decide_eq_true hl]
    rfl
  · show req (decide (t.length ≤ lim)) _ = _
    rw [decide_eq_true hl]
    rfl
  · rw [len_tl, len_tl, len_tl]
    show (cut (tl t) none (some (i : Int))).length + (cut (tl t) (some j) none).length ≤ (tl t).length
    unfold cut sI
    rw [List.length_take, List.length_take, List.length_drop, List.length_drop]
    dsimp only
    have n1 : ¬ (i : Int) < 0 := by omega
    have n2 : ¬ j < 0 := by omega
    rw [if_neg n1, if_neg n2]
    omega
theorem l8_ok (ns : List Int) (w : D) (t : Str) (k : Int) (s4 s5 s6 s7 : Slot) (h4 : Slot.pl s4 = true) (h5 : Slot.pl s5 = true) (h6 : Slot.pl s6 = true) (h7 : Slot.pl s7 = true) (hl : t.length ≤ 890) :
    ∃ t' s4' s5' s6' s7', exS l8_law (envZ (scr ns) w t (.dat (.int k)) s4 s5 s6 s7 .none .none .none .none) = .nx (envZ (scr ns) w t' (.dat (.int k)) s4' s5' s6' s7' .none .none .none .none) ∧ t'.length ≤ t.length + 1 ∧ Slot.pl s4' = true ∧ Slot.pl s5' = true ∧ Slot.pl s6' = true ∧ Slot.pl s7' = true := by
  have hlim : t.length ≤ lim := by unfold lim; omega
  have v3 : evV (envZ (scr ns) w t (.dat (.int k)) s4 s5 s6 s7 .none .none .none .none) x3_law = .ok (.int (mixZ ns (91 + k))) := by
    rw [evV_plain (by simp [envZ, h4, h5, h6, h7])]
    show f_law_mix [scr ns, .int (91 + k)] = _
    exact mix_ok ns (91 + k)
  have hz := mix_nn ns (91 + k)
  generalize mixZ ns (91 + k) = z at *
  have hpos : (0 : Int) < (t.length : Int) + 1 := by omega
  have a0 := Int.emod_nonneg (z / 8) (Int.ne_of_gt hpos)
  have v4 : evV (envZ (scr ns) w t (.dat (.int k)) (.dat (.int z)) s5 s6 s7 .none .none .none .none) x4_law = .ok (.int (z / 8 % ((t.length : Int) + 1))) := by
    rw [evV_plain (by simp [envZ, h5, h6, h7])]
    unfold x4_law
    rw [evE_bin, evE_bin]
    show ((fdivD (.int z) (.int 8)).bind fun x => ((bi .len [.str t]).bind fun y => addD y (.int 1)).bind fun y => modD x y) = _
    rw [fdiv_int (by decide), bind_ok, len_str hlim, bind_ok, add_int, bind_ok, mod_int (decide_eq_true hpos)]
  generalize z / 8 % ((t.length : Int) + 1) = at_ at *
  obtain ⟨i, rfl⟩ : ∃ i : Nat, at_ = i := ⟨at_.toNat, by omega⟩
  obtain ⟨c, hc, hc1⟩ : ∃ c : Str, ixD (.str "0123 -\nplc7") (.int (z / 4096 % 11)) = .ok (.str c) ∧ c.length = 1 := by
    have h0 : 0 ≤ z / 4096 % 11 := by omega
    have h11 : (z / 4096 % 11).toNat < 11 := by omega
    have e : tl "0123 -\nplc7" = [48, 49, 50, 51, 32, 45, 10, 112, 108, 99, 55] := by decide +kernel
    have hlen : ("0123 -\nplc7" : Str).length ≤ lim := by rw [len_tl, e]; unfold lim; decide
    show ∃ c : Str, req (decide (("0123 -\nplc7" : Str).length ≤ lim)) ((ofO (pix (tl "0123 -\nplc7") (z / 4096 % 11))).bind fun c => Res.ok (PyData.str ⟨#[c]⟩)) = _ ∧ _
    rw [decide_eq_true hlen, e, pix_nn h0, List.getElem?_eq_getElem (by exact h11)]
    exact ⟨_, rfl, rfl⟩
  have v5 : evV (envZ (scr ns) w t (.dat (.int k)) (.dat (.int z)) (.dat (.int i)) s6 s7 .none .none .none .none) x5_law = .ok (.str c) := by
    rw [evV_plain (by simp [envZ, h6, h7])]
    unfold x5_law
    rw [evE_ix, evI1_str, evC_str, evE_str, bind_ok, evE_bin, evE_bin]
    show ((fdivD (.int z) (.int 4096)).bind fun x => modD x (.int 11)).bind (fun y => ixD (.str "0123 -\nplc7") y) = _
    rw [fdiv_int (by decide), bind_ok, mod_int (by decide), bind_ok, hc]
  obtain ⟨u, v, q1, q2, q3⟩ := sub_two hlim i i (Int.le_refl _)
  obtain ⟨u', v', r1, r2, r3⟩ := sub_two hlim i (i + 1) (by omega)
  rw [q1] at r1
  cases r1
  have big : 1000 ≤ lim := by unfold lim; decide
  have e1 : ∀ e, evE e (.var 2) = .ok (.str t) → evE e (.var 5) = .ok (.int i) → evC e (.var 2) = .ok (.str t) → evE e (.sl (.var 2) .nop (.var 5)) = .ok (.str u) := fun e h1 h2 h3 => by
    rw [evE_sl, h3, bind_ok, evO_nop, bind_ok, evO_var, h2, bind_ok, asInt_int, bind_ok, bind_ok, q1]
  have v6 : evV (envZ (scr ns) w t (.dat (.int k)) (.dat (.int z)) (.dat (.int i)) (.dat (.str c)) s7 .none .none .none .none) x6_law = .ok (.list [.str (u ++ c ++ v), .str (u ++ c ++ v'), .str (u ++ v')]) := by
    rw [evV_plain (by simp [envZ, h7])]
    unfold x6_law
    have f1 : evE (envZ (scr ns) w t (.dat (.int k)) (.dat (.int z)) (.dat (.int i)) (.dat (.str c)) s7 .none .none .none .none) (.sl (.var 2) .nop (.var 5)) = .ok (.str u) := e1 _ rfl rfl rfl
    have f2 : evE (envZ (scr ns) w t (.dat (.int k)) (.dat (.int z)) (.dat (.int i)) (.dat (.str c)) s7 .none .none .none .none) (.sl (.var 2) (.var 5) .nop) = .ok (.str v) := q2
    have f3 : evE (envZ (scr ns) w t (.dat (.int k)) (.dat (.int z)) (.dat (.int i)) (.dat (.str c)) s7 .none .none .none .none) (.sl (.var 2) (.bin .add (.var 5) (.int 1)) .nop) = .ok (.str v') := r2
    have f4 : evE (envZ (scr ns) w t (.dat (.int k)) (.dat (.int z)) (.dat (.int i)) (.dat (.str c)) s7 .none .none .none .none) (.var 6) = .ok (.str c) := rfl
    have g1 : addD (.str u) (.str c) = .ok (.str (u ++ c)) := add_str (by omega)
    have g2 : addD (.str (u ++ c)) (.str v) = .ok (.str (u ++ c ++ v)) := add_str (by rw [str_len_add]; omega)
    have g3 : addD (.str (u ++ c)) (.str v') = .ok (.str (u ++ c ++ v')) := add_str (by rw [str_len_add]; omega)
    have g4 : addD (.str u) (.str v') = .ok (.str (u ++ v')) := add_str (by omega)
    rw [evE_lst, evL_cons, evE_bin, evE_bin, f1, bind_ok, f4, bind_ok, run_add, g1, bind_ok, f2, bind_ok, g2, bind_ok]
    rw [evL_cons, evE_bin, evE_bin, f1, bind_ok, f4, bind_ok, run_add, g1, bind_ok, f3, bind_ok, g3, bind_ok]
    rw [evL_cons, evE_bin, f1, bind_ok, f3, bind_ok, run_add, g4, bind_ok, evL_nil, bind_ok, bind_ok, bind_ok]
    rfl
  obtain ⟨t', ht', hl'⟩ : ∃ t' : Str, ixD (.list [.str (u ++ c ++ v), .str (u ++ c ++ v'), .str (u ++ v')]) (.int (z % 3)) = .ok (.str t') ∧ t'.length ≤ t.length + 1 := by
    have h0 : 0 ≤ z % 3 := by omega
    have h3 : (z % 3).toNat < 3 := by omega
    show ∃ t' : Str, ofO (pix _ _) = _ ∧ _
    rw [pix_nn h0]
    generalize (z % 3).toNat = r at *
    match r, h3 with
    | 0, _ => exact ⟨_, rfl, by rw [str_len_add, str_len_add]; omega⟩
    | 1, _ => exact ⟨_, rfl, by rw [str_len_add, str_len_add]; omega⟩
    | 2, _ => exact ⟨_, rfl, by rw [str_len_add]; omega⟩
  have v7 : evV (envZ (scr ns) w t (.dat (.int k)) (.dat (.int z)) (.dat (.int i)) (.dat (.str c)) (.dat (.list [.str (u ++ c ++ v), .str (u ++ c ++ v'), .str (u ++ v')])) .none .none .none .none) x7_law = .ok (.str t') := by
    rw [evV_plain rfl]
    show (modD (.int z) (.int 3)).bind (fun y => ixD (.list [.str (u ++ c ++ v), .str (u ++ c ++ v'), .str (u ++ v')]) y) = _
    rw [mod_int (by decide), bind_ok, ht']
  refine ⟨t', .dat (.int z), .dat (.int i), .dat (.str c), .dat (.list [.str (u ++ c ++ v), .str (u ++ c ++ v'), .str (u ++ v')]), ?_, hl', rfl, rfl, rfl, rfl⟩
  unfold l8_law
  rw [exS_cons, exS_asg, v3, out_ok, seq_nx, show (envZ (scr ns) w t (.dat (.int k)) s4 s5 s6 s7 .none .none .none .none).set 4 (.dat (.int z)) = envZ (scr ns) w t (.dat (.int k)) (.dat (.int z)) s5 s6 s7 .none .none .none .none from rfl]
  rw [exS_cons, exS_asg, v4, out_ok, seq_nx, show (envZ (scr ns) w t (.dat (.int k)) (.dat (.int z)) s5 s6 s7 .none .none .none .none).set 5 (.dat (.int i)) = envZ (scr ns) w t (.dat (.int k)) (.dat (.int z)) (.dat (.int i)) s6 s7 .none .none .none .none from rfl]
  rw [exS_cons, exS_asg, v5, out_ok, seq_nx, show (envZ (scr ns) w t (.dat (.int k)) (.dat (.int z)) (.dat (.int i)) s6 s7 .none .none .none .none).set 6 (.dat (.str c)) = envZ (scr ns) w t (.dat (.int k)) (.dat (.int z)) (.dat (.int i)) (.dat (.str c)) s7 .none .none .none .none from rfl]
  rw [exS_cons, exS_asg, v6, out_ok, seq_nx, show (envZ (scr ns) w t (.dat (.int k)) (.dat (.int z)) (.dat (.int i)) (.dat (.str c)) s7 .none .none .none .none).set 7 (.dat (.list [.str (u ++ c ++ v), .str (u ++ c ++ v'), .str (u ++ v')])) = envZ (scr ns) w t (.dat (.int k)) (.dat (.int z)) (.dat (.int i)) (.dat (.str c)) (.dat (.list [.str (u ++ c ++ v), .str (u ++ c ++ v'), .str (u ++ v')])) .none .none .none .none from rfl]
  rw [exS_cons, exS_asg, v7]
  rfl
end Rwl

set_option Elab.async false
set_option linter.all false
set_option maxRecDepth 100000
set_option maxHeartbeats 1000000
namespace Rwl
open PySem TL
theorem law_true (ns : List Int) : f_law [scr ns] = .ok (.bool true) := by
  obtain ⟨m, ts, hweb, m0, m6, hts, hlen⟩ := web_ok ns 0 6 (by decide) (by decide)
  obtain ⟨n, rfl⟩ : ∃ n : Nat, m = n := ⟨m.toNat, by omega⟩
  have h : Wt n ts := ⟨by omega, hts, hlen⟩
  have hweb : f_law_web [scr ns, .int 0, .int 6] = .ok (webD n (ts.map tieD)) := hweb
  have htext := text_is h
  have hwrit := written_is h
  have htl := text_len h
  have hread : f_read [.str (textS n ts)] = .ok (webD n (ts.map tieD)) := by
    have q := read_is (t := textS n ts) (by omega)
    unfold readO at q
    rw [web_back h] at q
    exact q.1 h.look
  have heq := eq_web n ts
  generalize webD n (ts.map tieD) = w at *
  generalize textS n ts = T at *
  have v0 : evV [Slot.dat (scr ns), .none, .none, .none, .none, .none, .none, .none, .none, .none, .none, .none] x0_law = .ok w := by
    rw [evV_plain rfl]
    show f_law_web [scr ns, .int 0, .int 6] = _
    exact hweb
  have v1 : evV [Slot.dat (scr ns), .dat w, .none, .none, .none, .none, .none, .none, .none, .none, .none, .none] x1_law = .ok (.str T) := by
    rw [evV_plain rfl]
    show f_law_text [w] = _
    exact htext
  have v2 : evB (envZ (scr ns) w T .none .none .none .none .none .none .none .none .none) x2_law = .ok false := by
    rw [evB_plain rfl]
    unfold x2_law
    rw [evT_or, evTOr_cons]
    have a1 : evT (envZ (scr ns) w T .none .none .none .none .none .none .none .none .none) (.cmp .ne (.call 1 f_written (.cons (.var 1) .nil)) (.var 2)) = .ok false := by
      show (f_written [w]).bind (fun x => (eqD x (.str T)).nott) = _
      rw [hwrit, bind_ok, eq_str]
      simp
    have a2 : evT (envZ (scr ns) w T .none .none .none .none .none .none .none .none .none) (.cmp .ne (.call 4 f_read (.cons (.var 2) .nil)) (.var 1)) = .ok false := by
      show (f_read [.str T]).bind (fun x => (eqD x w).nott) = _
      rw [hread, bind_ok, heq]
      rfl
    rw [a1, bind_ok, evTOr_one, a2]
  -- the text is changed
  have hm := mix_nn ns 90
  have v3 : evI (envZ (scr ns) w T .none .none .none .none .none .none .none .none .none) (.rng1 (.bin .add (.int 1) (.bin .mod (.call 6 f_law_mix (.cons (.var 0) (.cons (.int 90) .nil))) (.int 2)))) = .ok (rngD 0 (((1 + mixZ ns 90 % 2).toNat : Nat) : Int)) := by
    refine rng1_ok ?_ (by omega) (by omega)
    show ((f_law_mix [scr ns, .int 90]).bind (fun x => modD x (.int 2))).bind (fun y => addD (.int 1) y) = _
    rw [mix_ok, bind_ok, mod_int (by decide), bind_ok, add_int]
    congr 2
    omega
  have hcnt : (1 + mixZ ns 90 % 2).toNat ≤ 2 := by omega
  generalize (1 + mixZ ns 90 % 2).toNat = cnt at *
  obtain ⟨env', g1, t, s3, s4, s5, s6, s7, rfl, tl1, p3, p4, p5, p6, p7⟩ := forGo_rng (f := fun d env => ((⟨false, [3]⟩ : Tg).run env d).out env (exS l8_law)) (m := 0) (n := cnt) (env := envZ (scr ns) w T .none .none .none .none .none .none .none .none .none)
    (I := fun i env => ∃ t s3 s4 s5 s6 s7, env = envZ (scr ns) w t s3 s4 s5 s6 s7 .none .none .none .none ∧ t.length ≤ 800 + i ∧ Slot.pl s3 = true ∧ Slot.pl s4 = true ∧ Slot.pl s5 = true ∧ Slot.pl s6 = true ∧ Slot.pl s7 = true)
    ⟨T, .none, .none, .none, .none, .none, rfl, by omega, rfl, rfl, rfl, rfl, rfl⟩
    (fun i env hi ⟨t, s3, s4, s5, s6, s7, he, q1, q3, q4, q5, q6, q7⟩ => by
      subst he
      rw [tg_one, out_ok]
      obtain ⟨t', s4', s5', s6', s7', r1, r2, r4, r5, r6, r7⟩ := l8_ok ns w t (0 + (i : Int)) s4 s5 s6 s7 q4 q5 q6 q7 (by omega)
      exact ⟨_, r1, t', _, s4', s5', s6', s7', rfl, by omega, rfl, r4, r5, r6, r7⟩)
  have ht9 : t.length ≤ 900 := by omega
  have hR := read_is ht9
  have hTr := tried_is ht9
  have pl7 : ∀ s8 s9 s10 s11 : Slot, Slot.pl s8 = true → Slot.pl s9 = true → Slot.pl s10 = true → Slot.pl s11 = true → Env.pl (envZ (scr ns) w t s3 s4 s5 s6 s7 s8 s9 s10 s11) = true := fun s8 s9 s10 s11 h8 h9 h10 h11 => by
    simp [envZ, p3, p4, p5, p6, p7, h8, h9, h10, h11]
  have v9 : evV (envZ (scr ns) w t s3 s4 s5 s6 s7 (.dat .none) (.dat .none) .none .none) x9_law = f_read [.str t] := by
    rw [evV_plain (pl7 _ _ _ _ rfl rfl rfl rfl)]
    rfl
  have start : ∀ o : Out, (exS (.cons (.tryk (.cons (.asg 9 x9_law) .nil) 5 8 10) <| .cons (.asg 11 x10_law) <| .cons (.ifs x11_law (.cons (.ret x12_law) .nil) (.nil)) <| .cons (.ifs x13_law (.cons (.ret (.bl false)) .nil) (.nil)) <| .cons (.asg 8 .non) <| .cons (.tryk (.cons (.drop x14_law) .nil) 5 8 10) <| .cons (.ret x15_law) <| .nil) (envZ (scr ns) w t s3 s4 s5 s6 s7 (.dat .none) (.dat .none) .none .none) = o) → f_law [scr ns] = outR o := fun o ho => by
    unfold f_law
    refine run1 ?_
    show exS b_law [Slot.dat (scr ns), .none, .none, .none, .none, .none, .none, .none, .none, .none, .none, .none] = _
    unfold b_law
    rw [exS_cons, exS_asg, v0, out_ok, seq_nx, show ([Slot.dat (scr ns), .none, .none, .none, .none, .none, .none, .none, .none, .none, .none, .none] : Env).set 1 (.dat w) = [Slot.dat (scr ns), .dat w, .none, .none, .none, .none, .none, .none, .none, .none, .none, .none] from rfl]
    rw [exS_cons, exS_asg, v1, out_ok, seq_nx, show ([Slot.dat (scr ns), .dat w, .none, .none, .none, .none, .none, .none, .none, .none, .none, .none] : Env).set 2 (.dat (.str T)) = envZ (scr ns) w T .none .none .none .none .none .none .none .none .none from rfl]
    rw [exS_cons, exS_ifs, v2, out_ok]
    dsimp only
    rw [exS_nil, seq_nx, exS_cons, exS_forr, v3, out_ok, rngD_nat, g1, seq_nx]
    rw [exS_cons, show exS (.asg 8 .non) (envZ (scr ns) w t s3 s4 s5 s6 s7 .none .none .none .none) = .nx (envZ (scr ns) w t s3 s4 s5 s6 s7 (.dat .none) .none .none .none) by rw [exS_asg, evV_plain (pl7 _ _ _ _ rfl rfl rfl rfl)]; rfl, seq_nx]
    rw [exS_cons, show exS (.asg 9 .non) (envZ (scr ns) w t s3 s4 s5 s6 s7 (.dat .none) .none .none .none) = .nx (envZ (scr ns) w t s3 s4 s5 s6 s7 (.dat .none) (.dat .none) .none .none) by rw [exS_asg, evV_plain (pl7 _ _ _ _ rfl rfl rfl rfl)]; rfl, seq_nx]
    exact ho
  -- nothing is read
  have fail : f_read [.str t] = .exc 3 → (triedD t = .none ∨ ∃ (m : Int) (us : List Tie), triedD t = webD m (us.map tieD) ∧ f_look_web [webD m (us.map tieD)] = .exc 4) → f_law [scr ns] = .ok (.bool true) := fun hr htr => by
    have v10 : evV (envZ (scr ns) w t s3 s4 s5 s6 s7 (.dat (exn 3)) (.dat .none) .none .none) x10_law = .ok (triedD t) := by
      rw [evV_plain (pl7 _ _ _ _ rfl rfl rfl rfl)]
      show f_law_tried [.str t] = _
      exact hTr
    have v11 : evB (envZ (scr ns) w t s3 s4 s5 s6 s7 (.dat (exn 3)) (.dat .none) .none (.dat (triedD t))) x11_law = .ok false := by
      rw [evB_plain (pl7 _ _ _ _ rfl rfl rfl rfl)]
      rcases htr with e | ⟨m, us, e, hl⟩
      · rw [e]; rfl
      · rw [e]
        show ((f_law_is_web [webD m (us.map tieD)]).bind tru) = _
        rw [is_web_no hl]
        rfl
    have v13 : evB (envZ (scr ns) w t s3 s4 s5 s6 s7 (.dat (exn 3)) (.dat .none) .none (.dat (triedD t))) x13_law = .ok false := by
      rw [evB_plain (pl7 _ _ _ _ rfl rfl rfl rfl)]
      show (f_law_refusal [exn 3]).bind (fun x => (eqD x (.str "text")).nott) = _
      rw [refusal_3]
      rfl
    have v14 : evR (envZ (scr ns) w t s3 s4 s5 s6 s7 (.dat .none) (.dat .none) .none (.dat (triedD t))) x14_law = .exc 4 := by
      rw [evR_plain (pl7 _ _ _ _ rfl rfl rfl rfl)]
      show f_written [webD 9 []] = _
      exact written_exc (look_m (by decide))
    have v15 : evR (envZ (scr ns) w t s3 s4 s5 s6 s7 (.dat (exn 4)) (.dat .none) .none (.dat (triedD t))) x15_law = .ok (.bool true) := by
      rw [evR_plain (pl7 _ _ _ _ rfl rfl rfl rfl)]
      show (f_law_refusal [exn 4]).bind (fun x => (eqD x (.str "web")).bind fun k => Res.ok (PyData.bool k)) = _
      rw [refusal_4]
      rfl
    have v8 : evV (envZ (scr ns) w t s3 s4 s5 s6 s7 (.dat (exn 3)) (.dat .none) .none (.dat (triedD t))) .non = .ok .none := by
      rw [evV_plain (pl7 _ _ _ _ rfl rfl rfl rfl)]
      rfl
    refine (start (.ret (.bool true)) ?_).trans rfl
    rw [exS_cons, exS_tryk, exS_cons, exS_asg, v9, hr]
    show exS (.cons (.asg 11 x10_law) <| .cons (.ifs x11_law (.cons (.ret x12_law) .nil) (.nil)) <| .cons (.ifs x13_law (.cons (.ret (.bl false)) .nil) (.nil)) <| .cons (.asg 8 .non) <| .cons (.tryk (.cons (.drop x14_law) .nil) 5 8 10) <| .cons (.ret x15_law) <| .nil) (envZ (scr ns) w t s3 s4 s5 s6 s7 (.dat (exn 3)) (.dat .none) .none .none) = _
    rw [exS_cons, exS_asg, v10, out_ok, seq_nx, show (envZ (scr ns) w t s3 s4 s5 s6 s7 (.dat (exn 3)) (.dat .none) .none .none).set 11 (.dat (triedD t)) = envZ (scr ns) w t s3 s4 s5 s6 s7 (.dat (exn 3)) (.dat .none) .none (.dat (triedD t)) from rfl]
    rw [exS_cons, exS_ifs, v11, out_ok]
    dsimp only
    rw [exS_nil, seq_nx, exS_cons, exS_ifs, v13, out_ok]
    dsimp only
    rw [exS_nil, seq_nx, exS_cons, exS_asg, v8, out_ok, seq_nx, show (envZ (scr ns) w t s3 s4 s5 s6 s7 (.dat (exn 3)) (.dat .none) .none (.dat (triedD t))).set 8 (.dat .none) = envZ (scr ns) w t s3 s4 s5 s6 s7 (.dat .none) (.dat .none) .none (.dat (triedD t)) from rfl]
    rw [exS_cons, exS_tryk, exS_cons, exS_drop, v14]
    show exS (.cons (.ret x15_law) <| .nil) (envZ (scr ns) w t s3 s4 s5 s6 s7 (.dat (exn 4)) (.dat .none) .none (.dat (triedD t))) = _
    rw [exS_cons, exS_ret, v15]
    rfl
  unfold readO at hR
  cases hw : webR t with
  | none =>
    rw [hw] at hR
    refine fail hR (.inl ?_)
    unfold triedD
    rw [hw]
  | some p =>
    obtain ⟨m, us⟩ := p
    rw [hw] at hR
    obtain ⟨r1, r2⟩ := hR
    have htd : triedD t = webD m (us.map tieD) := by unfold triedD; rw [hw]
    by_cases hi : isW m us
    · have hr := r1 hi
      rw [htd] at hTr
      have v10 : evV (envZ (scr ns) w t s3 s4 s5 s6 s7 (.dat .none) (.dat (webD m (us.map tieD))) .none .none) x10_law = .ok (webD m (us.map tieD)) := by
        rw [evV_plain (pl7 _ _ _ _ rfl rfl rfl rfl)]
        show f_law_tried [.str t] = _
        exact hTr
      have v11 : evB (envZ (scr ns) w t s3 s4 s5 s6 s7 (.dat .none) (.dat (webD m (us.map tieD))) .none (.dat (webD m (us.map tieD)))) x11_law = .ok true := by
        rw [evB_plain (pl7 _ _ _ _ rfl rfl rfl rfl)]
        show ((f_law_is_web [webD m (us.map tieD)]).bind tru) = _
        rw [is_web_yes hi]
        rfl
      have v12 : evR (envZ (scr ns) w t s3 s4 s5 s6 s7 (.dat .none) (.dat (webD m (us.map tieD))) .none (.dat (webD m (us.map tieD)))) x12_law = .ok (.bool true) := by
        rw [evR_plain (pl7 _ _ _ _ rfl rfl rfl rfl)]
        show (eqD (webD m (us.map tieD)) (webD m (us.map tieD))).bind (fun k => Res.ok (PyData.bool k)) = _
        rw [eq_web]
        rfl
      refine (start (.ret (.bool true)) ?_).trans rfl
      rw [exS_cons, exS_tryk, exS_cons, exS_asg, v9, hr]
      show exS (.cons (.asg 11 x10_law) <| .cons (.ifs x11_law (.cons (.ret x12_law) .nil) (.nil)) <| .cons (.ifs x13_law (.cons (.ret (.bl false)) .nil) (.nil)) <| .cons (.asg 8 .non) <| .cons (.tryk (.cons (.drop x14_law) .nil) 5 8 10) <| .cons (.ret x15_law) <| .nil) (envZ (scr ns) w t s3 s4 s5 s6 s7 (.dat .none) (.dat (webD m (us.map tieD))) .none .none) = _
      rw [exS_cons, exS_asg, v10, out_ok, seq_nx, show (envZ (scr ns) w t s3 s4 s5 s6 s7 (.dat .none) (.dat (webD m (us.map tieD))) .none .none).set 11 (.dat (webD m (us.map tieD))) = envZ (scr ns) w t s3 s4 s5 s6 s7 (.dat .none) (.dat (webD m (us.map tieD))) .none (.dat (webD m (us.map tieD))) from rfl]
      rw [exS_cons, exS_ifs, v11, out_ok]
      show (exS (.cons (.ret x12_law) .nil) (envZ (scr ns) w t s3 s4 s5 s6 s7 (.dat .none) (.dat (webD m (us.map tieD))) .none (.dat (webD m (us.map tieD))))).seq _ = _
      rw [exS_cons, exS_ret, v12]
      rfl
    · refine fail (r2 hi) (.inr ⟨m, us, htd, ?_⟩)
      refine not_isW ?_ hi
      -- no more rows than signs
      unfold webR at hw
      have cnt := split_count (x := t) sep_nl
      cases hsp : Txt.split t "\n" with
      | nil => rw [hsp] at hw; cases hw
      | cons r rs =>
        rw [hsp] at hw cnt
        rw [List.length_cons] at cnt
        dsimp only at hw
        split at hw
        · cases hts : tiesR rs with
          | none => rw [hts] at hw; cases hw
          | some vs =>
            rw [hts] at hw
            cases hw
            rw [tiesR_len hts]
            omega
        · cases hw
end Rwl

theorem PySem.Challenge.cw_rowlay_k40_texts_holds : PySem.Challenge.rw_rowlay_k40_texts.Holds := by
  exact Rwl.finL fun ns _ => Rwl.law_true ns
