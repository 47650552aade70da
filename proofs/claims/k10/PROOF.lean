import PyProof.Rows.All
import Wide.All
import OpenK.AllK
import Wide.FinOn
import HandS.ForMost
import HandS.Evl
import HandS.Conv
import HandS.Exc
import HandS.TryOnly
import HandS.ExcOwn
import HandS.ExcIs
import HandS.ExcValue
import HandS.SortInts
import HandS.Flow
import HandS.Style
import HandS.TupAny
import HandS.IsInst
import HandS.SortKw
import HandS.ForSpec
import HandS.Defaults
import HandS.Head0
import HandS.Head1
import HandS.Head2
import HandS.HeadEnd
import HandS.HeadHook1
import HandS.HeadHook2
import HandS.WordsExc
import KE.SortData
import KE.DataEq
import KE.DataMinMax
import KE.DataFind
import KE.GoesComp
import KE.KeyNested
import KE.KDictKeyed
import KE.KDictDisplayH
import KE.KDictCopyH
import KE.KDictSum
import HandS.Rev
import HandS.TupSets
import PySem.Challenge.RW_rowlay_k10_whole_deeds
set_option Elab.async false
set_option linter.all false
set_option maxRecDepth 100000
/-! Rwl, part A: the pure side. Values are PyData; an expression's and a statement's meaning as plain functions. No program, no heap. -/
namespace Rwl
open PySem

abbrev D := PyData
/-- what comes of something: a value, an exception of the class with that number, or nothing that this text speaks of -/
inductive Res (α : Type) where
  | ok (a : α) | exc (c : Nat) | bad
def Res.bind {α β : Type} : Res α → (α → Res β) → Res β
  | .ok a, f => f a
  | .exc c, _ => .exc c
  | .bad, _ => .bad
@[simp] theorem bind_ok {α β : Type} (a : α) (f : α → Res β) : (Res.ok a).bind f = f a := rfl
@[simp] theorem bind_exc {α β : Type} (c : Nat) (f : α → Res β) : (Res.exc c : Res α).bind f = .exc c := rfl
@[simp] theorem bind_bad {α β : Type} (f : α → Res β) : (Res.bad : Res α).bind f = .bad := rfl
/-- under a condition -/
def req {α : Type} (b : Bool) (r : Res α) : Res α := match b with
  | true => r
  | false => .bad
@[simp] theorem req_true {α : Type} (r : Res α) : req true r = r := rfl
@[simp] theorem req_false {α : Type} (r : Res α) : req false r = .bad := rfl
theorem req_of {α : Type} {b : Bool} (h : b = true) (r : Res α) : req b r = r := by rw [h]; rfl
def ofO {α : Type} : Option α → Res α
  | some a => .ok a
  | none => .bad
@[simp] theorem ofO_some {α : Type} (a : α) : ofO (some a) = .ok a := rfl
@[simp] theorem ofO_none {α : Type} : ofO (none : Option α) = .bad := rfl

def lim : Nat := 100000
/-- no dict within, at most n deep -/
def dep : Nat → D → Bool
  | _, .none => true
  | _, .bool _ => true
  | _, .int _ => true
  | _, .str _ => true
  | n + 1, .list xs => xs.all (dep n)
  | n + 1, .tuple xs => xs.all (dep n)
  | _, _ => false

/-! ### keys of dicts -/
mutual
/-- a datum as a key -/
def keyOf : D → NestedKey
  | .none => .none
  | .bool b => .num (if b = true then 1 else 0)
  | .int i => .num i
  | .str x => .text x
  | .tuple xs => .tup (keysOf xs)
  | .list _ => .none
  | .dict _ => .none
def keysOf : List D → List NestedKey
  | [] => []
  | d :: r => keyOf d :: keysOf r
end
/-- what may be a key: at most n deep -/
def kdep : Nat → D → Bool
  | _, .none => true
  | _, .bool _ => true
  | _, .int _ => true
  | _, .str _ => true
  | n + 1, .tuple xs => xs.all (kdep n)
  | _, _ => false
/-- a tuple that may be a key -/
def isKey : D → Bool
  | .tuple xs => kdep 4 (.tuple xs)
  | _ => false
/-- a dict with such keys -/
def ndD (kvs : List (D × D)) : D := .dict ((.tuple [], .none) :: kvs)
def ndOf : List (D × D) → Option (List (D × D))
  | (.tuple [], .none) :: r => some r
  | _ => none
theorem ndOf_of {kvs r : List (D × D)} (h : ndOf kvs = some r) : kvs = (.tuple [], .none) :: r := by
  unfold ndOf at h
  split at h
  · cases h; rfl
  · cases h
def nlook (kvs : List (D × D)) (k : D) : Option D := (kvs.find? fun kv => decide (keyOf kv.1 = keyOf k)).map (·.2)
def nput (kvs : List (D × D)) (k v : D) : List (D × D) :=
  if (nlook kvs k).isSome = true then kvs.map (fun kv => if keyOf kv.1 = keyOf k then (kv.1, v) else kv) else kvs ++ [(k, v)]
/-- k in d, d a dict with such keys -/
def inND (k : D) : D → Res Bool
  | .dict kvs => (ofO (ndOf kvs)).bind fun r => req (isKey k) (.ok (nlook r k).isSome)
  | _ => .bad
/-- sorted, of data that are compared one by one -/
def srtL (ds : List D) : Res D := req (ds.all (fun d => match d with | .tuple (_ :: _) => kdep 4 d | _ => false) && ds.all fun d => ds.all fun e => PySem.W.alike d e) (req (decide (ds.length ≤ lim)) (.ok (.list (ds.mergeSort (PySem.W.dataLe false id)))))
def srtD : D → Res D
  | .list ds => srtL ds
  | .dict kvs => (ofO (ndOf kvs)).bind fun r => srtL (r.map (·.1))
  | _ => .bad

mutual
/-- no text within -/
def plainK : NestedKey → Bool
  | .none => true
  | .num _ => true
  | .text _ => false
  | .tup ks => plainKs ks
def plainKs : List NestedKey → Bool
  | [] => true
  | k :: ks => plainK k && plainKs ks
end
/-- sorted of the set of them: all different, and none as large as another -/
def apart (ds : List D) : Prop := (ds.map keyOf).Nodup ∧ ds.Pairwise fun a b => (PySem.W.dataLe false id a b && PySem.W.dataLe false id b a) = false
instance (ds : List D) : Decidable (apart ds) := inferInstanceAs (Decidable (_ ∧ _))
def srsL (ds : List D) : Res D := req (ds.all (fun d => plainK (keyOf d)) && decide (ds.length < 300)) (req (decide (apart ds)) (srtL ds))
def srsD : D → Res D
  | .list ds => srsL ds
  | _ => .bad

/-! ### lists of one kind -/
def intL : List D → Option (List Int)
  | [] => some []
  | .int n :: r => (intL r).map (n :: ·)
  | _ :: _ => none
@[simp] theorem intL_map (ns : List Int) : intL (ns.map .int) = some ns := by
  induction ns with
  | nil => rfl
  | cons n r ih => simp [intL, ih]
theorem intL_of : ∀ {xs : List D} {ns : List Int}, intL xs = some ns → xs = ns.map .int
  | [], ns, h => by
    have e : [] = ns := Option.some.inj h
    subst e
    rfl
  | .int n :: r, ns, h => by
    simp only [intL, Option.map_eq_some_iff] at h
    obtain ⟨m, h1, rfl⟩ := h
    rw [intL_of h1]
    rfl
  | .none :: _, _, h => nomatch h
  | .bool _ :: _, _, h => nomatch h
  | .str _ :: _, _, h => nomatch h
  | .list _ :: _, _, h => nomatch h
  | .tuple _ :: _, _, h => nomatch h
  | .dict _ :: _, _, h => nomatch h
def bolL : List D → Option (List Bool)
  | [] => some []
  | .bool n :: r => (bolL r).map (n :: ·)
  | _ :: _ => none
@[simp] theorem bolL_map (ns : List Bool) : bolL (ns.map .bool) = some ns := by
  induction ns with
  | nil => rfl
  | cons n r ih => simp [bolL, ih]
theorem bolL_of : ∀ {xs : List D} {ns : List Bool}, bolL xs = some ns → xs = ns.map .bool
  | [], ns, h => by
    have e : [] = ns := Option.some.inj h
    subst e
    rfl
  | .bool n :: r, ns, h => by
    simp only [bolL, Option.map_eq_some_iff] at h
    obtain ⟨m, h1, rfl⟩ := h
    rw [bolL_of h1]
    rfl
  | .none :: _, _, h => nomatch h
  | .int _ :: _, _, h => nomatch h
  | .str _ :: _, _, h => nomatch h
  | .list _ :: _, _, h => nomatch h
  | .tuple _ :: _, _, h => nomatch h
  | .dict _ :: _, _, h => nomatch h
def strL : List D → Option (List Str)
  | [] => some []
  | .str n :: r => (strL r).map (n :: ·)
  | _ :: _ => none
@[simp] theorem strL_map (ns : List Str) : strL (ns.map .str) = some ns := by
  induction ns with
  | nil => rfl
  | cons n r ih => simp [strL, ih]
theorem strL_of : ∀ {xs : List D} {ns : List Str}, strL xs = some ns → xs = ns.map .str
  | [], ns, h => by
    have e : [] = ns := Option.some.inj h
    subst e
    rfl
  | .str n :: r, ns, h => by
    simp only [strL, Option.map_eq_some_iff] at h
    obtain ⟨m, h1, rfl⟩ := h
    rw [strL_of h1]
    rfl
  | .none :: _, _, h => nomatch h
  | .int _ :: _, _, h => nomatch h
  | .bool _ :: _, _, h => nomatch h
  | .list _ :: _, _, h => nomatch h
  | .tuple _ :: _, _, h => nomatch h
  | .dict _ :: _, _, h => nomatch h

/-! ### the operations -/
/-- the script: a list of intL that is read alone -/
def scr (ns : List Int) : D := .dict [(.bool true, .list (ns.map .int))]
/-- an exception of a class -/
def exn (c : Nat) : D := .dict [(.none, .int c)]
/-- the script's items; an exception's class -/
def scrOf : List (D × D) → Option (List D)
  | [(.bool true, .list xs)] => some xs
  | _ => none
theorem scrOf_of {kvs : List (D × D)} {xs : List D} (h : scrOf kvs = some xs) : kvs = [(.bool true, .list xs)] := by
  unfold scrOf at h
  split at h
  · cases h; rfl
  · cases h
def exnOf : List (D × D) → Option Nat
  | [(.none, .int (.ofNat c))] => some c
  | _ => none
theorem exnOf_of {kvs : List (D × D)} {c : Nat} (h : exnOf kvs = some c) : kvs = [(.none, .int c)] := by
  unfold exnOf at h
  split at h
  · cases h; rfl
  · cases h
def tru : D → Res Bool
  | .none => .ok false
  | .bool b => .ok b
  | .int i => .ok (i != 0)
  | .str s => req (decide (s.length ≤ lim)) (.ok ((s.length : Int) != 0))
  | .list xs => .ok (!xs.isEmpty)
  | .tuple xs => .ok (!xs.isEmpty)
  | .dict kvs => (ofO (scrOf kvs)).bind fun xs => req (intL xs).isSome (.ok (!xs.isEmpty))
inductive O2 where
  | add | sub | mul | fdiv | mod
def addD : D → D → Res D
  | .int a, .int b => .ok (.int (a + b))
  | .str a, .str b => req (decide (a.length + b.length ≤ lim)) (.ok (.str (a ++ b)))
  | .list a, .list b => req (decide (a.length + b.length ≤ lim)) (.ok (.list (a ++ b)))
  | .tuple a, .tuple b => req (decide (a.length + b.length ≤ lim)) (.ok (.tuple (a ++ b)))
  | _, _ => .bad
def subD : D → D → Res D
  | .int a, .int b => .ok (.int (a - b))
  | _, _ => .bad
def near64 (a : Int) : Bool := decide (-(2 ^ 64) < a) && decide (a < 2 ^ 64)
def mulD : D → D → Res D
  | .int a, .int b => req (near64 a || near64 b) (.ok (.int (a * b)))
  | .list xs, .int k => req (decide (-100000 ≤ k) && decide (k ≤ 100000) && decide (xs.length * k.toNat ≤ lim)) (.ok (.list (List.replicate k.toNat xs).flatten))
  | _, _ => .bad
def fdivD : D → D → Res D
  | .int a, .int b => req (decide (0 < b) && decide (b < 1073741824)) (.ok (.int (a / b)))
  | _, _ => .bad
def modD : D → D → Res D
  | .int a, .int b => req (decide (0 < b)) (.ok (.int (a % b)))
  | _, _ => .bad
def O2.run : O2 → D → D → Res D
  | .add => addD
  | .sub => subD
  | .mul => mulD
  | .fdiv => fdivD
  | .mod => modD
def lexLt : List Int → List Int → Bool
  | [], [] => false
  | [], _ :: _ => true
  | _ :: _, [] => false
  | x :: xs, y :: ys => if x = y then lexLt xs ys else decide (x < y)
inductive Cm where
  | lt | le | gt | ge | eq | ne | inn | nin | isn | ntn
def ltD : D → D → Res Bool
  | .int a, .int b => .ok (decide (a < b))
  | .tuple xs, .tuple ys => (ofO (intL xs)).bind fun ns => (ofO (intL ys)).bind fun ms => .ok (lexLt ns ms)
  | _, _ => .bad
def leD : D → D → Res Bool
  | .int a, .int b => .ok (decide (a ≤ b))
  | _, _ => .bad
def gtD : D → D → Res Bool
  | .int a, .int b => .ok (decide (b < a))
  | _, _ => .bad
def geD : D → D → Res Bool
  | .int a, .int b => .ok (decide (b ≤ a))
  | _, _ => .bad
def eqD (x y : D) : Res Bool := req (dep 8 x && dep 8 y) (.ok (PyData.eqv x y))
def inD (x : D) : D → Res Bool
  | .list ds => req (dep 8 x && ds.all (dep 8)) (.ok (ds.any fun z => PyData.eqv z x))
  | .tuple ds => req (dep 8 x && ds.all (dep 8)) (.ok (ds.any fun z => PyData.eqv z x))
  | .str s => match x with
    | .str ⟨a⟩ => match a.toList with
      | [c] => .ok (decide (c ∈ s.cps.toList))
      | _ => .bad
    | _ => .bad
  | _ => .bad
def nonD : D → Bool
  | .none => true
  | _ => false
def Res.nott (r : Res Bool) : Res Bool := r.bind fun b => .ok (!b)
def Cm.run : Cm → D → D → Res Bool
  | .lt, x, y => ltD x y
  | .le, x, y => leD x y
  | .gt, x, y => gtD x y
  | .ge, x, y => geD x y
  | .eq, x, y => eqD x y
  | .ne, x, y => (eqD x y).nott
  | .inn, x, y => inD x y
  | .nin, x, y => (inD x y).nott
  | .isn, x, y => req (nonD y) (.ok (nonD x))
  | .ntn, x, y => req (nonD y) (.ok (!nonD x))
def negD : D → Res D
  | .int i => .ok (.int (-i))
  | _ => .bad
/-- an index of any sign -/
def pix {α : Type} (xs : List α) (i : Int) : Option α := if 0 ≤ i then xs[i.toNat]? else if -(xs.length : Int) ≤ i then xs[(i + xs.length).toNat]? else none
def ixD : D → D → Res D
  | .list xs, .int i => ofO (pix xs i)
  | .tuple xs, .int i => ofO (pix xs i)
  | .str s, .int i => req (decide (s.length ≤ lim)) ((ofO (pix s.cps.toList i)).bind fun c => .ok (.str ⟨#[c]⟩))
  | .dict kvs, .int i => (ofO (scrOf kvs)).bind fun xs => req (intL xs).isSome (ofO (pix xs i))
  | .dict kvs, .tuple ds => (ofO (ndOf kvs)).bind fun r => req (isKey (.tuple ds)) (ofO (nlook r (.tuple ds)))
  | _, _ => .bad
/-- a slice's bound as a place among n -/
def sI (n d : Nat) : Option Int → Nat
  | none => d
  | some v => if v < 0 then (v + (n : Int)).toNat else min v.toNat n
def cut {α : Type} (xs : List α) (lo hi : Option Int) : List α := (xs.drop (sI xs.length 0 lo)).take (sI xs.length xs.length hi - sI xs.length 0 lo)
def slD (lo hi : Option Int) : D → Res D
  | .list xs => .ok (.list (cut xs lo hi))
  | .tuple xs => .ok (.tuple (cut xs lo hi))
  | .str s => req (decide (s.length ≤ lim)) (.ok (.str ⟨(cut s.cps.toList lo hi).toArray⟩))
  | _ => .bad
def revD : D → Res D
  | .list xs => .ok (.list xs.reverse)
  | _ => .bad
/-- sorted -/
def ins (x : Int) : List Int → List Int
  | [] => [x]
  | y :: r => if x ≤ y then x :: y :: r else y :: ins x r
def srt : List Int → List Int
  | [] => []
  | x :: r => ins x (srt r)
theorem ins_perm (x : Int) : ∀ l : List Int, (ins x l).Perm (x :: l)
  | [] => .refl _
  | y :: r => by
    unfold ins
    split
    · exact .refl _
    · exact ((ins_perm x r).cons y).trans (.swap x y r)
theorem srt_perm : ∀ l : List Int, (srt l).Perm l
  | [] => .refl _
  | x :: r => (ins_perm x (srt r)).trans ((srt_perm r).cons x)
theorem ins_sorted (x : Int) : ∀ {l : List Int}, l.Pairwise (· ≤ ·) → (ins x l).Pairwise (· ≤ ·)
  | [], _ => List.pairwise_singleton _ _
  | y :: r, h => by
    rw [List.pairwise_cons] at h
    unfold ins
    split
    · rename_i hxy
      refine List.pairwise_cons.mpr ⟨fun z hz => ?_, List.pairwise_cons.mpr h⟩
      rcases List.mem_cons.mp hz with rfl | hz
      · exact hxy
      · exact Int.le_trans hxy (h.1 z hz)
    · rename_i hxy
      refine List.pairwise_cons.mpr ⟨fun z hz => ?_, ins_sorted x h.2⟩
      rcases List.mem_cons.mp ((ins_perm x r).mem_iff.mp hz) with rfl | hz
      · omega
      · exact h.1 z hz
theorem srt_sorted : ∀ l : List Int, (srt l).Pairwise (· ≤ ·)
  | [] => .nil
  | x :: r => ins_sorted x (srt_sorted r)
theorem srt_is {ns ms : List Int} (p : ms.Perm ns) (r : ms.Pairwise (· ≤ ·)) : ms = srt ns :=
  List.Perm.eq_of_pairwise (fun x y _ _ h1 h2 => Int.le_antisymm h1 h2) r (srt_sorted ns) (p.trans (srt_perm ns).symm)
/-- built-in functions -/
inductive Bi where
  | len | abs | sum | max | min | max2 | min2 | sorted | list | int | str | all | any | tuple
def bi : Bi → List D → Res D
  | .len, [.list xs] => .ok (.int xs.length)
  | .len, [.tuple xs] => .ok (.int xs.length)
  | .len, [.str s] => req (decide (s.length ≤ lim)) (.ok (.int s.length))
  | .len, [.dict kvs] => (ofO (scrOf kvs)).bind fun xs => req (intL xs).isSome (.ok (.int xs.length))
  | .abs, [.int i] => .ok (.int (if i < 0 then -i else i))
  | .sum, [.list xs] => (ofO (intL xs)).bind fun ns => .ok (.int ns.sum)
  | .max, [.list xs] => (ofO (intL xs)).bind fun ns => match ns with
    | [] => .bad
    | n :: r => .ok (.int (r.foldl max n))
  | .min, [.list xs] => (ofO (intL xs)).bind fun ns => match ns with
    | [] => .bad
    | n :: r => .ok (.int (r.foldl min n))
  | .max2, [.int i, .int j] => .ok (.int (if j > i then j else i))
  | .min2, [.int i, .int j] => .ok (.int (if j < i then j else i))
  | .sorted, [.list xs] => (ofO (intL xs)).bind fun ns => .ok (.list ((srt ns).map .int))
  | .list, [.list xs] => .ok (.list xs)
  | .list, [.tuple xs] => .ok (.list xs)
  | .tuple, [.list xs] => .ok (.tuple xs)
  | .int, [.int i] => .ok (.int i)
  | .int, [.bool k] => .ok (.int (if k then 1 else 0))
  | .int, [.str x] => req (decide (x.length ≤ 640)) ((ofO (PySem.intText? x)).bind fun n => .ok (.int n))
  | .str, [.int i] => req (decide (i.natAbs < 2 ^ 1000)) (.ok (.str (toString i)))
  | .all, [.list xs] => (ofO (bolL xs)).bind fun bs => .ok (.bool (bs.all id))
  | .any, [.list xs] => (ofO (bolL xs)).bind fun bs => .ok (.bool (bs.any id))
  | _, _ => .bad
/-- what isinstance asks: a built-in type, a class of exceptions with those numbers below it -/
inductive Ty where
  | int | bool | tuple | cls (k : Nat)
/-- the classes of exceptions: c is k, or below it -/
def below (c k : Nat) : Bool := c == k || decide (5 ≤ k)
def isiD (x : D) : Ty → Res Bool
  | .int => match x with
    | .int _ => .ok true
    | .bool _ => .ok true
    | .none => .ok false
    | .str _ => .ok false
    | .list _ => .ok false
    | .tuple _ => .ok false
    | _ => .bad
  | .bool => match x with
    | .int _ => .ok false
    | .bool _ => .ok true
    | .none => .ok false
    | .str _ => .ok false
    | .list _ => .ok false
    | .tuple _ => .ok false
    | _ => .bad
  | .tuple => match x with
    | .int _ => .ok false
    | .bool _ => .ok false
    | .none => .ok false
    | .str _ => .ok false
    | .list _ => .ok false
    | .tuple _ => .ok true
    | _ => .bad
  | .cls k => match x with
    | .dict kvs => (ofO (exnOf kvs)).bind fun c => .ok (below c k)
    | _ => .bad
/-- methods of built-in types that change nothing -/
inductive Mt where
  | index | count
def mt : Mt → D → List D → Res D
  | .index, .list xs, [x] => req (dep 8 x && xs.all (dep 8)) ((ofO (xs.findIdx? fun z => PyData.eqv z x)).bind fun j => .ok (.int j))
  | .count, .list xs, [x] => req (dep 8 x && xs.all (dep 8)) (.ok (.int (xs.countP fun z => PyData.eqv z x)))
  | _, _, _ => .bad
/-- methods of texts -/
inductive Ms where
  | split | join
def msD : Ms → Str → List D → Res D
  | .split, x, [.str y] => req (decide (x.length ≤ lim) && !(y.length == 0)) (.ok (.list ((Txt.split x y).map .str)))
  | .join, x, [.list xs] => (ofO (strL xs)).bind fun ys => req (decide ((ys.map (·.length)).sum + ys.length * x.length ≤ 16777216)) (.ok (.str (Txt.join x ys)))
  | _, _, _ => .bad
def rngD (lo hi : Int) : List D := (List.range (hi - lo).toNat).map fun (i : Nat) => .int (lo + i)

/-! ### attributes -/
def attL (x : Str) : List (D × D) → Option D
  | (.str y, d) :: r => if y = x then some d else attL x r
  | _ => none
def attD (x : Str) : D → Res D
  | .dict ((.bool false, .int (.ofNat _)) :: kvs) => ofO (attL x kvs)
  | _ => .bad

/-! ### the frame -/
/-- an attribute of an object of the def's own: a value that nobody changes; a list of its own; a list of lists of its own -/
inductive Fl where
  | dat (d : D)
  | row (xs : List D)
  | old (xss : List (List D))
def Fl.frz : Fl → D
  | .dat d => d
  | .row xs => .list xs
  | .old xss => .list (xss.map .list)
/-- an object: the number of its class, its attributes -/
def objD (c : Nat) (fs : List (Str × D)) : D := .dict ((.bool false, .int c) :: fs.map fun f => (.str f.1, f.2))
/-- a name of the def: nothing known; a value that nobody changes; a list of the def's own; a dict (intL as keys) of the def's own; an object of its own -/
inductive Slot where
  | none
  | dat (d : D)
  | own (xs : List D)
  | dct (kvs : List (Int × D))
  | ins (t c : Nat) (fs : List (Str × Fl))
  | dcn (kvs : List (D × D))
  | rws (xss : List (List D))
  | obj (fs : List (Str × Fl))
  | hnd (n : Int) (xs ys : List D)
abbrev Env := List Slot
def Env.get (env : Env) (i : Nat) : Slot := (env[i]?).getD .none
/-- all that is owned is let go -/
def Slot.frz : Slot → Slot
  | .own xs => .dat (.list xs)
  | .dct _ => .none
  | .ins _ c fs => .dat (objD c (fs.map fun f => (f.1, f.2.frz)))
  | .dcn kvs => .dat (ndD kvs)
  | .rws xss => .dat (.list (xss.map .list))
  | .obj fs => .dat (objD 0 (fs.map fun f => (f.1, f.2.frz)))
  | .hnd _ _ _ => .none
  | s => s
def Env.frz (env : Env) : Env := env.map Slot.frz
def Env.wipe (env : Env) : List Nat → Env
  | [] => env
  | v :: vs => (Env.wipe env vs).set v .none
def attF (x : Str) : List (Str × Fl) → Option Fl
  | (y, f) :: r => if y = x then some f else attF x r
  | [] => none
def fput (x : Str) (f : Fl) : List (Str × Fl) → List (Str × Fl)
  | [] => [(x, f)]
  | (y, g) :: r => if y = x then (y, f) :: r else (y, g) :: fput x f r
def klook (kvs : List (Int × D)) (k : Int) : Option D := (kvs.find? fun kv => decide (kv.1 = k)).map (·.2)
def kput (kvs : List (Int × D)) (k : Int) (v : D) : List (Int × D) :=
  if (kvs.any fun kv => decide (kv.1 = k)) = true then kvs.map (fun kv => if kv.1 = k then (kv.1, v) else kv) else kvs ++ [(k, v)]
/-- targets: one name, or names -/
def bindT (env : Env) : List Nat → List D → Res Env
  | [], [] => .ok env
  | i :: is, d :: ds => bindT (env.set i (.dat d)) is ds
  | _, _ => .bad
/-- a loop's target: one name, or (true) names that take a tuple apart -/
structure Tg where
  many : Bool
  is : List Nat
def Tg.run (t : Tg) (env : Env) (d : D) : Res Env := match t.many with
  | false => bindT env t.is [d]
  | true => match d with
    | .tuple ds => bindT env t.is ds
    | _ => .bad

/-! ### expressions -/
inductive E where
  | var (i : Nat)
  | int (n : Int)
  | str (s : Str)
  | bl (b : Bool)
  | non
  | glb (x : Str) (d : D)
  | bin (o : O2) (a b : E)
  | neg (a : E)
  | not (a : E)
  | cmp (o : Cm) (a b : E)
  | ch2 (o p : Cm) (a b c : E)
  | ch3 (o p q : Cm) (a b c d : E)
  | and (es : E)
  | or (es : E)
  | ite (c a b : E)
  | nil
  | cons (a b : E)
  | tup (es : E)
  | lst (es : E)
  | ix (a i : E)
  | nop
  | sl (a lo hi : E)
  | rev (a : E)
  | bi (k : Bi) (es : E)
  | maxd (a d : E)
  | lrg (a : E)
  | isi (a : E) (t : Ty)
  | call (k : Nat) (f : List D → Res D) (es : E)
  | mt (m : Mt) (a es : E)
  | ms (m : Ms) (a es : E)
  | att (a : E) (x : Str)
  | mth (k : Nat) (m : Str) (f : List D → Res D) (a es : E)
  | mk (k : Nat) (f : List D → Res D) (es : E)
  | ind (n : Bool) (a b : E)
  | srt (a : E)
  | srs (a : E)
  | rvs (a : E)
  | lc (own : List Nat) (t : Tg) (it c e : E)
  | rng1 (a : E)
  | rng2 (a b : E)
/-- the turns of a comprehension -/
def lcRun (f : D → Res (Option D)) : List D → Res (List D)
  | [] => .ok []
  | d :: r => (f d).bind fun o => (lcRun f r).bind fun ds => .ok (o.toList ++ ds)
def asInt : D → Res Int
  | .int i => .ok i
  | _ => .bad
/-- what is walked: a list, a tuple, a text's signs -/
def seqOf : D → Res (List D)
  | .list xs => .ok xs
  | .tuple xs => .ok xs
  | .str x => req (decide (x.length ≤ lim)) (.ok (x.cps.toList.map fun c => .str ⟨#[c]⟩))
  | _ => .bad
/-- an expression's meanings: as a value, as a test; as arguments; of the operands of and, or, as values and as tests -/
structure Ev where
  v : Res D := .bad
  t : Res Bool := .bad
  l : Res (List D) := .bad
  an : Res D := .bad
  orr : Res D := .bad
  ta : Res Bool := .bad
  tr : Res Bool := .bad
def Ev.of (r : Res D) : Ev := { v := r, t := r.bind tru }
/-- a container that is looked into: a list of the def's own too -/
def pickC (env : Env) (e : E) (r : Res D) : Res D := match e with
  | .var i => match env.get i with
    | .dat d => .ok d
    | .own xs => .ok (.list xs)
    | .dcn kvs => .ok (ndD kvs)
    | _ => .bad
  | _ => r
/-- an attribute: of an object of the def's own too -/
def pickA (env : Env) (e : E) (x : Str) (r : Res D) : Res D := match e with
  | .var i => match env.get i with
    | .ins _ _ fs => match attF x fs with
      | some (.dat d) => .ok d
      | _ => .bad
    | _ => r.bind (attD x)
  | _ => r.bind (attD x)
/-- an object's method is called with the object ahead -/
def isObj (m : Str) : D → Bool
  | .dict ((.bool false, .int (.ofNat 0)) :: kvs) => (attL m kvs).isNone
  | _ => false
/-- a dict of the def's own -/
def evI1 (env : Env) : E → Option (List (Int × D))
  | .var i => match env.get i with
    | .dct kvs => some kvs
    | _ => none
  | _ => none
/-- a slice's bound, or none -/
def pickO (e : E) (r : Res D) : Res (Option Int) := match e with
  | .nop => .ok none
  | _ => r.bind fun x => (asInt x).bind fun i => .ok (some i)
/-- a comprehension's test, or none -/
def pickP (e : E) (r : Res Bool) : Res Bool := match e with
  | .nop => .ok true
  | _ => r
/-- a number that is asked for at once: whatever it was read from -/
def pickN (r r1 : Res D) : Res Int := match r with
  | .ok (.int n) => .ok n
  | .ok _ => .bad
  | .exc c => .exc c
  | .bad => r1.bind asInt
def ev : E → Env → Ev
  | .var i, env => {
    v := match env.get i with
      | .dat d => .ok d
      | _ => .bad
    t := match env.get i with
      | .own xs => .ok (!xs.isEmpty)
      | .dat d => tru d
      | _ => .bad }
  | .int n, _ => .of (.ok (.int n))
  | .str s, _ => .of (.ok (.str s))
  | .bl b, _ => .of (.ok (.bool b))
  | .non, _ => .of (.ok .none)
  | .glb _ d, _ => .of (.ok d)
  | .bin o a b, env => .of ((ev a env).v.bind fun x => (ev b env).v.bind fun y => o.run x y)
  | .neg a, env => .of ((ev a env).v.bind negD)
  | .not a, env => {
    v := (ev a env).v.bind fun x => (tru x).bind fun b => .ok (.bool (!b))
    t := (ev a env).t.bind fun b => .ok (!b) }
  | .cmp o a b, env => {
    v := (ev a env).v.bind fun x => (ev b env).v.bind fun y => (o.run x y).bind fun k => .ok (.bool k)
    t := (ev a env).v.bind fun x => (ev b env).v.bind fun y => o.run x y }
  | .ch2 o p a b c, env => .of ((ev a env).v.bind fun x => (ev b env).v.bind fun y => (o.run x y).bind fun k => match k with
    | false => .ok (.bool false)
    | true => (ev c env).v.bind fun z => (p.run y z).bind fun k => .ok (.bool k))
  | .ch3 o p q a b c d, env => .of ((ev a env).v.bind fun x => (ev b env).v.bind fun y => (o.run x y).bind fun k => match k with
    | false => .ok (.bool false)
    | true => (ev c env).v.bind fun z => (p.run y z).bind fun k => match k with
      | false => .ok (.bool false)
      | true => (ev d env).v.bind fun w => (q.run z w).bind fun k => .ok (.bool k))
  | .and es, env => { v := (ev es env).an, t := (ev es env).ta }
  | .or es, env => { v := (ev es env).orr, t := (ev es env).tr }
  | .ite c a b, env => {
    v := (ev c env).t.bind fun k => match k with
      | true => (ev a env).v
      | false => (ev b env).v }
  | .nil, _ => { l := .ok [] }
  | .cons a b, env => {
    l := (ev a env).v.bind fun x => (ev b env).l.bind fun xs => .ok (x :: xs)
    an := match b with
      | .nil => (ev a env).v
      | _ => (ev a env).v.bind fun x => (tru x).bind fun k => match k with
        | true => (ev b env).an
        | false => .ok x
    orr := match b with
      | .nil => (ev a env).v
      | _ => (ev a env).v.bind fun x => (tru x).bind fun k => match k with
        | true => .ok x
        | false => (ev b env).orr
    ta := match b with
      | .nil => (ev a env).t
      | _ => (ev a env).t.bind fun k => match k with
        | true => (ev b env).ta
        | false => .ok false
    tr := match b with
      | .nil => (ev a env).t
      | _ => (ev a env).t.bind fun k => match k with
        | true => .ok true
        | false => (ev b env).tr }
  | .tup es, env => .of ((ev es env).l.bind fun ds => req (decide (ds.length ≤ lim)) (.ok (.tuple ds)))
  | .lst es, env => .of ((ev es env).l.bind fun ds => req (decide (ds.length ≤ lim)) (.ok (.list ds)))
  | .ix a i, env => .of (match evI1 env a with
    | some kvs => (ev i env).v.bind fun y => (asInt y).bind fun k => ofO (klook kvs k)
    | none => (pickC env a (ev a env).v).bind fun x => (ev i env).v.bind fun y => ixD x y)
  | .nop, _ => {}
  | .sl a lo hi, env => .of ((pickC env a (ev a env).v).bind fun x => (pickO lo (ev lo env).v).bind fun l => (pickO hi (ev hi env).v).bind fun h => slD l h x)
  | .rev a, env => .of ((pickC env a (ev a env).v).bind revD)
  | .bi k es, env => .of ((ev es env).l.bind fun ds => Rwl.bi k ds)
  | .maxd a d, env => .of ((ev a env).v.bind fun x => (ev d env).v.bind fun y => match x with
    | .list xs => (ofO (intL xs)).bind fun ns => match ns with
      | [] => .ok y
      | n :: r => .ok (.int (r.foldl max n))
    | _ => .bad)
  | .lrg a, env => .of ((ev a env).v.bind fun x => (asInt x).bind fun n => req (decide (0 ≤ n) && decide (n ≤ 100000)) (.ok (.list (rngD 0 n))))
  | .isi a t, env => .of ((ev a env).v.bind fun x => (isiD x t).bind fun b => .ok (.bool b))
  | .call _ f es, env => .of ((ev es env).l.bind f)
  | .mt m a es, env => .of ((ev a env).v.bind fun x => match x with
    | .list xs => (ev es env).l.bind fun ds => Rwl.mt m (.list xs) ds
    | _ => .bad)
  | .att a x, env => .of (pickA env a x (ev a env).v)
  | .mth _ m f a es, env => .of ((ev a env).v.bind fun o => req (isObj m o) ((ev es env).l.bind fun ds => f (o :: ds)))
  | .mk _ f es, env => .of ((ev es env).l.bind f)
  | .ind n a b, env => .of ((ev a env).v.bind fun x => (pickC env b (ev b env).v).bind fun y => (inND x y).bind fun k => .ok (.bool (xor n k)))
  | .srt a, env => .of ((pickC env a (ev a env).v).bind srtD)
  | .srs a, env => .of ((pickC env a (ev a env).v).bind srsD)
  | .rvs a, env => .of ((ev a env).v.bind revD)
  | .ms m a es, env => .of ((ev a env).v.bind fun x => match x with
    | .str s => (ev es env).l.bind fun ds => msD m s ds
    | _ => .bad)
  | .lc own t it c e, env => .of (((ev it env).v.bind seqOf).bind fun ds => req (decide (ds.length ≤ lim)) ((lcRun (fun d => (t.run (env.wipe own) d).bind fun env' => (pickP c (ev c env').t).bind fun k => match k with
    | true => (ev e env').v.bind fun y => .ok (some y)
    | false => .ok none) ds).bind fun ys => .ok (.list ys)))
  | .rng1 a, env => .of ((pickN (ev a env).v (ev a env.frz).v).bind fun n => req (decide (-1000000 ≤ n) && decide (n ≤ 1000000)) (.ok (.list (rngD 0 n))))
  | .rng2 a b, env => .of ((pickN (ev a env).v (ev a env.frz).v).bind fun m => (pickN (ev b env).v (ev b env.frz).v).bind fun n =>
    req (decide (-1000000 ≤ m) && decide (m ≤ 1000000) && decide (-1000000 ≤ n) && decide (n ≤ 1000000)) (.ok (.list (rngD m n))))
def evE (env : Env) (e : E) : Res D := (ev e env).v
def evT (env : Env) (e : E) : Res Bool := (ev e env).t
def evL (env : Env) (e : E) : Res (List D) := (ev e env).l
def evAnd (env : Env) (e : E) : Res D := (ev e env).an
def evOr (env : Env) (e : E) : Res D := (ev e env).orr
def evTAnd (env : Env) (e : E) : Res Bool := (ev e env).ta
def evTOr (env : Env) (e : E) : Res Bool := (ev e env).tr
def evC (env : Env) (e : E) : Res D := pickC env e (evE env e)
def evO (env : Env) (e : E) : Res (Option Int) := pickO e (evE env e)
def evP (env : Env) (e : E) : Res Bool := pickP e (evT env e)
def evI (env : Env) (e : E) : Res (List D) := (evE env e).bind seqOf

/-- what comes of a call that changes an object -/
inductive Rm where
  | ok (fs : List (Str × Fl)) (d : D) | exc (c : Nat) (fs : List (Str × Fl)) | bad
abbrev Fm := List (Str × Fl) → List D → Rm

/-! ### statements -/
inductive S where
  | nil
  | cons (s r : S)
  | asg (i : Nat) (e : E)
  | asgT (is : List Nat) (e : E)
  | new (i : Nat) (e : E)
  | newd (i : Nat)
  | app (i : Nat) (e : E)
  | ext (i : Nat) (e : E)
  | seti (i : Nat) (k e : E)
  | setd (i : Nat) (k e : E)
  | appPop (i j : Nat) (e : E)
  | seta (i : Nat) (x : Str) (e : E)
  | newn (i : Nat)
  | newk (i : Nat) (k e : E)
  | setn (i : Nat) (k e : E)
  | newr (i : Nat) (own : List Nat) (t : Nat) (it : E)
  | appr (i : Nat) (k e : E)
  | forp (t : Tg) (j k : Nat) (m : Str) (f : List D → Res D) (a : E) (b : S)
  | drop (e : E)
  | ifs (c : E) (a b : S)
  | forr (t : Tg) (it : E) (b : S)
  | whil (n : Nat) (c : E) (b : S)
  | ret (e : E)
  | rai (c : Nat)
  | brk
  | tryk (b : S) (c k n : Nat)
  | frz
  | retf (i : Nat)
  | rete (e : E)
  | retc (k : Nat) (f : List D → Res D) (es : E)
  | retm (e : E)
  | dapp (k : Nat) (m : Str) (f : List D → Res D) (a e : E)
  | callm (i k : Nat) (m : Str) (f : Fm) (es : E)
  | ifx (me : Bool) (i k : Nat) (x : Str) (f : Fm) (es e : E) (a b : S)
  | frz1 (i : Nat)
  | fapp (i : Nat) (x y : Str)
  | fswp (i : Nat) (x : Str) (a b : Nat)
  | fins (i : Nat) (x : Str) (a b : Nat)
  | frev (i : Nat) (x : Str) (a b : Nat)
  | fpop (i : Nat) (x y : Str)
  | swp (i a b : Nat)
  | par (i j : Nat) (a b : E)
  | setr (i : Nat) (x : Str) (e : E)
  | seto (i : Nat) (x : Str)
  | hnew (i w r : Nat)
  | hmk (i h k : Nat) (f : Fm)
  | happ (i : Nat) (z : Bool) (e : E)
inductive Out where
  | nx (env : Env) | brk (env : Env) | ret (d : D) | exc (c : Nat) (env : Env) | bad | retf (xs : List D) | retm (d : D) (env : Env)
/-- an expression's value in a statement -/
def Res.out {α : Type} (r : Res α) (env : Env) (f : α → Out) : Out := match r with
  | .ok a => f a
  | .exc c => .exc c env
  | .bad => .bad
@[simp] theorem out_ok {α : Type} (a : α) (env : Env) (f : α → Out) : (Res.ok a).out env f = f a := rfl
@[simp] theorem out_exc {α : Type} (c : Nat) (env : Env) (f : α → Out) : (Res.exc c : Res α).out env f = .exc c env := rfl
@[simp] theorem out_bad {α : Type} (env : Env) (f : α → Out) : (Res.bad : Res α).out env f = .bad := rfl
def Out.seq (o : Out) (f : Env → Out) : Out := match o with
  | .nx env => f env
  | o => o
@[simp] theorem seq_nx (env : Env) (f : Env → Out) : (Out.nx env).seq f = f env := rfl
@[simp] theorem seq_brk (env : Env) (f : Env → Out) : (Out.brk env).seq f = .brk env := rfl
@[simp] theorem seq_ret (d : D) (f : Env → Out) : (Out.ret d).seq f = .ret d := rfl
@[simp] theorem seq_exc (c : Nat) (env : Env) (f : Env → Out) : (Out.exc c env).seq f = .exc c env := rfl
@[simp] theorem seq_bad (f : Env → Out) : Out.bad.seq f = .bad := rfl
@[simp] theorem seq_retf (xs : List D) (f : Env → Out) : (Out.retf xs).seq f = .retf xs := rfl
@[simp] theorem seq_retm (d : D) (env : Env) (f : Env → Out) : (Out.retm d env).seq f = .retm d env := rfl
/-- behind a loop's turn -/
def Out.turn (o : Out) (f : Env → Out) : Out := match o with
  | .nx env => f env
  | .brk env => .nx env
  | o => o
@[simp] theorem turn_nx (env : Env) (f : Env → Out) : (Out.nx env).turn f = f env := rfl
@[simp] theorem turn_brk (env : Env) (f : Env → Out) : (Out.brk env).turn f = .nx env := rfl
@[simp] theorem turn_ret (d : D) (f : Env → Out) : (Out.ret d).turn f = .ret d := rfl
@[simp] theorem turn_exc (c : Nat) (env : Env) (f : Env → Out) : (Out.exc c env).turn f = .exc c env := rfl
@[simp] theorem turn_bad (f : Env → Out) : Out.bad.turn f = .bad := rfl
@[simp] theorem turn_retf (xs : List D) (f : Env → Out) : (Out.retf xs).turn f = .retf xs := rfl
@[simp] theorem turn_retm (d : D) (env : Env) (f : Env → Out) : (Out.retm d env).turn f = .retm d env := rfl
def forGo (f : D → Env → Out) : List D → Env → Out
  | [], env => .nx env
  | d :: r, env => (f d env).turn (forGo f r)
def whGo (c : Env → Res Bool) (b : Env → Out) : Nat → Env → Out
  | 0, _ => .bad
  | n + 1, env => (c env).out env fun k => match k with
    | true => (b env).turn (whGo c b n)
    | false => .nx env
/-- none, a truth, a number, a text: what no list holds on to -/
def scal : D → Bool
  | .none => true
  | .bool _ => true
  | .int _ => true
  | .str _ => true
  | _ => false
/-- a value that may be kept: a scalar, whatever was read on the way; else reckoned from what nobody changes -/
def evV (env : Env) (e : E) : Res D := match evE env.frz e with
  | .ok d => match scal d with
    | true => .ok d
    | false => evE env e
  | .exc c => .exc c
  | .bad => evE env e
/-- a value that leaves, or is dropped: all may be let go; if that does not do, from what nobody changes -/
def evR (env : Env) (e : E) : Res D := match evE env.frz e with
  | .bad => evE env e
  | .ok d => .ok d
  | .exc c => .exc c
def evB (env : Env) (e : E) : Res Bool := match evT env.frz e with
  | .bad => evT env e
  | .ok d => .ok d
  | .exc c => .exc c
/-- a fresh list -/
def fresh : E → Bool
  | .lst _ => true
  | .lc _ _ _ _ _ => true
  | .bi .list _ => true
  | .lrg _ => true
  | .sl _ _ _ => true
  | .bin .mul _ _ => true
  | .bin .add _ _ => true
  | _ => false
/-- an object of the def's own: its attributes, the slot with others -/
def Slot.selfO : Slot → Option (List (Str × Fl) × (List (Str × Fl) → Slot))
  | .ins t 0 fs => some (fs, .ins t 0)
  | .obj fs => some (fs, .obj)
  | _ => Option.none
/-- a call that changes the object of slot i -/
def stx (env : Env) (i : Nat) (m : Str) (f : Fm) (r : Res (List D)) (k : Env → D → Out) : Out := match (env.get i).selfO with
  | some (fs, mk) => match (attF m fs).isNone with
    | true => r.out env fun ds => match f fs ds with
      | .ok fs' d => match scal d with
        | true => k (env.set i (mk fs')) d
        | false => .bad
      | .exc c fs' => .exc c (env.set i (mk fs'))
      | .bad => .bad
    | false => .bad
  | none => .bad
/-- a list that leaves -/
def asF : D → Out
  | .list xs => .retf xs
  | _ => .bad
def vInt (env : Env) (a : Nat) : Option Int := match env.get a with
  | .dat (.int i) => some i
  | _ => none
/-- two places of a list -/
def two (env : Env) (a b n : Nat) : Option (Nat × Nat) := match vInt env a, vInt env b with
  | some i, some j => match decide (0 ≤ i) && decide (i < n) && decide (0 ≤ j) && decide (j < n) with
    | true => some (i.toNat, j.toNat)
    | false => none
  | _, _ => none
/-- a stretch of a list -/
def strch (env : Env) (a b n : Nat) : Option (Nat × Nat) := match vInt env a, vInt env b with
  | some i, some j => match decide (0 ≤ i) && decide (i ≤ j) && decide (j ≤ n) with
    | true => some (i.toNat, j.toNat)
    | false => none
  | _, _ => none
def swpL (xs : List D) (i j : Nat) : List D := (xs.set i (xs.getD j .none)).set j (xs.getD i .none)
def insL (xs : List D) (i j : Nat) : List D := (xs.eraseIdx i).take j ++ [xs.getD i .none] ++ (xs.eraseIdx i).drop j
def revL (xs : List D) (i j : Nat) : List D := xs.take i ++ ((xs.drop i).take (j - i)).reverse ++ xs.drop j
/-- the own list x of the own object at i is changed -/
def fchg (env : Env) (i : Nat) (x : Str) (g : List D → Option (List D)) : Out := match env.get i with
  | .ins t c fs => match attF x fs with
    | some (.row xs) => match decide (xs.length < lim) with
      | true => match g xs with
        | some ys => .nx (env.set i (.ins t c (fput x (.row ys) fs)))
        | none => .bad
      | false => .bad
    | _ => .bad
  | _ => .bad
def exS : S → Env → Out
  | .nil, env => .nx env
  | .cons s r, env => (exS s env).seq (exS r)
  | .asg i e, env => (evV env e).out env fun d => .nx (env.set i (.dat d))
  | .asgT is e, env => (evV env e).out env fun d => match d with
    | .tuple ds => (bindT env is ds).out env .nx
    | _ => .bad
  | .new i e, env => (evE env e).out env fun d => match d with
    | .list xs => .nx (env.set i (.own xs))
    | _ => .bad
  | .newd i, env => .nx (env.set i (.dct []))
  | .app i e, env => match env.get i with
    | .own xs => (evV env e).out env fun d => match decide (xs.length < lim) with
      | true => .nx (env.set i (.own (xs ++ [d])))
      | false => .bad
    | _ => .bad
  | .ext i e, env => match env.get i with
    | .own xs => (evV env e).out env fun d => match d with
      | .list ys => match decide (xs.length + ys.length < lim) with
        | true => .nx (env.set i (.own (xs ++ ys)))
        | false => .bad
      | _ => .bad
    | _ => .bad
  | .seti i k e, env => match env.get i with
    | .own xs => (evV env e).out env fun d => (evV env k).out env fun y => match y with
      | .int j => match decide (0 ≤ j) && decide (j < xs.length) with
        | true => .nx (env.set i (.own (xs.set j.toNat d)))
        | false => .bad
      | _ => .bad
    | _ => .bad
  | .setd i k e, env => match env.get i with
    | .dct kvs => (evV env e).out env fun d => (evV env k).out env fun y => match y with
      | .int j => match decide (kvs.length < lim) with
        | true => .nx (env.set i (.dct (kput kvs j d)))
        | false => .bad
      | _ => .bad
    | _ => .bad
  | .appPop i j e, env => match env.get i, env.get j with
    | .own xs, .own ys => (evV env e).out env fun y => match y with
      | .int k => match decide (0 ≤ k) && decide (k < ys.length) && decide (xs.length < lim) && decide (ys.length < lim) && (i != j) with
        | true => .nx ((env.set j (.own (ys.eraseIdx k.toNat))).set i (.own (xs ++ [ys.getD k.toNat .none])))
        | false => .bad
      | _ => .bad
    | _, _ => .bad
  | .seta i x e, env => match env.get i with
    | .ins t c fs => (evV env e).out env fun d => match decide (fs.length < 900) with
      | true => .nx (env.set i (.ins t c (fput x (.dat d) fs)))
      | false => .bad
    | _ => .bad
  | .newn i, env => .nx (env.set i (.dcn []))
  | .newk i k e, env => (evV env k).out env fun x => (evV env e).out env fun d => match isKey x with
    | true => .nx (env.set i (.dcn [(x, d)]))
    | false => .bad
  | .setn i k e, env => match env.get i with
    | .dcn kvs => (evV env e).out env fun d => (evV env k).out env fun y => match isKey y && decide (kvs.length < lim) with
      | true => .nx (env.set i (.dcn (nput kvs y d)))
      | false => .bad
    | _ => .bad
  | .newr i _ _ it, env => (evI env it).out env fun ds => match decide (ds.length ≤ 1000) with
    | true => .nx (env.set i (.rws (List.replicate ds.length [])))
    | false => .bad
  | .appr i k e, env => match env.get i with
    | .rws xss => (evE env k).out env fun y => match y with
      | .int j => match decide (0 ≤ j) && decide (j < xss.length) with
        | true => (evE env e).out env fun d => match decide ((xss.getD j.toNat []).length < lim) with
          | true => .nx (env.set i (.rws (xss.set j.toNat (xss.getD j.toNat [] ++ [d]))))
          | false => .bad
        | false => .bad
      | _ => .bad
    | _ => .bad
  | .forp t j _ m f a b, env => match env.get j with
    | .own xs => match xs.getLast? with
      | some d => (evE env a).out env fun o => match isObj m o with
        | true => (f [o, d]).out (env.set j (.own xs.dropLast)) fun l => match l with
          | .list ds => forGo (fun d env => (t.run env d).out env (exS b)) ds (env.set j (.own xs.dropLast))
          | _ => .bad
        | false => .bad
      | none => .bad
    | _ => .bad
  | .drop e, env => (evR env e).out env fun _ => .nx env
  | .ifs c a b, env => (evB env c).out env fun k => match k with
    | true => exS a env
    | false => exS b env
  | .forr t it b, env => (evI env it).out env fun ds => forGo (fun d env => (t.run env d).out env (exS b)) ds env
  | .whil n c b, env => whGo (fun env => evB env c) (exS b) n env
  | .ret e, env => (evR env e).out env .ret
  | .rai c, env => .exc c env
  | .brk, env => .brk env
  | .tryk b c k n, env => match exS b env with
    | .exc c' env' => match decide (c' < 5), below c' c with
      | true, true => .nx ((env'.set k (.dat (exn c'))).set n .none)
      | true, false => .exc c' env'
      | false, _ => .bad
    | o => o
  | .frz, env => .nx env.frz
  | .retf i, env => match env.get i with
    | .own xs => .retf xs
    | _ => .bad
  | .rete e, env => (evE env e).out env asF
  | .retc _ f es, env => ((evL env es).bind f).out env asF
  | .retm e, env => (evV env e).out env fun d => match scal d with
    | true => .retm d env
    | false => .bad
  | .dapp _ m f a e, env => ((evE env a).bind fun o => req (isObj m o) (f [o])).out env fun d => match d with
    | .list xs => (evE env e).out env fun _ => match decide (xs.length < lim) with
      | true => .nx env
      | false => .bad
    | _ => .bad
  | .callm i _ m f es, env => stx env i m f (evL env es) fun env' _ => .nx env'
  | .ifx _ i _ x f es e a b, env => stx env i x f (evL env es) fun env' d => (evV env' e).out env' fun y => (eqD d y).out env' fun q => match q with
    | true => exS b env'
    | false => exS a env'
  | .frz1 i, env => match env.get i with
    | .own xs => .nx (env.set i (.dat (.list xs)))
    | _ => .bad
  | .fapp i x y, env => match env.get i with
    | .ins t c fs => match attF x fs, attF y fs with
      | some (.old xss), some (.row xs) => match decide (xss.length < lim) with
        | true => .nx (env.set i (.ins t c (fput x (.old (xss ++ [xs])) fs)))
        | false => .bad
      | _, _ => .bad
    | _ => .bad
  | .fswp i x a b, env => fchg env i x fun xs => (two env a b xs.length).map fun ij => swpL xs ij.1 ij.2
  | .fins i x a b, env => fchg env i x fun xs => (two env a b xs.length).map fun ij => insL xs ij.1 ij.2
  | .frev i x a b, env => fchg env i x fun xs => (strch env a b xs.length).map fun ij => revL xs ij.1 ij.2
  | .fpop i x y, env => match env.get i with
    | .ins t c fs => match attF x fs, attF y fs with
      | some (.old xss), some (.row _) => match xss.getLast? with
        | some ys => match decide (fs.length < 900) && decide (x ≠ y) with
          | true => .nx (env.set i (.ins t c (fput y (.row ys) (fput x (.old xss.dropLast) fs))))
          | false => .bad
        | none => .bad
      | _, _ => .bad
    | _ => .bad
  | .swp i a b, env => match env.get i with
    | .own xs => match two env a b xs.length with
      | some (j, k) => .nx (env.set i (.own (swpL xs j k)))
      | none => .bad
    | _ => .bad
  | .par i j a b, env => (evE env a).out env fun x => (evE env b).out env fun y => .nx ((env.set i (.dat x)).set j (.dat y))
  | .setr i x e, env => match env.get i with
    | .ins t c fs => (evE env e).out env fun d => match d with
      | .list xs => match (attF x fs).isNone && decide (fs.length < 900) with
        | true => .nx (env.set i (.ins t c (fs ++ [(x, .row xs)])))
        | false => .bad
      | _ => .bad
    | _ => .bad
  | .seto i x, env => match env.get i with
    | .ins t c fs => match (attF x fs).isNone && decide (fs.length < 900) with
      | true => .nx (env.set i (.ins t c (fs ++ [(x, .old [])])))
      | false => .bad
    | _ => .bad
  | .hnew i w r, env => match env.get w, env.get r with
    | .dat (.tuple [.int n, .list xs]), .dat (.list ys) => .nx (env.set i (.hnd n xs ys))
    | _, _ => .bad
  | .hmk i h _ f, env => match env.get h with
    | .hnd n xs ys => match f [] [.tuple [.int n, .list xs], .list ys] with
      | .ok fs _ => .nx (env.set i (.obj fs))
      | _ => .bad
    | _ => .bad
  | .happ i z e, env => match env.get i with
    | .hnd n xs ys => (evE env e).out env fun d => match decide (xs.length < lim) && decide (ys.length < lim) with
      | true => .nx (env.set i (match z with
        | true => .hnd n (xs ++ [d]) ys
        | false => .hnd n xs (ys ++ [d])))
      | false => .bad
    | _ => .bad
/-- a def: np parameters, n names -/
def run (np n : Nat) (b : S) (ds : List D) : Res D := match decide (ds.length = np) with
  | true => match exS b (ds.map .dat ++ List.replicate (n - np) .none) with
    | .ret d => .ok d
    | .nx _ => .ok .none
    | .exc c _ => .exc c
    | .retf xs => .ok (.list xs)
    | .retm d _ => .ok d
    | _ => .bad
  | false => .bad
/-- a def that gives a new list -/
def runF (np n : Nat) (b : S) (ds : List D) : Res D := match decide (ds.length = np) with
  | true => match exS b (ds.map .dat ++ List.replicate (n - np) .none) with
    | .exc c _ => .exc c
    | .retf xs => .ok (.list xs)
    | _ => .bad
  | false => .bad
/-- what an object at t is behind a call -/
def backM (t : Nat) (env : Env) (k : List (Str × Fl) → Rm) : Rm := match env.get 0 with
  | .ins t' c fs => match decide (t' = t) && decide (c = 0) with
    | true => k fs
    | false => .bad
  | _ => .bad
/-- a def that changes the object ahead (at t), np parameters behind it -/
def runM (np n : Nat) (b : S) (t : Nat) (fs : List (Str × Fl)) (ds : List D) : Rm := match decide (ds.length = np) with
  | true => match exS b (.ins t 0 fs :: ds.map .dat ++ List.replicate (n - np - 1) .none) with
    | .nx env => backM t env fun fs' => .ok fs' .none
    | .retm d env => backM t env fun fs' => .ok fs' d
    | .exc c env => backM t env fun fs' => .exc c fs'
    | _ => .bad
  | false => .bad
/-- wherever the object stands -/
noncomputable def stD (g : Nat → List (Str × Fl) → List D → Rm) : Fm := fun fs ds => @ite _ (∀ t, g t fs ds = g 0 fs ds) (Classical.propDecidable _) (g 0 fs ds) .bad
theorem stD_is {g : Nat → List (Str × Fl) → List D → Rm} {fs : List (Str × Fl)} {ds : List D} {r : Rm} (h : ∀ t, g t fs ds = r) : stD g fs ds = r := by
  unfold stD
  rw [if_pos (fun t => (h t).trans (h 0).symm), h 0]
/-- what such an __init__ makes -/
def jD (xw xr xo : Str) (lo : List D → Res D) : Fm := fun _ ds => match lo ds with
  | .ok _ => match ds with
    | [.tuple [.int n, .list xs], .list ys] => .ok [(xw, .dat (.tuple [.int n, .list xs])), (xr, .row ys), (xo, .old [])] .none
    | _ => .bad
  | _ => .bad
/-- a class's __init__: the object ahead (at t), np parameters behind it -/
def runI (np n : Nat) (b : S) (t : Nat) (ds : List D) : Res (List (Str × Fl)) := match decide (ds.length = np) with
  | true => match exS b (.ins t 0 [] :: ds.map .dat ++ List.replicate (n - np - 1) .none) with
    | .nx env => match env.get 0 with
      | .ins t' c fs => match decide (t' = t) && decide (c = 0) with
        | true => .ok fs
        | false => .bad
      | _ => .bad
    | .exc c _ => .exc c
    | _ => .bad
  | false => .bad
/-- a new object, seen as data: wherever it stands -/
noncomputable def mkD (f : Nat → List D → Res (List (Str × Fl))) (ds : List D) : Res D := @ite _ (∀ t, f t ds = f 0 ds) (Classical.propDecidable _) ((f 0 ds).bind fun fs => .ok (objD 0 (fs.map fun f => (f.1, f.2.frz)))) .bad
theorem mkD_is {f : Nat → List D → Res (List (Str × Fl))} {ds : List D} {r : Res (List (Str × Fl))} (h : ∀ t, f t ds = r) : mkD f ds = r.bind fun fs => .ok (objD 0 (fs.map fun f => (f.1, f.2.frz))) := by
  unfold mkD
  rw [if_pos (fun t => (h t).trans (h 0).symm), h 0]
end Rwl

set_option Elab.async false
set_option linter.all false
set_option maxRecDepth 100000
/-! Rwl, part B: data in the heap, what a frame holds, what a reading comes to. -/
namespace Rwl
open PySem PySem.Spec PyProof.Rows L2 Evl

/-- what is told of the classes: of exceptions, of objects; of dicts with tuples as keys -/
structure Ux where
  ec : Nat → Option Addr
  oc : Nat → Option Addr
  nd : Addr → List (NestedKey × Addr × V) → HO
/-- an exception of the class at C, caught -/
def ExT (C a : Addr) : HO := .ext fun h => ∃ oe vs, h.get? a = some oe ∧ Zc (.ref C) none oe ∧ oe.data = .fields vs

mutual
/-- the value v is the datum d in the heap H -/
inductive Dat (U : Ux) (K : PySem.W.Frag) (H : Hp) : V → D → Prop
  | non : Dat U K H .non .none
  | bl (b : Bool) : Dat U K H (.bl b) (.bool b)
  | int (i : Int) : Dat U K H (.int i) (.int i)
  | str (x : Str) : Dat U K H (.str x) (.str x)
  | lst {a : Addr} {xs : List V} {ds : List D} (h : H a = some (.lst xs)) (hs : DatL U K H xs ds) : Dat U K H (.ref a) (.list ds)
  | tup {a : Addr} {xs : List V} {ds : List D} (h : SqT K H a xs) (hs : DatL U K H xs ds) : Dat U K H (.ref a) (.tuple ds)
  | scr {a : Addr} {ns : List Int} (h : SqL K H a (ns.map V.int)) : Dat U K H (.ref a) (.dict [(.bool true, .list (ns.map .int))])
  | exc {a C : Addr} {c : Nat} (hc : U.ec c = some C) (h : H a = some (ExT C a)) : Dat U K H (.ref a) (.dict [(.none, .int c)])
  | obj {a C dx : Addr} {c : Nat} {fs : List (Str × V)} {dfs : List (D × D)} (hc : U.oc c = some C) (h : H a = some (.ins C dx fs)) (hs : DatF U K H fs dfs) : Dat U K H (.ref a) (.dict ((.bool false, .int c) :: dfs))
  | ndi {a : Addr} {xs : List (NestedKey × Addr × V)} {kvs : List (D × D)} (h : H a = some (U.nd a xs)) (hs : DatN U K H xs kvs) : Dat U K H (.ref a) (.dict ((.tuple [], .none) :: kvs))
inductive DatL (U : Ux) (K : PySem.W.Frag) (H : Hp) : List V → List D → Prop
  | nil : DatL U K H [] []
  | cons {v : V} {d : D} {vs : List V} {ds : List D} (h : Dat U K H v d) (hs : DatL U K H vs ds) : DatL U K H (v :: vs) (d :: ds)
inductive DatF (U : Ux) (K : PySem.W.Frag) (H : Hp) : List (Str × V) → List (D × D) → Prop
  | nil : DatF U K H [] []
  | cons {f : Str} {v : V} {d : D} {fs : List (Str × V)} {ds : List (D × D)} (h : Dat U K H v d) (hs : DatF U K H fs ds) : DatF U K H ((f, v) :: fs) ((.str f, d) :: ds)
inductive DatN (U : Ux) (K : PySem.W.Frag) (H : Hp) : List (NestedKey × Addr × V) → List (D × D) → Prop
  | nil : DatN U K H [] []
  | cons {b : Addr} {v : V} {kd d : D} {xs : List (NestedKey × Addr × V)} {ds : List (D × D)} (hk : Dat U K H (.ref b) kd) (hi : isKey kd = true) (h : Dat U K H v d) (hs : DatN U K H xs ds) : DatN U K H ((keyOf kd, b, v) :: xs) ((kd, d) :: ds)
end

section
variable {U : Ux} {K : PySem.W.Frag} {H H' : Hp} {v : V}
mutual
theorem Dat.mono (e : Ex H H') : ∀ {v : V} {d : D}, Dat U K H v d → Dat U K H' v d
  | _, _, .non => .non
  | _, _, .bl b => .bl b
  | _, _, .int i => .int i
  | _, _, .str x => .str x
  | _, _, .lst h hs => .lst (e _ _ h) (DatL.mono e hs)
  | _, _, .tup h hs => .tup (ex_t e h) (DatL.mono e hs)
  | _, _, .scr h => .scr (ex_l e h)
  | _, _, .exc hc h => .exc hc (e _ _ h)
  | _, _, .obj hc h hs => .obj hc (e _ _ h) (DatF.mono e hs)
  | _, _, .ndi h hs => .ndi (e _ _ h) (DatN.mono e hs)
theorem DatL.mono (e : Ex H H') : ∀ {vs : List V} {ds : List D}, DatL U K H vs ds → DatL U K H' vs ds
  | _, _, .nil => .nil
  | _, _, .cons h hs => .cons (Dat.mono e h) (DatL.mono e hs)
theorem DatF.mono (e : Ex H H') : ∀ {vs : List (Str × V)} {ds : List (D × D)}, DatF U K H vs ds → DatF U K H' vs ds
  | _, _, .nil => .nil
  | _, _, .cons h hs => .cons (Dat.mono e h) (DatF.mono e hs)
theorem DatN.mono (e : Ex H H') : ∀ {vs : List (NestedKey × Addr × V)} {ds : List (D × D)}, DatN U K H vs ds → DatN U K H' vs ds
  | _, _, .nil => .nil
  | _, _, .cons hk hi h hs => .cons (Dat.mono e hk) hi (Dat.mono e h) (DatN.mono e hs)
end
theorem Dat.none_inv (h : Dat U K H v .none) : v = .non := by
  cases h with
  | non => rfl
theorem Dat.bool_inv {b : Bool} (h : Dat U K H v (.bool b)) : v = .bl b := by
  cases h with
  | bl => rfl
theorem Dat.int_inv {b : Int} (h : Dat U K H v (.int b)) : v = .int b := by
  cases h with
  | int => rfl
theorem Dat.str_inv {b : Str} (h : Dat U K H v (.str b)) : v = .str b := by
  cases h with
  | str => rfl
theorem Dat.list_inv {ds : List D} (h : Dat U K H v (.list ds)) : ∃ a xs, v = .ref a ∧ H a = some (.lst xs) ∧ DatL U K H xs ds := by
  cases h with
  | lst h hs => exact ⟨_, _, rfl, h, hs⟩
theorem Dat.tuple_inv {ds : List D} (h : Dat U K H v (.tuple ds)) : ∃ a xs, v = .ref a ∧ SqT K H a xs ∧ DatL U K H xs ds := by
  cases h with
  | tup h hs => exact ⟨_, _, rfl, h, hs⟩
/-- a scalar is what it is in any heap -/
theorem Dat.scal {d : D} (h : Dat U K H v d) (s : Rwl.scal d = true) (H' : Hp) : Dat U K H' v d := by
  cases d with
  | none => cases h.none_inv; exact .non
  | bool b => cases h.bool_inv; exact .bl b
  | int b => cases h.int_inv; exact .int b
  | str b => cases h.str_inv; exact .str b
  | list _ => exact absurd (show false = true from s) Bool.false_ne_true
  | tuple _ => exact absurd (show false = true from s) Bool.false_ne_true
  | dict _ => exact absurd (show false = true from s) Bool.false_ne_true

/-! ### lists -/
theorem DatL.length : ∀ {vs : List V} {ds : List D}, DatL U K H vs ds → vs.length = ds.length
  | _, _, .nil => rfl
  | _, _, .cons _ hs => congrArg (· + 1) (DatL.length hs)
theorem DatL.get : ∀ {vs : List V} {ds : List D} {i : Nat} {d : D}, DatL U K H vs ds → ds[i]? = some d → ∃ v, vs[i]? = some v ∧ Dat U K H v d
  | _, _, _, _, .nil, e => by simp at e
  | _, _, 0, _, .cons h _, e => by simp at e; subst e; exact ⟨_, rfl, h⟩
  | _, _, i + 1, d, .cons _ hs, e => by
    obtain ⟨v, h1, h2⟩ := DatL.get (i := i) (d := d) hs (by simpa using e)
    exact ⟨v, by simpa using h1, h2⟩
theorem DatL.get' : ∀ {vs : List V} {ds : List D} {i : Nat} {v : V}, DatL U K H vs ds → vs[i]? = some v → ∃ d, ds[i]? = some d ∧ Dat U K H v d
  | _, _, _, _, .nil, e => by simp at e
  | _, _, 0, _, .cons h _, e => by simp at e; subst e; exact ⟨_, rfl, h⟩
  | _, _, i + 1, d, .cons _ hs, e => by
    obtain ⟨v, h1, h2⟩ := DatL.get' (i := i) (v := d) hs (by simpa using e)
    exact ⟨v, by simpa using h1, h2⟩
theorem DatL.append : ∀ {vs ws : List V} {ds es : List D}, DatL U K H vs ds → DatL U K H ws es → DatL U K H (vs ++ ws) (ds ++ es)
  | _, _, _, _, .nil, h => h
  | _, _, _, _, .cons h hs, h2 => .cons h (DatL.append hs h2)
theorem DatL.one {d : D} (h : Dat U K H v d) : DatL U K H [v] [d] := .cons h .nil
theorem DatL.set {d : D} (h : Dat U K H v d) : ∀ {vs : List V} {ds : List D} (i : Nat), DatL U K H vs ds → DatL U K H (vs.set i v) (ds.set i d)
  | _, _, _, .nil => .nil
  | _, _, 0, .cons _ hs => .cons h hs
  | _, _, i + 1, .cons q hs => .cons q (DatL.set h i hs)
theorem DatL.take : ∀ {vs : List V} {ds : List D} (n : Nat), DatL U K H vs ds → DatL U K H (vs.take n) (ds.take n)
  | _, _, 0, _ => .nil
  | _, _, _ + 1, .nil => .nil
  | _, _, n + 1, .cons h hs => .cons h (DatL.take n hs)
theorem DatL.drop : ∀ {vs : List V} {ds : List D} (n : Nat), DatL U K H vs ds → DatL U K H (vs.drop n) (ds.drop n)
  | _, _, 0, h => h
  | _, _, _ + 1, .nil => .nil
  | _, _, n + 1, .cons h hs => DatL.drop n hs
theorem DatL.eraseIdx : ∀ {vs : List V} {ds : List D} (n : Nat), DatL U K H vs ds → DatL U K H (vs.eraseIdx n) (ds.eraseIdx n)
  | _, _, _, .nil => .nil
  | _, _, 0, .cons _ hs => hs
  | _, _, n + 1, .cons h hs => .cons h (DatL.eraseIdx n hs)
theorem DatL.reverse {vs : List V} {ds : List D} (h : DatL U K H vs ds) : DatL U K H vs.reverse ds.reverse := by
  induction ds generalizing vs with
  | nil => cases h; exact .nil
  | cons d r ih =>
    cases h with
    | cons h hs => rw [List.reverse_cons, List.reverse_cons]; exact (ih hs).append (.one h)
theorem DatL.rep {vs : List V} {ds : List D} (h : DatL U K H vs ds) : ∀ k : Nat, DatL U K H (List.replicate k vs).flatten (List.replicate k ds).flatten
  | 0 => .nil
  | k + 1 => by
    rw [List.replicate_succ, List.replicate_succ, List.flatten_cons, List.flatten_cons]
    exact h.append (DatL.rep h k)
theorem DatL.cut {vs : List V} {ds : List D} (h : DatL U K H vs ds) (lo hi : Option Int) : DatL U K H (cutV vs lo hi) (cut ds lo hi) := by
  have e : ∀ n d o, HT.sIx n d o = sI n d o := fun n d o => by cases o <;> rfl
  unfold cutV Rwl.cut
  simp only [e, h.length]
  exact (h.drop _).take _
theorem DatL.intL {vs : List V} : ∀ {ds : List D} {ns : List Int}, Rwl.intL ds = some ns → DatL U K H vs ds → vs = ns.map V.int := by
  intro ds ns e h
  rw [intL_of e] at h
  clear e ds
  induction ns generalizing vs with
  | nil => cases h; rfl
  | cons n r ih =>
    cases h with
    | cons h hs => rw [h.int_inv, ih hs]; rfl
theorem DatL.of_ints : ∀ ns : List Int, DatL U K H (ns.map V.int) (ns.map .int)
  | [] => .nil
  | n :: r => .cons (.int n) (DatL.of_ints r)
theorem DatL.bolL {vs : List V} : ∀ {ds : List D} {ns : List Bool}, Rwl.bolL ds = some ns → DatL U K H vs ds → vs = ns.map V.bl := by
  intro ds ns e h
  rw [bolL_of e] at h
  clear e ds
  induction ns generalizing vs with
  | nil => cases h; rfl
  | cons n r ih =>
    cases h with
    | cons h hs => rw [h.bool_inv, ih hs]; rfl
theorem DatL.strL {vs : List V} : ∀ {ds : List D} {ns : List Str}, Rwl.strL ds = some ns → DatL U K H vs ds → vs = ns.map V.str := by
  intro ds ns e h
  rw [strL_of e] at h
  clear e ds
  induction ns generalizing vs with
  | nil => cases h; rfl
  | cons n r ih =>
    cases h with
    | cons h hs => rw [h.str_inv, ih hs]; rfl
theorem DatL.of_strs : ∀ ns : List Str, DatL U K H (ns.map V.str) (ns.map .str)
  | [] => .nil
  | n :: r => .cons (.str n) (DatL.of_strs r)

/-! ### plain data -/
mutual
theorem Dat.dp : ∀ (d : D) (v : V), PyData.plain d = true → Dat U K H v d → Dp K H v d
  | .none, _, _, h => by cases h.none_inv; exact .non
  | .bool b, _, _, h => by cases h.bool_inv; exact .bl b
  | .int b, _, _, h => by cases h.int_inv; exact .int b
  | .str b, _, _, h => by cases h.str_inv; exact .str b
  | .list ds, _, p, h => by
    obtain ⟨a, xs, rfl, h1, h2⟩ := h.list_inv
    exact .lst (SqL.of h1) (DatL.dp ds xs (by simpa [PyData.plain] using p) h2)
  | .tuple ds, _, p, h => by
    obtain ⟨a, xs, rfl, h1, h2⟩ := h.tuple_inv
    exact .tup h1 (DatL.dp ds xs (by simpa [PyData.plain] using p) h2)
  | .dict _, _, p, _ => absurd p (by simp [PyData.plain])
theorem DatL.dp : ∀ (ds : List D) (vs : List V), PyData.plainAll ds = true → DatL U K H vs ds → DpAll K H vs ds
  | [], _, _, h => by cases h; exact .nil
  | d :: ds, _, p, h => by
    have p' : PyData.plain d = true ∧ PyData.plainAll ds = true := by simpa [PyData.plainAll] using p
    cases h with
    | cons h1 h2 => exact .cons (Dat.dp d _ p'.1 h1) (DatL.dp ds _ p'.2 h2)
end
theorem dep_all {n : Nat} : ∀ {ds : List D}, (∀ d ∈ ds, dep n d = true → PyData.plain d = true ∧ PyData.depth d ≤ n) → ds.all (dep n) = true → PyData.plainAll ds = true ∧ PyData.depthAll ds ≤ n
  | [], _, _ => ⟨by simp [PyData.plainAll], by simp [PyData.depthAll]⟩
  | d :: ds, f, h => by
    have h' : dep n d = true ∧ ds.all (dep n) = true := by simpa using h
    obtain ⟨p1, p2⟩ := f d List.mem_cons_self h'.1
    obtain ⟨q1, q2⟩ := dep_all (fun e he => f e (List.mem_cons_of_mem _ he)) h'.2
    refine ⟨by simp [PyData.plainAll, p1, q1], ?_⟩
    simp only [PyData.depthAll]
    omega
theorem dep_plain : ∀ {n : Nat} {d : D}, dep n d = true → PyData.plain d = true ∧ PyData.depth d ≤ n
  | n, .none, _ => by simp [PyData.plain, PyData.depth]
  | n, .bool _, _ => by simp [PyData.plain, PyData.depth]
  | n, .int _, _ => by simp [PyData.plain, PyData.depth]
  | n, .str _, _ => by simp [PyData.plain, PyData.depth]
  | 0, .list _, h => by simp [dep] at h
  | 0, .tuple _, h => by simp [dep] at h
  | n, .dict _, h => by cases n <;> simp [dep] at h
  | n + 1, .list ds, h => by
    obtain ⟨p1, p2⟩ := dep_all (fun d _ => dep_plain (n := n)) (by simpa [dep] using h)
    refine ⟨by simpa [PyData.plain] using p1, ?_⟩
    simp only [PyData.depth]
    omega
  | n + 1, .tuple ds, h => by
    obtain ⟨p1, p2⟩ := dep_all (fun d _ => dep_plain (n := n)) (by simpa [dep] using h)
    refine ⟨by simpa [PyData.plain] using p1, ?_⟩
    simp only [PyData.depth]
    omega
end

/-! ### heaps with some objects hidden -/
def view (H : Hp) (Z : List Addr) : Hp := fun a => if a ∈ Z then none else H a
theorem view_nil (H : Hp) : view H [] = H := by
  funext a
  simp [view]
theorem view_out {H : Hp} {Z : List Addr} {a : Addr} (h : a ∉ Z) : view H Z a = H a := if_neg h
theorem view_in {H : Hp} {Z : List Addr} {a : Addr} (h : a ∈ Z) : view H Z a = none := if_pos h
theorem view_ex (H : Hp) (Z : List Addr) : Ex (view H Z) H := fun a o h => by
  unfold view at h
  split at h
  · cases h
  · exact h
theorem ex_view {H H' : Hp} (e : Ex H H') (Z : List Addr) : Ex (view H Z) (view H' Z) := fun a o h => by
  unfold view at h ⊢
  split at h
  · cases h
  · rename_i ha
    rw [if_neg ha]
    exact e a o h
/-- an object that was not there is hidden too -/
theorem ex_view_cons {H H' : Hp} (e : Ex H H') {Z : List Addr} {p : Addr} (hp : H p = none) : Ex (view H Z) (view H' (p :: Z)) := fun a o h => by
  unfold view at h ⊢
  split at h
  · cases h
  · rename_i ha
    have hap : a ≠ p := ne_of_none h hp
    rw [if_neg (by simp only [List.mem_cons, not_or]; exact ⟨hap, ha⟩)]
    exact e a o h
theorem view_upd {H : Hp} {Z : List Addr} {p : Addr} {o : HO} (h : p ∈ Z) : view (upd H p o) Z = view H Z := by
  funext a
  unfold view
  by_cases ha : a ∈ Z
  · rw [if_pos ha, if_pos ha]
  · rw [if_neg ha, if_neg ha, upd_ne (fun e => ha (by rw [e]; exact h))]
theorem view_new {H : Hp} {Z : List Addr} {p : Addr} (h : H p = none) : view H Z p = none := by
  unfold view
  split
  · rfl
  · exact h

/-! ### the frame -/
/-- a dict of intL, by its pairs -/
inductive DatK (U : Ux) (K : PySem.W.Frag) (H : Hp) : List (Key × V) → List (Int × D) → Prop
  | nil : DatK U K H [] []
  | cons {k : Int} {v : V} {d : D} {kvs : List (Key × V)} {ds : List (Int × D)} (h : Dat U K H v d) (hs : DatK U K H kvs ds) : DatK U K H ((.inl k, v) :: kvs) ((k, d) :: ds)
/-- p is hidden by the def itself, and stands at that place -/
structure OwnAt (Y Z : List Addr) (ow : Addr → List Nat) (p : Addr) (w : List Nat) : Prop where
  z : p ∈ Z
  y : p ∉ Y
  at_ : ow p = w
/-- lists of an own list, from number j on -/
inductive RowsOk (U : Ux) (K : PySem.W.Frag) (Y Z : List Addr) (H : Hp) (ow : Addr → List Nat) (i k : Nat) : Nat → List Addr → List (List D) → Prop
  | nil {j : Nat} : RowsOk U K Y Z H ow i k j [] []
  | cons {j : Nat} {q : Addr} {vs : List V} {xs : List D} {qs : List Addr} {xss : List (List D)} (o : OwnAt Y Z ow q [i, k, j]) (h : H q = some (.lst vs)) (d : DatL U K (view H Z) vs xs) (r : RowsOk U K Y Z H ow i k (j + 1) qs xss) : RowsOk U K Y Z H ow i k j (q :: qs) (xs :: xss)
def FlOk (U : Ux) (K : PySem.W.Frag) (Y Z : List Addr) (H : Hp) (ow : Addr → List Nat) (i k : Nat) (v : V) : Fl → Prop
  | .dat d => Dat U K (view H Z) v d
  | .row xs => ∃ p vs, v = .ref p ∧ OwnAt Y Z ow p [i, k] ∧ H p = some (.lst vs) ∧ DatL U K (view H Z) vs xs
  | .old xss => ∃ p qs, v = .ref p ∧ OwnAt Y Z ow p [i, k] ∧ H p = some (.lst (qs.map V.ref)) ∧ RowsOk U K Y Z H ow i k 0 qs xss
inductive FlsOk (U : Ux) (K : PySem.W.Frag) (Y Z : List Addr) (H : Hp) (ow : Addr → List Nat) (i : Nat) : Nat → List (Str × V) → List (Str × Fl) → Prop
  | nil {k : Nat} : FlsOk U K Y Z H ow i k [] []
  | cons {k : Nat} {x : Str} {v : V} {f : Fl} {vs : List (Str × V)} {fs : List (Str × Fl)} (h : FlOk U K Y Z H ow i k v f) (r : FlsOk U K Y Z H ow i (k + 1) vs fs) : FlsOk U K Y Z H ow i k ((x, v) :: vs) ((x, f) :: fs)
def SlotOk (U : Ux) (K : PySem.W.Frag) (Y Z : List Addr) (H : Hp) (ow : Addr → List Nat) (i : Nat) (ov : Option (Option V)) : Slot → Prop
  | .none => True
  | .dat d => ∃ v, ov = some (some v) ∧ Dat U K (view H Z) v d
  | .own xs => ∃ p vs, ov = some (some (.ref p)) ∧ OwnAt Y Z ow p [i] ∧ H p = some (.lst vs) ∧ DatL U K (view H Z) vs xs
  | .dct kvs => ∃ p vs, ov = some (some (.ref p)) ∧ OwnAt Y Z ow p [i] ∧ H p = some (.dK vs) ∧ DatK U K (view H Z) vs kvs
  | .ins x c fs => ∃ C dx vs, ov = some (some (.ref x)) ∧ OwnAt Y Z ow x [i] ∧ U.oc c = some C ∧ H x = some (.ins C dx vs) ∧ FlsOk U K Y Z H ow i 0 vs fs
  | .dcn kvs => ∃ p xs, ov = some (some (.ref p)) ∧ OwnAt Y Z ow p [i] ∧ H p = some (U.nd p xs) ∧ DatN U K (view H Z) xs kvs
  | .rws xss => ∃ p qs, ov = some (some (.ref p)) ∧ OwnAt Y Z ow p [i] ∧ H p = some (.lst (qs.map V.ref)) ∧ RowsOk U K Y Z H ow i 0 0 qs xss
  | .obj fs => ∃ x C dx vs, ov = some (some (.ref x)) ∧ OwnAt Y Z ow x [i] ∧ U.oc 0 = some C ∧ H x = some (.ins C dx vs) ∧ FlsOk U K Y Z H ow i 0 vs fs
  | .hnd n xs ys => ∃ a b p q ws us, ov = some (some (.ref a)) ∧ SqT K (view H Z) a [.ref b, .ref q] ∧ SqT K (view H Z) b [.int n, .ref p] ∧ OwnAt Y Z ow p [i, 0] ∧ OwnAt Y Z ow q [i, 1] ∧ H p = some (.lst ws) ∧ H q = some (.lst us) ∧ DatL U K (view H Z) ws xs ∧ DatL U K (view H Z) us ys
def Slot.isOwn : Slot → Bool
  | .own _ => true
  | .dct _ => true
  | .ins _ _ _ => true
  | .dcn _ => true
  | .rws _ => true
  | .obj _ => true
  | .hnd _ _ _ => true
  | _ => false
/-- what is hidden is there -/
def Zt (Z : List Addr) (H : Hp) : Prop := ∀ z ∈ Z, ∃ o, H z = some o
theorem Zt.mono {Z : List Addr} {H H' : Hp} (e : Ex H H') (h : Zt Z H) : Zt Z H' := fun z hz => by
  obtain ⟨o, q⟩ := h z hz
  exact ⟨o, e _ _ q⟩
theorem Zt.nil {H : Hp} : Zt [] H := fun z hz => absurd hz (by simp)
theorem Zt.not {Z : List Addr} {H : Hp} (h : Zt Z H) {p : Addr} (hp : H p = none) : p ∉ Z := fun hz => by
  obtain ⟨o, q⟩ := h p hz
  rw [hp] at q
  cases q
theorem Zt.cons {Z : List Addr} {H : Hp} {p : Addr} {o : HO} (h : Zt Z H) (hp : H p = some o) : Zt (p :: Z) H := fun z hz => by
  rcases List.mem_cons.mp hz with rfl | hz
  · exact ⟨_, hp⟩
  · exact h z hz
theorem Zt.upd {Z : List Addr} {H : Hp} {p : Addr} {o : HO} (h : Zt Z H) : Zt Z (upd H p o) := fun z hz => by
  by_cases e : z = p
  · subst e; exact ⟨_, upd_same⟩
  · rw [upd_ne e]; exact h z hz
/-- all slots, by an account of who owns what -/
def Ats (U : Ux) (K : PySem.W.Frag) (Y Z : List Addr) (H : Hp) (ow : Addr → List Nat) (σ : L2.St) (env : Env) : Prop := ∀ (i : Nat) (s : Slot), env[i]? = some s → SlotOk U K Y Z H ow i σ[i]? s
/-- Y is hidden from the beginning, Z now -/
structure EnvOk (U : Ux) (K : PySem.W.Frag) (Y Z : List Addr) (H : Hp) (σ : L2.St) (env : Env) : Prop where
  len : σ.length = env.length
  sub : ∀ z ∈ Y, z ∈ Z
  zt : Zt Z H
  at_ : ∃ ow, Ats U K Y Z H ow σ env
section
variable {U : Ux} {K : PySem.W.Frag} {H H' : Hp} {Y Z Z' : List Addr} {σ : L2.St} {env : Env} {ow ow' : Addr → List Nat}
theorem DatK.mono (e : Ex H H') : ∀ {vs : List (Key × V)} {ds : List (Int × D)}, DatK U K H vs ds → DatK U K H' vs ds
  | _, _, .nil => .nil
  | _, _, .cons h hs => .cons (h.mono e) (DatK.mono e hs)
/-- what carries a slot over: its own addresses stay, so does the account -/
structure Carry (Y Z Z' : List Addr) (H H' : Hp) (ow ow' : Addr → List Nat) (i : Nat) : Prop where
  view : Ex (Rwl.view H Z) (Rwl.view H' Z')
  own : ∀ a o w, OwnAt Y Z ow a (i :: w) → H a = some o → H' a = some o ∧ OwnAt Y Z' ow' a (i :: w)
section
variable {i : Nat} (c : Carry Y Z Z' H H' ow ow' i)
include c
theorem RowsOk.carry {k : Nat} : ∀ {j : Nat} {qs : List Addr} {xss : List (List D)}, RowsOk U K Y Z H ow i k j qs xss → RowsOk U K Y Z' H' ow' i k j qs xss
  | _, _, _, .nil => .nil
  | _, _, _, .cons o h d r => .cons (c.own _ _ _ o h).2 (c.own _ _ _ o h).1 (d.mono c.view) (RowsOk.carry r)
theorem FlOk.carry {k : Nat} {v : V} {f : Fl} (h : FlOk U K Y Z H ow i k v f) : FlOk U K Y Z' H' ow' i k v f := by
  cases f with
  | dat d => exact Dat.mono c.view h
  | row xs => obtain ⟨p, vs, h1, h2, h3, h4⟩ := h; exact ⟨p, vs, h1, (c.own _ _ _ h2 h3).2, (c.own _ _ _ h2 h3).1, h4.mono c.view⟩
  | old xss => obtain ⟨p, qs, h1, h2, h3, h4⟩ := h; exact ⟨p, qs, h1, (c.own _ _ _ h2 h3).2, (c.own _ _ _ h2 h3).1, h4.carry c⟩
theorem FlsOk.carry : ∀ {k : Nat} {vs : List (Str × V)} {fs : List (Str × Fl)}, FlsOk U K Y Z H ow i k vs fs → FlsOk U K Y Z' H' ow' i k vs fs
  | _, _, _, .nil => .nil
  | _, _, _, .cons h r => .cons (FlOk.carry c h) (FlsOk.carry r)
theorem SlotOk.carry {ov : Option (Option V)} {s : Slot} (h : SlotOk U K Y Z H ow i ov s) : SlotOk U K Y Z' H' ow' i ov s := by
  cases s with
  | none => trivial
  | dat d => obtain ⟨v, h1, h2⟩ := h; exact ⟨v, h1, h2.mono c.view⟩
  | own xs => obtain ⟨p, vs, h1, h2, h3, h4⟩ := h; exact ⟨p, vs, h1, (c.own _ _ _ h2 h3).2, (c.own _ _ _ h2 h3).1, h4.mono c.view⟩
  | dct xs => obtain ⟨p, vs, h1, h2, h3, h4⟩ := h; exact ⟨p, vs, h1, (c.own _ _ _ h2 h3).2, (c.own _ _ _ h2 h3).1, h4.mono c.view⟩
  | ins x cn fs => obtain ⟨C, dx, vs, h1, h2, h3, h4, h5⟩ := h; exact ⟨C, dx, vs, h1, (c.own _ _ _ h2 h4).2, h3, (c.own _ _ _ h2 h4).1, h5.carry c⟩
  | dcn xs => obtain ⟨p, vs, h1, h2, h3, h4⟩ := h; exact ⟨p, vs, h1, (c.own _ _ _ h2 h3).2, (c.own _ _ _ h2 h3).1, h4.mono c.view⟩
  | rws xs => obtain ⟨p, vs, h1, h2, h3, h4⟩ := h; exact ⟨p, vs, h1, (c.own _ _ _ h2 h3).2, (c.own _ _ _ h2 h3).1, h4.carry c⟩
  | obj fs => obtain ⟨x, C, dx, vs, h1, h2, h3, h4, h5⟩ := h; exact ⟨x, C, dx, vs, h1, (c.own _ _ _ h2 h4).2, h3, (c.own _ _ _ h2 h4).1, h5.carry c⟩
  | hnd n xs ys => obtain ⟨a, b, p, q, ws, us, h1, h2, h3, h4, h5, h6, h7, h8, h9⟩ := h; exact ⟨a, b, p, q, ws, us, h1, ex_t c.view h2, ex_t c.view h3, (c.own _ _ _ h4 h6).2, (c.own _ _ _ h5 h7).2, (c.own _ _ _ h4 h6).1, (c.own _ _ _ h5 h7).1, h8.mono c.view, h9.mono c.view⟩
end
theorem Carry.ex (e : Ex H H') (i : Nat) : Carry Y Z Z H H' ow ow i := ⟨ex_view e Z, fun a o w h q => ⟨e _ _ q, h⟩⟩
theorem EnvOk.mono (e : Ex H H') (h : EnvOk U K Y Z H σ env) : EnvOk U K Y Z H' σ env := by
  obtain ⟨ow, q⟩ := h.at_
  exact ⟨h.len, h.sub, h.zt.mono e, ow, fun i s r => (q i s r).carry (.ex e i)⟩
theorem EnvOk.get (h : EnvOk U K Y Z H σ env) (i : Nat) : ∃ ow, SlotOk U K Y Z H ow i σ[i]? (env.get i) := by
  obtain ⟨ow, q⟩ := h.at_
  refine ⟨ow, ?_⟩
  unfold Env.get
  cases e : env[i]? with
  | none => exact True.intro
  | some s => exact q i s e
/-! ### what is owned, seen as data -/
theorem view_less (sub : ∀ z ∈ Y, z ∈ Z) : Ex (view H Z) (view H Y) := fun a o h => by
  have hz : a ∉ Z := fun z => by rw [view_in z] at h; cases h
  rw [view_out hz] at h
  rw [view_out (fun y => hz (sub _ y))]
  exact h
theorem RowsOk.seen {i k : Nat} (sub : ∀ z ∈ Y, z ∈ Z) : ∀ {j : Nat} {qs : List Addr} {xss : List (List D)}, RowsOk U K Y Z H ow i k j qs xss → DatL U K (view H Y) (qs.map V.ref) (xss.map .list)
  | _, _, _, .nil => .nil
  | _, _, _, .cons o h d r => .cons (.lst (by rw [view_out o.y]; exact h) (d.mono (view_less sub))) (RowsOk.seen sub r)
theorem FlOk.seen {i k : Nat} (sub : ∀ z ∈ Y, z ∈ Z) {v : V} {f : Fl} (h : FlOk U K Y Z H ow i k v f) : Dat U K (view H Y) v f.frz := by
  cases f with
  | dat d => exact Dat.mono (view_less sub) h
  | row xs => obtain ⟨p, vs, rfl, h2, h3, h4⟩ := h; exact .lst (by rw [view_out h2.y]; exact h3) (h4.mono (view_less sub))
  | old xss => obtain ⟨p, qs, rfl, h2, h3, h4⟩ := h; exact .lst (by rw [view_out h2.y]; exact h3) (h4.seen sub)
theorem FlsOk.seen {i : Nat} (sub : ∀ z ∈ Y, z ∈ Z) : ∀ {k : Nat} {vs : List (Str × V)} {fs : List (Str × Fl)}, FlsOk U K Y Z H ow i k vs fs → DatF U K (view H Y) vs ((fs.map fun f => (f.1, f.2.frz)).map fun f => (.str f.1, f.2))
  | _, _, _, .nil => .nil
  | _, _, _, .cons h r => .cons (FlOk.seen sub h) (FlsOk.seen sub r)
/-- all that is owned is let go: the whole heap is seen -/
theorem EnvOk.frz (h : EnvOk U K Y Z H σ env) : EnvOk U K Y Y H σ env.frz := by
  obtain ⟨ow, r⟩ := h.at_
  refine ⟨by rw [h.len]; simp [Env.frz], fun _ z => z, fun z hz => h.zt z (h.sub z hz), ow, fun i s q => ?_⟩
  simp only [Env.frz, List.getElem?_map, Option.map_eq_some_iff] at q
  obtain ⟨s', q, rfl⟩ := q
  have r := r i s' q
  cases s' with
  | none => trivial
  | dat d => obtain ⟨v, h1, h2⟩ := r; exact ⟨v, h1, h2.mono (view_less h.sub)⟩
  | own xs =>
    obtain ⟨p, vs, h1, h2, h3, h4⟩ := r
    exact ⟨_, h1, .lst (by rw [view_out h2.y]; exact h3) (h4.mono (view_less h.sub))⟩
  | dct xs => trivial
  | ins x cn fs =>
    obtain ⟨C, dx, vs, h1, h2, h3, h4, h5⟩ := r
    exact ⟨_, h1, .obj h3 (by rw [view_out h2.y]; exact h4) (h5.seen h.sub)⟩
  | dcn xs =>
    obtain ⟨p, vs, h1, h2, h3, h4⟩ := r
    exact ⟨_, h1, .ndi (by rw [view_out h2.y]; exact h3) (h4.mono (view_less h.sub))⟩
  | rws xs =>
    obtain ⟨p, qs, h1, h2, h3, h4⟩ := r
    exact ⟨_, h1, .lst (by rw [view_out h2.y]; exact h3) (h4.seen h.sub)⟩
  | obj fs =>
    obtain ⟨x, C, dx, vs, h1, h2, h3, h4, h5⟩ := r
    exact ⟨_, h1, .obj h3 (by rw [view_out h2.y]; exact h4) (h5.seen h.sub)⟩
  | hnd n xs ys => trivial
/-! ### changes of one slot -/
/-- slot i is given something else; the other slots are carried over -/
theorem EnvOk.put (h : EnvOk U K Y Z H σ env) (q : Ats U K Y Z H ow σ env) (sub : ∀ z ∈ Y, z ∈ Z') (zt : Zt Z' H') (i : Nat) (c : ∀ j, j ≠ i → Carry Y Z Z' H H' ow ow' j) (ov : Option V) (t : Slot) (ht : SlotOk U K Y Z' H' ow' i (some ov) t) :
    EnvOk U K Y Z' H' (σ.set i ov) (env.set i t) := by
  refine ⟨by simp [h.len], sub, zt, ow', fun j s r => ?_⟩
  rw [List.getElem?_set] at r ⊢
  by_cases hj : i = j
  · rw [if_pos hj] at r ⊢
    by_cases hl : i < env.length
    · rw [if_pos hl] at r
      rw [if_pos (by rw [h.len]; exact hl)]
      cases r
      rw [← hj]
      exact ht
    · rw [if_neg hl] at r; cases r
  · rw [if_neg hj] at r ⊢
    exact (q j s r).carry (c j (Ne.symm hj))
/-- slot i's value stays, what it owns is changed -/
theorem EnvOk.turn (h : EnvOk U K Y Z H σ env) (q : Ats U K Y Z H ow σ env) (sub : ∀ z ∈ Y, z ∈ Z') (zt : Zt Z' H') (i : Nat) (c : ∀ j, j ≠ i → Carry Y Z Z' H H' ow ow' j) (t : Slot) (ht : SlotOk U K Y Z' H' ow' i σ[i]? t) :
    EnvOk U K Y Z' H' σ (env.set i t) := by
  refine ⟨by simp [h.len], sub, zt, ow', fun j s r => ?_⟩
  rw [List.getElem?_set] at r
  by_cases hj : i = j
  · rw [if_pos hj] at r
    by_cases hl : i < env.length
    · rw [if_pos hl] at r
      cases r
      rw [← hj]
      exact ht
    · rw [if_neg hl] at r; cases r
  · rw [if_neg hj] at r
    exact (q j s r).carry (c j (Ne.symm hj))
theorem Carry.self (j : Nat) : Carry Y Z Z H H ow ow j := .ex (Ex.refl H) j
/-- a name is given a datum -/
theorem EnvOk.set {d : D} {v : V} (h : EnvOk U K Y Z H σ env) (i : Nat) (hv : Dat U K (view H Z) v d) : EnvOk U K Y Z H (σ.set i (some v)) (env.set i (.dat d)) := by
  obtain ⟨ow, q⟩ := h.at_
  exact h.put q h.sub h.zt i (fun j _ => .self j) _ _ ⟨v, rfl, hv⟩
/-- a name is forgotten -/
theorem EnvOk.unset (h : EnvOk U K Y Z H σ env) (i : Nat) (ov : Option V) : EnvOk U K Y Z H (σ.set i ov) (env.set i .none) := by
  obtain ⟨ow, q⟩ := h.at_
  exact h.put q h.sub h.zt i (fun j _ => .self j) _ _ trivial
theorem EnvOk.wipe (h : EnvOk U K Y Z H σ env) : ∀ vs : List Nat, EnvOk U K Y Z H (L2.wipe σ vs) (env.wipe vs)
  | [] => h
  | v :: vs => (EnvOk.wipe h vs).unset v none
/-- an object that was not there is hidden -/
theorem EnvOk.hide {p : Addr} {o : HO} (e : Ex H H') (h : EnvOk U K Y Z H σ env) (hp : H p = none) (hp' : H' p = some o) : EnvOk U K Y (p :: Z) H' σ env := by
  obtain ⟨ow, q⟩ := h.at_
  exact ⟨h.len, fun z hz => List.mem_cons_of_mem _ (h.sub z hz), (h.zt.mono e).cons hp', ow, fun i s r => (q i s r).carry ⟨ex_view_cons e hp, fun a o w h3 q3 => ⟨e _ _ q3, ⟨List.mem_cons_of_mem _ h3.z, h3.y, h3.at_⟩⟩⟩⟩
/-- the account with p at a place -/
def owAt (ow : Addr → List Nat) (p : Addr) (w : List Nat) : Addr → List Nat := fun a => if a = p then w else ow a
theorem owAt_same {p : Addr} {w : List Nat} : owAt ow p w p = w := by unfold owAt; rw [if_pos rfl]
theorem owAt_ne {p a : Addr} {w : List Nat} (h : a ≠ p) : owAt ow p w a = ow a := by unfold owAt; rw [if_neg h]
/-- a slot is given an object that was not there -/
theorem EnvOk.putNew {p : Addr} {o : HO} (e : Ex H H') (h : EnvOk U K Y Z H σ env) (hp : H p = none) (hp' : H' p = some o) (i : Nat) (t : Slot) (ht : ∀ ow, OwnAt Y (p :: Z) ow p [i] → SlotOk U K Y (p :: Z) H' ow i (some (some (.ref p))) t) :
    EnvOk U K Y (p :: Z) H' (σ.set i (some (.ref p))) (env.set i t) := by
  obtain ⟨ow, q⟩ := h.at_
  have py : p ∉ Y := fun hy => by
    obtain ⟨o, r⟩ := h.zt p (h.sub p hy)
    rw [hp] at r; cases r
  refine h.put (ow' := owAt ow p [i]) q (fun z hz => List.mem_cons_of_mem _ (h.sub z hz)) ((h.zt.mono e).cons hp') i (fun j hj => ⟨ex_view_cons e hp, fun a o w h3 q3 => ?_⟩) _ _ (ht _ ⟨List.mem_cons_self, py, owAt_same⟩)
  have ap : a ≠ p := fun z => by rw [z, hp] at q3; cases q3
  exact ⟨e _ _ q3, ⟨List.mem_cons_of_mem _ h3.z, h3.y, by rw [owAt_ne ap]; exact h3.at_⟩⟩
/-- an owned object is changed in its place -/
theorem EnvOk.write {t : Slot} {p : Addr} {o : HO} (h : EnvOk U K Y Z H σ env) (q : Ats U K Y Z H ow σ env) (i : Nat) {w : List Nat} (hp : OwnAt Y Z ow p (i :: w)) (hs : SlotOk U K Y Z (upd H p o) ow i σ[i]? t) :
    EnvOk U K Y Z (upd H p o) σ (env.set i t) := by
  refine h.turn q h.sub h.zt.upd i (fun j hj => ⟨?_, fun a o' w' h3 q3 => ?_⟩) t hs
  · rw [view_upd hp.z]
    exact Ex.refl _
  · have ap : a ≠ p := fun z => by
      have e1 := h3.at_
      rw [z, hp.at_] at e1
      exact hj (List.cons.inj e1).1.symm
    exact ⟨by rw [upd_ne ap]; exact q3, h3⟩
theorem EnvOk.start {vs : List V} {ds : List D} (z : Zt Y H) (h : DatL U K (view H Y) vs ds) (N : List Str) (hl : vs.length ≤ N.length) : EnvOk U K Y Y H (L2.start N vs) (ds.map .dat ++ List.replicate (N.length - ds.length) .none) := by
  have e := h.length
  refine ⟨by simp [L2.start, e], fun _ z => z, z, fun _ => [], fun i s q => ?_⟩
  rw [List.getElem?_append] at q
  split at q
  · rename_i hi
    rw [List.length_map] at hi
    rw [List.getElem?_map, Option.map_eq_some_iff] at q
    obtain ⟨d, q, rfl⟩ := q
    obtain ⟨v, hv, hd⟩ := h.get q
    refine ⟨v, ?_, hd⟩
    unfold L2.start
    rw [List.getElem?_append_left (by rw [List.length_map, e]; exact hi), List.getElem?_map, hv]
    rfl
  · rw [List.getElem?_replicate] at q
    split at q
    · cases q; trivial
    · cases q
end
end Rwl

set_option Elab.async false
set_option linter.all false
set_option maxRecDepth 100000
set_option maxHeartbeats 1000000
/-! Rwl, part C: the operations by values: what the plain functions give is what the program's operations give. -/
namespace Rwl
open PySem PySem.Spec PyProof.Rows L2 Evl

theorem lim_line {n : Nat} (h : n ≤ lim) : n ≤ sizeLine := sz_of h
theorem lim_lt {n : Nat} (h : n < lim) : n < sizeLine := sz_lt h
theorem req_ok {α : Type} {b : Bool} {r : Res α} {a : α} (h : req b r = .ok a) : b = true ∧ r = .ok a := by
  cases b with
  | true => exact ⟨rfl, h⟩
  | false => cases h
theorem ofO_ok {α : Type} {o : Option α} {a : α} (h : ofO o = .ok a) : o = some a := by
  cases o with
  | none => cases h
  | some b => cases h; rfl
theorem bind_ok_inv {α β : Type} {r : Res α} {f : α → Res β} {b : β} (h : r.bind f = .ok b) : ∃ a, r = .ok a ∧ f a = .ok b := by
  cases r with
  | ok a => exact ⟨a, rfl, h⟩
  | exc c => cases h
  | bad => cases h
theorem ok_inj {α : Type} {a b : α} (h : Res.ok a = .ok b) : a = b := by cases h; rfl

/-- a container that is looked into: its items are data that nobody changes; it itself may be the def's own -/
inductive Con (U : Ux) (K : PySem.W.Frag) (Z : List Addr) (H : Hp) : V → D → Prop
  | inl {v : V} {d : D} (h : Dat U K (view H Z) v d) : Con U K Z H v d
  | lst {a : Addr} {xs : List V} {ds : List D} (h : H a = some (.lst xs)) (hs : DatL U K (view H Z) xs ds) : Con U K Z H (.ref a) (.list ds)
  | ndi {a : Addr} {xs : List (NestedKey × Addr × V)} {kvs : List (D × D)} (h : H a = some (U.nd a xs)) (hs : DatN U K (view H Z) xs kvs) : Con U K Z H (.ref a) (ndD kvs)
section
variable {U : Ux} {K : PySem.W.Frag} {Z : List Addr} {H H' : Hp} {v : V}
theorem Con.inr {d : D} (h : ∃ ds a xs, d = .list ds ∧ v = .ref a ∧ H a = some (.lst xs) ∧ DatL U K (view H Z) xs ds) : Con U K Z H v d := by
  obtain ⟨ds, a, xs, rfl, rfl, h1, h2⟩ := h
  exact .lst h1 h2
theorem Con.mono {d : D} (e : Ex H H') (h : Con U K Z H v d) : Con U K Z H' v d := by
  cases h with
  | inl h => exact .inl (h.mono (ex_view e Z))
  | lst h1 h2 => exact .lst (e _ _ h1) (h2.mono (ex_view e Z))
  | ndi h1 h2 => exact .ndi (e _ _ h1) (h2.mono (ex_view e Z))
theorem Con.list {ds : List D} (h : Con U K Z H v (.list ds)) : ∃ a xs, v = .ref a ∧ H a = some (.lst xs) ∧ DatL U K (view H Z) xs ds := by
  cases h with
  | inl h =>
    obtain ⟨a, xs, e, h1, h2⟩ := h.list_inv
    exact ⟨a, xs, e, view_ex H Z _ _ h1, h2⟩
  | lst h1 h2 => exact ⟨_, _, rfl, h1, h2⟩
theorem Con.dat {d : D} (h : Con U K Z H v d) (n : ∀ ds, d ≠ .list ds) (n2 : ∀ kvs, d ≠ ndD kvs := by exact fun _ e => nomatch e) : Dat U K (view H Z) v d := by
  cases h with
  | inl h => exact h
  | lst _ _ => exact absurd rfl (n _)
  | ndi _ _ => exact absurd rfl (n2 _)
theorem Dat.nd_inv {kvs : List (D × D)} (h : Dat U K H v (ndD kvs)) : ∃ a xs, v = .ref a ∧ H a = some (U.nd a xs) ∧ DatN U K H xs kvs := by
  generalize he : ndD kvs = d at h
  cases h with
  | ndi h hs =>
    cases he
    exact ⟨_, _, rfl, h, hs⟩
  | _ => cases he
theorem Con.nd_inv {kvs : List (D × D)} (h : Con U K Z H v (ndD kvs)) : ∃ a xs, v = .ref a ∧ H a = some (U.nd a xs) ∧ DatN U K (view H Z) xs kvs := by
  generalize he : ndD kvs = d at h
  cases h with
  | inl h =>
    subst he
    obtain ⟨a, xs, e, h1, h2⟩ := h.nd_inv
    exact ⟨a, xs, e, view_ex H Z _ _ h1, h2⟩
  | lst _ _ => cases he
  | ndi h1 h2 =>
    cases he
    exact ⟨_, _, rfl, h1, h2⟩
theorem Dat.listH {ds : List D} (h : Dat U K (view H Z) v (.list ds)) : ∃ a xs, v = .ref a ∧ H a = some (.lst xs) ∧ DatL U K (view H Z) xs ds := Con.list (.inl h)
theorem Dat.tupleH {ds : List D} (h : Dat U K (view H Z) v (.tuple ds)) : ∃ a xs, v = .ref a ∧ SqT K H a xs ∧ DatL U K (view H Z) xs ds := by
  obtain ⟨a, xs, e, h1, h2⟩ := h.tuple_inv
  exact ⟨a, xs, e, ex_t (view_ex H Z) h1, h2⟩
theorem Dat.dict_ref {kvs : List (D × D)} (h : Dat U K H v (.dict kvs)) : ∃ a, v = .ref a := by
  cases h <;> exact ⟨_, rfl⟩
theorem Dat.scr_inv {xs : List D} {ns : List Int} (hi : intL xs = some ns) (h : Dat U K H v (.dict [(.bool true, .list xs)])) : ∃ a, v = .ref a ∧ SqL K H a (ns.map V.int) := by
  rw [intL_of hi] at h
  generalize he : (PyData.dict [(.bool true, .list (ns.map .int))] : D) = d at h
  cases h with
  | scr h =>
    rename_i a ms
    have e2 : ms.map PyData.int = ns.map PyData.int := by
      injection he with he
      injection he with h1 h2
      injection h1 with h1 h3
      injection h3 with h3
      exact h3.symm
    have e3 : ms = ns := by
      have := congrArg Rwl.intL e2
      rw [intL_map, intL_map] at this
      exact Option.some.inj this
    subst e3
    exact ⟨a, rfl, h⟩
  | _ => cases he
/-- a new list, a new tuple -/
theorem Dat.newL {p : Addr} {xs : List V} {ds : List D} (t : Zt Z H) (hp : H p = none) (h : DatL U K (view H Z) xs ds) : Dat U K (view (upd H p (.lst xs)) Z) (.ref p) (.list ds) := by
  refine .lst (xs := xs) ?_ (h.mono (ex_view (Ex.new hp) Z))
  rw [view_out (t.not hp), upd_same]
theorem Dat.newT {p : Addr} {xs : List V} {ds : List D} (t : Zt Z H) (hp : H p = none) (h : DatL U K (view H Z) xs ds) : Dat U K (view (upd H p (.tup xs)) Z) (.ref p) (.tuple ds) := by
  refine .tup (xs := xs) (.inl (.inl ?_)) (h.mono (ex_view (Ex.new hp) Z))
  rw [view_out (t.not hp), upd_same]
end

/-- what is wanted of a datum handed back -/
def Wn (U : Ux) (K : PySem.W.Frag) (Z : List Addr) (H : Hp) (Q : VK) (d : D) : Prop := ∀ v H', Ex H H' → Dat U K (view H' Z) v d → Q v H'
/-- two operands -/
def r2D (U : Ux) (K : PySem.W.Frag) (Z : List Addr) (g : D → D → Res D) : R2 := fun x y H Q => Zt Z H ∧ ∃ a b d, Dat U K (view H Z) x a ∧ Dat U K (view H Z) y b ∧ g a b = .ok d ∧ Wn U K Z H Q d
def r2B (U : Ux) (K : PySem.W.Frag) (Z : List Addr) (g : D → D → Res Bool) : R2 := fun x y H Q => ∃ a b k, Dat U K (view H Z) x a ∧ Dat U K (view H Z) y b ∧ g a b = .ok k ∧ Q (.bl k) H
def rCD (U : Ux) (K : PySem.W.Frag) (Z : List Addr) (g : D → D → Res D) : R2 := fun x y H Q => ∃ a b d, Con U K Z H x a ∧ Dat U K (view H Z) y b ∧ g a b = .ok d ∧ Wn U K Z H Q d
def O2.op : O2 → Operator
  | .add => .Add
  | .sub => .Sub
  | .mul => .Mult
  | .fdiv => .FloorDiv
  | .mod => .Mod
def Cm.op : Cm → CmpOp
  | .lt => .Lt
  | .le => .LtE
  | .gt => .Gt
  | .ge => .GtE
  | .eq => .Eq
  | .ne => .NotEq
  | .inn => .In
  | .nin => .NotIn
  | .isn => .Is
  | .ntn => .IsNot

section
variable {U : Ux} {X : Cx} {Z : List Addr}
theorem Wn.int {H : Hp} {Q : VK} {i : Int} (h : Wn U X.K Z H Q (.int i)) : Q (.int i) H := h _ H (Ex.refl H) (.int i)
theorem Wn.bl {H : Hp} {Q : VK} {i : Bool} (h : Wn U X.K Z H Q (.bool i)) : Q (.bl i) H := h _ H (Ex.refl H) (.bl i)
theorem Wn.str {H : Hp} {Q : VK} {i : Str} (h : Wn U X.K Z H Q (.str i)) : Q (.str i) H := h _ H (Ex.refl H) (.str i)
theorem op_bin (o : O2) : OpR X (binaryOp o.op) (r2D U X.K Z o.run) := by
  intro pins s σ H x y v u Q I rx ry h
  obtain ⟨t, a, b, d, hx, hy, hg, q⟩ := h
  cases o with
  | add =>
    cases a with
    | int i =>
      cases b with
      | int j =>
        cases hx.int_inv; cases hy.int_inv
        cases ok_inj hg
        exact op_add pins s σ H _ _ v u Q I rx ry ⟨i, j, rfl, rfl, q.int⟩
      | _ => cases hg
    | str i =>
      cases b with
      | str j =>
        cases hx.str_inv; cases hy.str_inv
        obtain ⟨h1, h2⟩ := req_ok hg
        cases ok_inj h2
        exact op_add_str pins s σ H _ _ v u Q I rx ry ⟨i, j, rfl, rfl, lim_line (of_decide_eq_true h1), q.str⟩
      | _ => cases hg
    | list i =>
      cases b with
      | list j =>
        obtain ⟨p, xs, rfl, h1, h2⟩ := hx.listH
        obtain ⟨p', ys, rfl, k1, k2⟩ := hy.listH
        obtain ⟨h3, h4⟩ := req_ok hg
        cases ok_inj h4
        exact op_cat pins s σ H _ _ v u Q I rx ry ⟨p, p', xs, ys, rfl, rfl, h1, k1, by rw [h2.length, k2.length]; exact lim_line (of_decide_eq_true h3), fun z hz => q _ _ (Ex.new hz) (Dat.newL t hz (h2.append k2))⟩
      | _ => cases hg
    | tuple i =>
      cases b with
      | tuple j =>
        obtain ⟨p, xs, rfl, h1, h2⟩ := hx.tupleH
        obtain ⟨p', ys, rfl, k1, k2⟩ := hy.tupleH
        obtain ⟨h3, h4⟩ := req_ok hg
        cases ok_inj h4
        refine op_catA pins s σ H _ _ v u Q I rx ry ⟨p, p', xs, ys, rfl, rfl, h1, k1, by rw [h2.length, k2.length]; exact lim_line (of_decide_eq_true h3), fun e => ?_, fun _ e => ?_, fun _ _ z hz => q _ _ (Ex.new hz) (Dat.newT t hz (h2.append k2))⟩
        · subst e
          cases h2
          exact q _ _ (Ex.refl H) (by simpa using hy)
        · subst e
          cases k2
          exact q _ _ (Ex.refl H) (by simpa using hx)
      | _ => cases hg
    | _ => cases hg
  | sub =>
    cases a with
    | int i =>
      cases b with
      | int j =>
        cases hx.int_inv; cases hy.int_inv
        cases ok_inj hg
        exact op_sub pins s σ H _ _ v u Q I rx ry ⟨i, j, rfl, rfl, q.int⟩
      | _ => cases hg
    | _ => cases hg
  | mul =>
    cases a with
    | int i =>
      cases b with
      | int j =>
        cases hx.int_inv; cases hy.int_inv
        obtain ⟨h1, h2⟩ := req_ok hg
        cases ok_inj h2
        refine op_mul pins s σ H _ _ v u Q I rx ry ⟨i, j, rfl, rfl, ?_, q.int⟩
        unfold near64 at h1
        simpa [CMul] using h1
      | _ => cases hg
    | list i =>
      cases b with
      | int k =>
        cases hy.int_inv
        obtain ⟨p, xs, rfl, h1, h2⟩ := hx.listH
        obtain ⟨h3, h4⟩ := req_ok hg
        cases ok_inj h4
        have h5 : (-100000 ≤ k ∧ k ≤ 100000) ∧ i.length * k.toNat ≤ lim := by simpa using h3
        exact op_rep pins s σ H _ _ v u Q I rx ry ⟨p, k, xs, rfl, rfl, h1, by omega, by omega, by rw [h2.length]; exact lim_line h5.2, fun z hz => q _ _ (Ex.new hz) (Dat.newL t hz (h2.rep _))⟩
      | _ => cases hg
    | _ => cases hg
  | fdiv =>
    cases a with
    | int i =>
      cases b with
      | int j =>
        cases hx.int_inv; cases hy.int_inv
        obtain ⟨h1, h2⟩ := req_ok hg
        cases ok_inj h2
        exact op_fdiv pins s σ H _ _ v u Q I rx ry ⟨i, j, rfl, rfl, by simpa [CDiv] using h1, q.int⟩
      | _ => cases hg
    | _ => cases hg
  | mod =>
    cases a with
    | int i =>
      cases b with
      | int j =>
        cases hx.int_inv; cases hy.int_inv
        obtain ⟨h1, h2⟩ := req_ok hg
        cases ok_inj h2
        exact op_mod pins s σ H _ _ v u Q I rx ry ⟨i, j, rfl, rfl, of_decide_eq_true h1, q.int⟩
      | _ => cases hg
    | _ => cases hg

/-! ### comparisons -/
theorem Dat.none_iff {U : Ux} {K : PySem.W.Frag} {H : Hp} {v : V} {d : D} (h : Dat U K H v d) : decide (v = .non) = nonD d := by
  cases d with
  | none => cases h.none_inv; rfl
  | bool b => cases h.bool_inv; rfl
  | int b => cases h.int_inv; rfl
  | str b => cases h.str_inv; rfl
  | list ds => obtain ⟨a, xs, rfl, _⟩ := h.list_inv; rfl
  | tuple ds => obtain ⟨a, xs, rfl, _⟩ := h.tuple_inv; rfl
  | dict kvs => obtain ⟨a, rfl⟩ := h.dict_ref; rfl
theorem lexLt_is : ∀ ns ms : List Int, HT.lexLt ns ms = lexLt ns ms
  | [], [] => rfl
  | [], _ :: _ => rfl
  | _ :: _, [] => rfl
  | x :: xs, y :: ys => by
    show (if x = y then HT.lexLt xs ys else decide (x < y)) = (if x = y then lexLt xs ys else decide (x < y))
    rw [lexLt_is xs ys]
theorem Dat.reads {U : Ux} {H : Hp} {pins : List (Addr × Obj)} {s : Shared} {σ : L2.St} (I : Inv X pins σ H s) {d : D} {v : V} {u : Value} {n : Nat} (p : dep n d = true) (h : Dat U X.K (view H Z) v d) (r : RelV v u) : ∃ as, Reads s.heap u d as :=
  Dp.reads I d v u (Dat.dp d v (dep_plain p).1 (h.mono (view_ex H Z))) r
theorem ltD_op {f : Value → Value → Sem Value} (hf : f = compareOp .Lt) (hu : X.A.units + 64 < cLine) : OpR X f (r2B U X.K Z ltD) := by
  subst hf
  intro pins s σ H x y v u Q I rx ry h
  obtain ⟨a, b, k, hx, hy, hg, q⟩ := h
  cases a with
  | int i =>
    cases b with
    | int j =>
      cases hx.int_inv; cases hy.int_inv
      cases ok_inj hg
      exact op_lt pins s σ H _ _ v u Q I rx ry ⟨i, j, rfl, rfl, q⟩
    | _ => cases hg
  | tuple xs =>
    cases b with
    | tuple ys =>
      obtain ⟨ns, h1, hg⟩ := bind_ok_inv hg
      obtain ⟨ms, h2, hg⟩ := bind_ok_inv hg
      cases ok_inj hg
      obtain ⟨p, vs, rfl, k1, k2⟩ := hx.tupleH
      obtain ⟨p', ws, rfl, l1, l2⟩ := hy.tupleH
      cases DatL.intL (ofO_ok h1) k2
      cases DatL.intL (ofO_ok h2) l2
      exact op_ltT (by omega) pins s σ H _ _ v u Q I rx ry ⟨p, p', ns, ms, rfl, rfl, k1, l1, by rw [lexLt_is]; exact q⟩
    | _ => cases hg
  | _ => cases hg
theorem inD_op (hu : X.A.units + 64 < cLine) (neg : Bool) : OpR X (compareOp (if neg then .NotIn else .In)) (fun x y H Q => ∃ a b k, Dat U X.K (view H Z) x a ∧ Dat U X.K (view H Z) y b ∧ inD a b = .ok k ∧ Q (.bl (if neg then !k else k)) H) := by
  intro pins s σ H x y v u Q I rx ry h
  obtain ⟨a, b, k, hx, hy, hg, q⟩ := h
  cases b with
  | list ds =>
    obtain ⟨h1, h2⟩ := req_ok hg
    cases ok_inj h2
    rw [Bool.and_eq_true] at h1
    have p9 : dep 9 (.list ds) = true := by simpa [dep] using h1.2
    obtain ⟨as, r1⟩ := Dat.reads I h1.1 hx rx
    obtain ⟨bs, r2⟩ := Dat.reads I p9 hy ry
    have d1 := dep_plain h1.1
    have d2 := dep_all (fun d _ => dep_plain (n := 8)) h1.2
    cases neg with
    | false => exact SeqAt.in_list_data r2 r1 d2.1 d1.1 (by have := d1.2; omega) ⟨.bl _, H, I, rfl, q⟩
    | true => exact SeqAt.notIn_list_data r2 r1 d2.1 d1.1 (by have := d1.2; omega) ⟨.bl _, H, I, rfl, q⟩
  | tuple ds =>
    obtain ⟨h1, h2⟩ := req_ok hg
    cases ok_inj h2
    rw [Bool.and_eq_true] at h1
    have p9 : dep 9 (.tuple ds) = true := by simpa [dep] using h1.2
    obtain ⟨as, r1⟩ := Dat.reads I h1.1 hx rx
    obtain ⟨bs, r2⟩ := Dat.reads I p9 hy ry
    have d1 := dep_plain h1.1
    have d2 := dep_all (fun d _ => dep_plain (n := 8)) h1.2
    cases neg with
    | false => exact SeqAt.in_tuple_data r2 r1 d2.1 d1.1 (by have := d1.2; omega) ⟨.bl _, H, I, rfl, q⟩
    | true => exact SeqAt.notIn_tuple_data r2 r1 d2.1 d1.1 (by have := d1.2; omega) ⟨.bl _, H, I, rfl, q⟩
  | str z =>
    cases a with
    | str w =>
      obtain ⟨l⟩ := w
      obtain ⟨l⟩ := l
      cases l with
      | nil => cases hg
      | cons c r =>
        cases r with
        | nil =>
          cases hx.str_inv; cases hy.str_inv
          cases ok_inj hg
          cases neg with
          | false => exact op_in_sign pins s σ H _ _ v u Q I rx ry ⟨c, z, rfl, rfl, q⟩
          | true => exact op_notIn_sign pins s σ H _ _ v u Q I rx ry ⟨c, z, rfl, rfl, q⟩
        | cons _ _ => cases hg
    | _ => cases hg
  | _ => cases hg
theorem op_cm (hu : X.A.units + 64 < cLine) (o : Cm) : OpR X (compareOp o.op) (r2B U X.K Z o.run) := by
  cases o with
  | lt => exact ltD_op rfl hu
  | gt =>
    intro pins s σ H x y v u Q I rx ry h
    obtain ⟨a, b, k, hx, hy, hg, q⟩ := h
    have hg : gtD a b = .ok k := hg
    cases a with
    | int i =>
      cases b with
      | int j =>
        cases hx.int_inv; cases hy.int_inv
        cases ok_inj hg
        exact op_gt pins s σ H _ _ v u Q I rx ry ⟨i, j, rfl, rfl, q⟩
      | _ => cases hg
    | _ => cases hg
  | le =>
    intro pins s σ H x y v u Q I rx ry h
    obtain ⟨a, b, k, hx, hy, hg, q⟩ := h
    have hg : leD a b = .ok k := hg
    cases a with
    | int i =>
      cases b with
      | int j =>
        cases hx.int_inv; cases hy.int_inv
        cases ok_inj hg
        exact op_le pins s σ H _ _ v u Q I rx ry ⟨i, j, rfl, rfl, q⟩
      | _ => cases hg
    | _ => cases hg
  | ge =>
    intro pins s σ H x y v u Q I rx ry h
    obtain ⟨a, b, k, hx, hy, hg, q⟩ := h
    have hg : geD a b = .ok k := hg
    cases a with
    | int i =>
      cases b with
      | int j =>
        cases hx.int_inv; cases hy.int_inv
        cases ok_inj hg
        exact op_ge pins s σ H _ _ v u Q I rx ry ⟨i, j, rfl, rfl, q⟩
      | _ => cases hg
    | _ => cases hg
  | eq =>
    intro pins s σ H x y v u Q I rx ry h
    obtain ⟨a, b, k, hx, hy, hg, q⟩ := h
    obtain ⟨h1, h2⟩ := req_ok (show eqD a b = .ok k from hg)
    cases ok_inj h2
    rw [Bool.and_eq_true] at h1
    obtain ⟨as, r1⟩ := Dat.reads I h1.1 hx rx
    obtain ⟨bs, r2⟩ := Dat.reads I h1.2 hy ry
    exact SeqAt.eq_plain r1 r2 (dep_plain h1.1).1 (dep_plain h1.2).1 (by have := (dep_plain h1.1).2; omega) ⟨.bl _, H, I, rfl, q⟩
  | ne =>
    intro pins s σ H x y v u Q I rx ry h
    obtain ⟨a, b, k, hx, hy, hg, q⟩ := h
    obtain ⟨k', hg', hk⟩ := bind_ok_inv (show (eqD a b).nott = .ok k from hg)
    cases ok_inj hk
    obtain ⟨h1, h2⟩ := req_ok (show req _ _ = .ok k' from hg')
    cases ok_inj h2
    rw [Bool.and_eq_true] at h1
    obtain ⟨as, r1⟩ := Dat.reads I h1.1 hx rx
    obtain ⟨bs, r2⟩ := Dat.reads I h1.2 hy ry
    exact SeqAt.ne_plain r1 r2 (dep_plain h1.1).1 (dep_plain h1.2).1 (by have := (dep_plain h1.1).2; omega) ⟨.bl _, H, I, rfl, q⟩
  | inn =>
    intro pins s σ H x y v u Q I rx ry h
    obtain ⟨a, b, k, hx, hy, hg, q⟩ := h
    exact inD_op (U := U) (Z := Z) hu false pins s σ H x y v u Q I rx ry ⟨a, b, k, hx, hy, hg, q⟩
  | nin =>
    intro pins s σ H x y v u Q I rx ry h
    obtain ⟨a, b, k, hx, hy, hg, q⟩ := h
    obtain ⟨k', hg', hk⟩ := bind_ok_inv (show (inD a b).nott = .ok k from hg)
    cases ok_inj hk
    exact inD_op (U := U) (Z := Z) hu true pins s σ H x y v u Q I rx ry ⟨a, b, k', hx, hy, hg', q⟩
  | isn =>
    intro pins s σ H x y v u Q I rx ry h
    obtain ⟨a, b, k, hx, hy, hg, q⟩ := h
    obtain ⟨h1, h2⟩ := req_ok (show req (nonD b) (.ok (nonD a)) = .ok k from hg)
    cases ok_inj h2
    have e : y = .non := of_decide_eq_true (by rw [hy.none_iff]; exact h1)
    exact op_isN pins s σ H _ _ v u Q I rx ry ⟨e, by rw [hx.none_iff]; exact q⟩
  | ntn =>
    intro pins s σ H x y v u Q I rx ry h
    obtain ⟨a, b, k, hx, hy, hg, q⟩ := h
    obtain ⟨h1, h2⟩ := req_ok (show req (nonD b) (.ok (!nonD a)) = .ok k from hg)
    cases ok_inj h2
    have e : y = .non := of_decide_eq_true (by rw [hy.none_iff]; exact h1)
    exact op_notN pins s σ H _ _ v u Q I rx ry ⟨e, by rw [hx.none_iff]; exact q⟩

/-! ### one operand; truth -/
theorem un_negD : UnR X (unaryOp .USub) (fun x H Q => ∃ a d, Dat U X.K (view H Z) x a ∧ negD a = .ok d ∧ Wn U X.K Z H Q d) := by
  intro pins s σ H x v Q I rx h
  obtain ⟨a, d, hx, hg, q⟩ := h
  cases a with
  | int i =>
    cases hx.int_inv
    cases ok_inj hg
    exact un_neg pins s σ H _ v Q I rx ⟨i, rfl, q.int⟩
  | _ => cases hg
theorem Con.truV {H : Hp} {x : V} {a : D} {k : Bool} (hx : Con U X.K Z H x a) (hg : tru a = .ok k) : TruV X.K x H k := by
  cases a with
  | none => cases (hx.dat (fun _ e => nomatch e)).none_inv; cases ok_inj hg; exact rfl
  | bool b => cases (hx.dat (fun _ e => nomatch e)).bool_inv; cases ok_inj hg; exact rfl
  | int b => cases (hx.dat (fun _ e => nomatch e)).int_inv; cases ok_inj hg; exact rfl
  | str b =>
    cases (hx.dat (fun _ e => nomatch e)).str_inv
    obtain ⟨h1, h2⟩ := req_ok hg
    cases ok_inj h2
    exact ⟨lim_line (of_decide_eq_true h1), rfl⟩
  | list ds =>
    obtain ⟨p, xs, rfl, h1, h2⟩ := hx.list
    cases ok_inj hg
    refine .inl ⟨xs, SqL.of h1, ?_⟩
    cases h2 <;> rfl
  | tuple ds =>
    obtain ⟨p, xs, rfl, h1, h2⟩ := (hx.dat (fun _ e => nomatch e)).tupleH
    cases ok_inj hg
    refine .inr (.inl ⟨xs, h1, ?_⟩)
    cases h2 <;> rfl
  | dict kvs =>
    obtain ⟨xs, h0, hg⟩ := bind_ok_inv (show (ofO (scrOf kvs)).bind _ = .ok k from hg)
    cases scrOf_of (ofO_ok h0)
    have hx := hx.dat (fun _ e => nomatch e)
    obtain ⟨h1, h2⟩ := req_ok hg
    cases ok_inj h2
    obtain ⟨ns, hn⟩ := Option.isSome_iff_exists.mp h1
    obtain ⟨p, rfl, hs⟩ := hx.scr_inv hn
    refine .inl ⟨_, ex_l (view_ex H Z) hs, ?_⟩
    rw [intL_of hn]
    cases ns <;> rfl
end
end Rwl

set_option Elab.async false
set_option linter.all false
set_option maxRecDepth 100000
set_option maxHeartbeats 1000000
/-! Rwl, part Dn: dicts whose keys are tuples, nested. -/
namespace Rwl
open PySem PySem.Spec PyProof.Rows L2 Evl

/-! ### keys -/
mutual
theorem reads_key {h : Heap} : ∀ (n : Nat) (d : D) (v : Value) (as : List Addr), kdep n d = true → Reads h v d as → NestedIs h (keyOf d) v ∧ (keyOf d).depth ≤ n
  | _, .none, _, _, _, r => by cases r; exact ⟨.none, Nat.zero_le _⟩
  | _, .bool b, _, _, _, r => by cases r; exact ⟨.bool rfl, Nat.zero_le _⟩
  | _, .int i, _, _, _, r => by cases r; exact ⟨.int _ _, Nat.zero_le _⟩
  | _, .str x, _, _, _, r => by cases r; exact ⟨.text _ _, Nat.zero_le _⟩
  | 0, .tuple xs, _, _, k, _ => by simp [kdep] at k
  | n + 1, .tuple xs, _, _, k, r => by
    cases r with
    | tuple h1 h2 h3 h4 =>
      have := reads_keys n xs _ _ (by simpa [kdep] using k) h4
      refine ⟨.tup h1 h2 h3 this.1, ?_⟩
      show NestedKey.depthAll (keysOf xs) + 1 ≤ n + 1
      exact Nat.succ_le_succ this.2
  | n, .list _, _, _, k, _ => by cases n <;> simp [kdep] at k
  | n, .dict _, _, _, k, _ => by cases n <;> simp [kdep] at k
theorem reads_keys {h : Heap} : ∀ (n : Nat) (ds : List D) (vs : List Value) (as : List Addr), (∀ d ∈ ds, kdep n d = true) → ReadsAll h vs ds as → NestedAll h (keysOf ds) vs ∧ NestedKey.depthAll (keysOf ds) ≤ n
  | _, [], _, _, _, r => by cases r; exact ⟨.nil, Nat.zero_le _⟩
  | n, d :: ds, _, _, k, r => by
    cases r with
    | cons h1 h2 =>
      have q1 := reads_key n d _ _ (k d List.mem_cons_self) h1
      have q2 := reads_keys n ds _ _ (fun e he => k e (List.mem_cons_of_mem _ he)) h2
      exact ⟨.cons q1.1 q2.1, Nat.max_le.mpr ⟨q1.2, q2.2⟩⟩
end
theorem kdep_dep : ∀ (n : Nat) (d : D), kdep n d = true → dep n d = true
  | n, .none, _ => by cases n <;> rfl
  | n, .bool _, _ => by cases n <;> rfl
  | n, .int _, _ => by cases n <;> rfl
  | n, .str _, _ => by cases n <;> rfl
  | 0, .tuple _, k => by simp [kdep] at k
  | n + 1, .tuple xs, k => by
    have k' : ∀ x ∈ xs, kdep n x = true := by simpa [kdep] using k
    have : ∀ x ∈ xs, dep n x = true := fun x hx => kdep_dep n x (k' x hx)
    simpa [dep] using this
  | n, .list _, k => by cases n <;> simp [kdep] at k
  | n, .dict _, k => by cases n <;> simp [kdep] at k
theorem isKey_tup {d : D} (h : isKey d = true) : ∃ xs, d = .tuple xs ∧ kdep 4 d = true := by
  cases d with
  | tuple xs => exact ⟨xs, rfl, h⟩
  | _ => cases h
/-- at b stands the key k, in whatever heap is held -/
def Nk (X : Cx) (H : Hp) (k : NestedKey) (b : Addr) : Prop := ∀ pins s σ, Inv X pins σ H s → (nestedKind X.prog X.w).is s.heap k b
section
variable {U : Ux} {X : Cx} {Z : List Addr} {H H' : Hp} {pins : List (Addr × Obj)} {σ : L2.St} {s : Shared}
theorem Nk.of {v : V} {d : D} (h : Dat U X.K (view H Z) v d) (k : isKey d = true) : ∃ b, v = .ref b ∧ Nk X H (keyOf d) b := by
  obtain ⟨xs, rfl, kd⟩ := isKey_tup k
  obtain ⟨b, ys, rfl, _, _⟩ := h.tuple_inv
  refine ⟨b, rfl, fun pins s σ I => ?_⟩
  obtain ⟨as, r⟩ := Dat.reads I (kdep_dep _ _ kd) h (show RelV (.ref b) (.ref b) from rfl)
  have q := reads_key 4 _ _ _ kd r
  exact ⟨q.1, Nat.le_trans q.2 (by decide)⟩
abbrev NE := NestedKey × Addr × V
theorem DatN.keys : ∀ {xs : List NE} {ds : List (D × D)}, DatN U X.K (view H Z) xs ds → ∀ x ∈ xs, Nk X H x.1 x.2.1
  | _, _, .nil, x, hx => nomatch hx
  | _, _, .cons hk hi h hs, x, hx => by
    rcases List.mem_cons.mp hx with rfl | hx
    · obtain ⟨b, e, q⟩ := Nk.of hk hi
      cases e
      exact q
    · exact DatN.keys hs x hx
def atN (xs : List NE) (k : NestedKey) : Option V := (xs.find? fun x => decide (x.1 = k)).map (·.2.2)
def putN (xs : List NE) (k : NestedKey) (b : Addr) (v : V) : List NE := if (atN xs k).isSome = true then xs.map (fun x => if x.1 = k then (x.1, x.2.1, v) else x) else xs ++ [(k, b, v)]
theorem DatN.look {K : PySem.W.Frag} {k : D} : ∀ {xs : List NE} {ds : List (D × D)}, DatN U K H xs ds → match nlook ds k with
    | some d => ∃ v, atN xs (keyOf k) = some v ∧ Dat U K H v d
    | none => atN xs (keyOf k) = none
  | _, _, .nil => rfl
  | _, _, .cons (kd := kd) (d := d) (v := v) (b := b) (xs := xs) (ds := ds) hk hi h hs => by
    have ih := DatN.look (k := k) hs
    by_cases e : keyOf kd = keyOf k
    · have e1 : nlook ((kd, d) :: ds) k = some d := by simp [nlook, List.find?_cons, e]
      have e2 : atN ((keyOf kd, b, v) :: xs) (keyOf k) = some v := by simp [atN, List.find?_cons, e]
      rw [e1]
      exact ⟨v, e2, h⟩
    · have e1 : nlook ((kd, d) :: ds) k = nlook ds k := by simp [nlook, List.find?_cons, e]
      have e2 : atN ((keyOf kd, b, v) :: xs) (keyOf k) = atN xs (keyOf k) := by simp [atN, List.find?_cons, e]
      rw [e1, e2]
      exact ih
theorem DatN.some_eq {K : PySem.W.Frag} {xs : List NE} {ds : List (D × D)} (h : DatN U K H xs ds) (k : D) : (atN xs (keyOf k)).isSome = (nlook ds k).isSome := by
  have q := h.look (k := k)
  cases e : nlook ds k with
  | some d => rw [e] at q; obtain ⟨v, q, _⟩ := q; rw [q]; rfl
  | none => rw [e] at q; rw [q]; rfl
theorem DatN.put {K : PySem.W.Frag} {xs : List NE} {ds : List (D × D)} {k d : D} {b : Addr} {v : V} (h : DatN U K H xs ds) (hk : Dat U K H (.ref b) k) (hi : isKey k = true) (hv : Dat U K H v d) : DatN U K H (putN xs (keyOf k) b v) (nput ds k d) := by
  unfold putN nput
  rw [h.some_eq k]
  by_cases e : (nlook ds k).isSome = true
  · rw [if_pos e, if_pos e]
    clear e
    induction ds generalizing xs with
    | nil => cases h; exact .nil
    | cons p r ih =>
      cases h with
      | @cons b' v' kd d' xs _ hk' hi' h hs =>
        rw [List.map_cons, List.map_cons]
        by_cases e2 : keyOf kd = keyOf k
        · rw [if_pos (show (keyOf kd, b', v').1 = keyOf k from e2), if_pos (show keyOf (kd, d').1 = keyOf k from e2)]
          exact .cons hk' hi' hv (ih hs)
        · rw [if_neg (show ¬ (keyOf kd, b', v').1 = keyOf k from e2), if_neg (show ¬ keyOf (kd, d').1 = keyOf k from e2)]
          exact .cons hk' hi' h (ih hs)
  · rw [if_neg e, if_neg e]
    clear e
    induction ds generalizing xs with
    | nil => cases h; exact .cons hk hi hv .nil
    | cons p r ih =>
      cases h with
      | cons hk' hi' h hs => exact .cons hk' hi' h (ih hs)
theorem DatN.length {K : PySem.W.Frag} : ∀ {xs : List NE} {ds : List (D × D)}, DatN U K H xs ds → xs.length = ds.length
  | _, _, .nil => rfl
  | _, _, .cons _ _ _ hs => congrArg (· + 1) (DatN.length hs)

/-! ### the dict's object -/
abbrev NR : List NE → List (NestedKey × Addr × Value) → Prop := Paired fun p q => p.1 = q.1 ∧ p.2.1 = q.2.1 ∧ RelV p.2.2 q.2.2
def NDict (P : Program) (w : World) (a : Addr) (xs : List NE) : HO := .ext fun h => xs.length ≤ sizeLine ∧ (a == sysModules) = false ∧ ∃ ys, NR xs ys ∧
  ∃ o es ep, h.get? a = some o ∧ o.ExactDict ∧ o.data = .dict es ep ∧ es.toList = ys.map (entryOfKey (nestedKind P w)) ∧ (ys.map (·.1)).Nodup
theorem ndc_of {a : Addr} {xs : List NE} (I : Inv X pins σ H s) (e : H a = some (NDict X.prog X.w a xs)) (ks : ∀ x ∈ xs, Nk X H x.1 x.2.1) :
    xs.length ≤ sizeLine ∧ (a == sysModules) = false ∧ ∃ ys, NR xs ys ∧ s.heap.DictOfH (nestedKind X.prog X.w) a ys := by
  obtain ⟨⟨z, hd, ys, rel, o, es, ep, h1, h2, h3, h4, h5⟩, _⟩ := (show ObjOk X.prog X.w H s.heap a (NDict X.prog X.w a xs) from I.hok a _ e)
  refine ⟨z, hd, ys, rel, o, es, ep, h1, h2, h3, h4, ?_, h5⟩
  clear h4 h5 h3 h2 h1 z
  intro y hy
  have all : ∀ {l : List NE} {m : List (NestedKey × Addr × Value)}, NR l m → (∀ x ∈ l, Nk X H x.1 x.2.1) → ∀ y ∈ m, (nestedKind X.prog X.w).is s.heap y.1 y.2.1 := by
    intro l m q
    induction q with
    | nil => intro _ y hy; exact nomatch hy
    | @cons p q ps qs hq t ih =>
      intro hk y hy
      rcases List.mem_cons.mp hy with e | hy
      · subst e
        obtain ⟨e1, e2, _⟩ := hq
        rw [← e1, ← e2]
        exact hk p List.mem_cons_self pins s σ I
      · exact ih (fun x hx => hk x (List.mem_cons_of_mem _ hx)) y hy
  exact all rel ks y hy
theorem NR.at {xs : List NE} {ys : List (NestedKey × Addr × Value)} (r : NR xs ys) (k : NestedKey) : RelO (atN xs k) ((atKey ys k).map (·.2)) := by
  induction r with
  | nil => exact True.intro
  | @cons p q ps qs h t ih =>
    obtain ⟨h1, _, h2⟩ := h
    by_cases e : p.1 = k
    · have e' : q.1 = k := h1.symm.trans e
      have a : atN (p :: ps) k = some p.2.2 := by simp [atN, List.find?_cons, e]
      have b : atKey (q :: qs) k = some q.2 := by simp [atKey, List.find?_cons, e']
      rw [a, b]; exact h2
    · have e' : ¬ q.1 = k := fun z => e (h1.trans z)
      have a : atN (p :: ps) k = atN ps k := by simp [atN, List.find?_cons, e]
      have b : atKey (q :: qs) k = atKey qs k := by simp [atKey, List.find?_cons, e']
      rw [a, b]; exact ih
theorem NR.put {xs : List NE} {ys : List (NestedKey × Addr × Value)} (r : NR xs ys) (k : NestedKey) (b : Addr) {y : V} {u : Value} (ry : RelV y u) : NR (putN xs k b y) (storedH ys k b u) := by
  have e : (atN xs k).isSome = (atKey ys k).isSome := by rw [(r.at k).isSome_eq, Option.isSome_map]
  unfold putN storedH
  rw [e]
  by_cases q : (atKey ys k).isSome = true
  · rw [if_pos q, if_pos q]
    clear e q
    induction r with
    | nil => exact .nil
    | @cons p q ps qs h t ih =>
      rw [List.map_cons, List.map_cons]
      refine .cons ?_ ih
      obtain ⟨h1, h2, h3⟩ := h
      unfold putAt
      by_cases e : p.1 = k
      · rw [if_pos e, if_pos (h1.symm.trans e)]; exact ⟨h1, h2, ry⟩
      · rw [if_neg e, if_neg (fun z => e (h1.trans z))]; exact ⟨h1, h2, h3⟩
  · rw [if_neg q, if_neg q]; exact Paired.snoc r ⟨rfl, rfl, ry⟩
theorem putN_length (xs : List NE) (k : NestedKey) (b : Addr) (v : V) : (putN xs k b v).length ≤ xs.length + 1 := by
  unfold putN
  split
  · rw [List.length_map]; exact Nat.le_succ _
  · rw [List.length_append]; exact Nat.le_refl _
theorem nd_obj {P : Program} {w : World} {Hp' : Hp} {h : Heap} {a : Addr} {xs : List NE} {ys : List (NestedKey × Addr × Value)} (z : xs.length ≤ sizeLine) (hd : (a == sysModules) = false) (rel : NR xs ys) (dd : h.DictOfH (nestedKind P w) a ys) : ObjOk P w Hp' h a (NDict P w a xs) := by
  obtain ⟨o, es, ep, h1, h2, h3, h4, _, h5⟩ := dd
  exact ⟨⟨z, hd, ys, rel, o, es, ep, h1, h2, h3, h4, h5⟩, ⟨o, h1⟩, fun g1 g2 ⟨z', hd', ys', rel', o', es', ep', k1, k2⟩ st => ⟨z', hd', ys', rel', o', es', ep', st _ k1, k2⟩⟩
theorem nd_empty {P : Program} {w : World} {Hp' : Hp} (h : Heap) (hb : sysModules < h.objs.size) : ObjOk P w Hp' (h.push { cls := .type "dict", data := .dict #[] }) h.objs.size (NDict P w h.objs.size []) :=
  nd_obj (Nat.zero_le _) (beq_eq_false_iff_ne.mpr (Ne.symm (Nat.ne_of_lt hb))) .nil (Heap.DictOfH.new h)
variable {A : Around} {E : Value → Shared → Prop} {a b : Addr} {k : NestedKey} {xs : List NE}
theorem room_nd (hu : A.units + 64 < cLine) : (nestedKind X.prog X.w).room A.in1 := by
  show A.in1.units + 8 < cLine
  rw [Around.in1_units]
  omega
theorem nd_getItem {v : V} {Q : Value → Shared → Prop} (hu : A.units + 64 < cLine) (I : Inv X pins σ H s) (e : H a = some (NDict X.prog X.w a xs)) (ks : ∀ x ∈ xs, Nk X H x.1 x.2.1) (hk : Nk X H k b) (l : atN xs k = some v) (h : ∀ w' s', Inv X pins σ H s' → RelV v w' → Q w' s') :
    wpAny (model X.prog X.w) A (getItem (.ref a) (.ref b)) Q E s := by
  obtain ⟨z, hd, ys, rel, dd⟩ := ndc_of I e ks
  obtain ⟨w', hw, rw'⟩ := RelO.some_of (v := v) (o := (atKey ys k).map (·.2)) (by rw [← l]; exact rel.at k)
  obtain ⟨p, hp, hp2⟩ := Option.map_eq_some_iff.mp hw
  refine wpAny_getItem_heap (room_nd hu) (hk _ _ _ I) dd hp ?_
  rw [hp2]
  exact h w' _ (I.tok _) rw'
theorem nd_in {Q : Value → Shared → Prop} (hu : A.units + 64 < cLine) (I : Inv X pins σ H s) (e : H a = some (NDict X.prog X.w a xs)) (ks : ∀ x ∈ xs, Nk X H x.1 x.2.1) (hk : Nk X H k b) (h : ∀ s', Inv X pins σ H s' → Q (.bool (atN xs k).isSome) s') :
    wpAny (model X.prog X.w) A (compareOp .In (.ref b) (.ref a)) Q E s := by
  obtain ⟨z, hd, ys, rel, dd⟩ := ndc_of I e ks
  refine wpAny_in_heap (room_nd hu) (hk _ _ _ I) hd dd ?_
  have q := (rel.at k).isSome_eq
  rw [Option.isSome_map] at q
  rw [← q]
  exact h _ (I.tok _)
theorem nd_notIn {Q : Value → Shared → Prop} (hu : A.units + 64 < cLine) (I : Inv X pins σ H s) (e : H a = some (NDict X.prog X.w a xs)) (ks : ∀ x ∈ xs, Nk X H x.1 x.2.1) (hk : Nk X H k b) (h : ∀ s', Inv X pins σ H s' → Q (.bool (!(atN xs k).isSome)) s') :
    wpAny (model X.prog X.w) A (compareOp .NotIn (.ref b) (.ref a)) Q E s := by
  obtain ⟨z, hd, ys, rel, dd⟩ := ndc_of I e ks
  refine wpAny_notIn_heap (room_nd hu) (hk _ _ _ I) hd dd ?_
  have q := (rel.at k).isSome_eq
  rw [Option.isSome_map] at q
  rw [← q]
  exact h _ (I.tok _)
theorem nd_setItem {v : V} {r : Value} {Q : Unit → Shared → Prop} (hu : A.units + 64 < cLine) (I : Inv X pins σ H s) (e : H a = some (NDict X.prog X.w a xs)) (ks : ∀ x ∈ xs, Nk X H x.1 x.2.1) (hk : Nk X H k b) (hl : xs.length < sizeLine) (rv : RelV v r) (h : ∀ s', Inv X pins σ (upd H a (NDict X.prog X.w a (putN xs k b v))) s' → Q () s') :
    wpAny (model X.prog X.w) A (setItem (.ref a) (.ref b) r) Q E s := by
  obtain ⟨z, hd, ys, rel, dd⟩ := ndc_of I e ks
  have hz : ys.length ≤ sizeLine := by rw [← Paired.length rel]; exact z
  have hl' : (putN xs k b v).length ≤ sizeLine := by have := putN_length xs k b v; omega
  refine wpAny_setItem_heap (hsz := hz) (room_nd hu) (hk _ _ _ I) dd fun h' dd' hs => h _ ?_
  have he : ∃ q, h'.get? a = some q := let ⟨q, _, _, hq, _⟩ := dd'; ⟨q, hq⟩
  exact d_write I (by rw [e]; exact True.intro) hs he (nd_obj hl' hd (rel.put k b rv) dd')

/-! ### as rules of operators -/
def rND (X : Cx) : V → V → Hp → (Addr → List NE → NestedKey → Addr → Prop) → Prop := fun x y H Q => ∃ a b xs k, x = .ref a ∧ y = .ref b ∧ H a = some (NDict X.prog X.w a xs) ∧ (∀ x ∈ xs, Nk X H x.1 x.2.1) ∧ Nk X H k b ∧ Q a xs k b
theorem ix_nd (hu : X.A.units + 64 < cLine) : IxR X (fun x y H Q => rND X x y H fun a xs k b => ∃ v, atN xs k = some v ∧ Q v H) := by
  intro value slice pins s σ H x y v u Q I rx ry h hs
  obtain ⟨a, b, xs, k, rfl, rfl, e, ks, hk, r, l, q⟩ := h
  obtain rfl : v = Value.ref a := rx
  obtain rfl : u = Value.ref b := ry
  obtain ⟨z, hd, ys, rel, dd⟩ := ndc_of I e ks
  exact tail_any dd.typeIs slot_dict_getitem.lookup (nd_getItem hu I e ks hk l fun w' s' I' rw' => ⟨r, H, I', rw', q⟩) hs
theorem op_ndIn (hu : X.A.units + 64 < cLine) : OpR X (compareOp .In) (fun y x H Q => rND X x y H fun a xs k b => Q (.bl (atN xs k).isSome) H) := by
  intro pins s σ H y x u v Q I ry rx h
  obtain ⟨a, b, xs, k, rfl, rfl, e, ks, hk, q⟩ := h
  obtain rfl : v = Value.ref a := rx
  obtain rfl : u = Value.ref b := ry
  exact nd_in hu I e ks hk fun s' I' => ⟨.bl _, H, I', rfl, q⟩
theorem op_ndNin (hu : X.A.units + 64 < cLine) : OpR X (compareOp .NotIn) (fun y x H Q => rND X x y H fun a xs k b => Q (.bl (!(atN xs k).isSome)) H) := by
  intro pins s σ H y x u v Q I ry rx h
  obtain ⟨a, b, xs, k, rfl, rfl, e, ks, hk, q⟩ := h
  obtain rfl : v = Value.ref a := rx
  obtain rfl : u = Value.ref b := ry
  exact nd_notIn hu I e ks hk fun s' I' => ⟨.bl _, H, I', rfl, q⟩
/-- a container that is a dict, a key: what the rules ask -/
theorem rND_of (hnd : U.nd = NDict X.prog X.w) {x y : V} {kvs : List (D × D)} {d : D} {Q : Addr → List NE → NestedKey → Addr → Prop} (hx : Con U X.K Z H x (ndD kvs)) (hy : Dat U X.K (view H Z) y d) (hk : isKey d = true) (q : ∀ a xs b, DatN U X.K (view H Z) xs kvs → Q a xs (keyOf d) b) : rND X x y H Q := by
  obtain ⟨a, xs, rfl, h1, h2⟩ := hx.nd_inv
  obtain ⟨b, rfl, h3⟩ := Nk.of hy hk
  rw [hnd] at h1
  exact ⟨a, b, xs, _, rfl, rfl, h1, h2.keys, h3, q a xs b h2⟩
end
end Rwl

set_option Elab.async false
set_option linter.all false
set_option maxRecDepth 100000
set_option maxHeartbeats 1000000
set_option exponentiation.threshold 2000
/-! Rwl, part D: subscripts, slices, built-in functions and methods by values. -/
namespace Rwl
open PySem PySem.Spec PyProof.Rows L2 Evl

theorem pix_atI {α : Type} (xs : List α) (i : Int) : pix xs i = atI xs i := by
  unfold pix atI ixN
  by_cases h0 : 0 ≤ i
  · rw [if_pos h0, if_pos h0]
    by_cases h1 : i < xs.length
    · rw [if_pos h1]; rfl
    · rw [if_neg h1]
      exact List.getElem?_eq_none (by omega)
  · rw [if_neg h0, if_neg h0]
    by_cases h1 : -(xs.length : Int) ≤ i
    · rw [if_pos h1, if_pos h1]; rfl
    · rw [if_neg h1, if_neg h1]; rfl
theorem DatL.atI {U : Ux} {K : PySem.W.Frag} {H : Hp} {vs : List V} {ds : List D} {i : Int} {d : D} (h : DatL U K H vs ds) (e : pix ds i = some d) : ∃ v, L2.atI vs i = some v ∧ Dat U K H v d := by
  rw [pix_atI] at e
  unfold L2.atI at e ⊢
  rw [h.length]
  cases q : ixN ds.length i with
  | none => rw [q] at e; cases e
  | some j =>
    rw [q] at e
    exact h.get e
section
variable {U : Ux} {X : Cx} {Z : List Addr}
theorem ix_D (hu : X.A.units + 64 < cLine) (hnd : U.nd = NDict X.prog X.w) : IxR X (rCD U X.K Z ixD) := by
  intro value slice pins s σ H x y v u Q I rx ry h hs
  obtain ⟨a, b, d, hx, hy, hg, q⟩ := h
  cases a with
  | list ds =>
    cases b with
    | int i =>
      cases hy.int_inv
      obtain ⟨p, xs, rfl, h1, h2⟩ := hx.list
      obtain ⟨w, e1, e2⟩ := h2.atI (ofO_ok hg)
      exact ix_list value slice pins s σ H _ _ v u Q I rx ry ⟨p, xs, i, w, rfl, rfl, SqL.of h1, e1, q _ _ (Ex.refl H) e2⟩ hs
    | _ => cases hg
  | tuple ds =>
    cases b with
    | int i =>
      cases hy.int_inv
      obtain ⟨p, xs, rfl, h1, h2⟩ := (hx.dat (fun _ e => nomatch e)).tupleH
      obtain ⟨w, e1, e2⟩ := h2.atI (ofO_ok hg)
      exact ix_tup value slice pins s σ H _ _ v u Q I rx ry ⟨p, xs, i, w, rfl, rfl, h1, e1, q _ _ (Ex.refl H) e2⟩ hs
    | _ => cases hg
  | str z =>
    cases b with
    | int i =>
      cases hy.int_inv
      cases (hx.dat (fun _ e => nomatch e)).str_inv
      obtain ⟨h1, hg⟩ := req_ok hg
      obtain ⟨c, h2, hg⟩ := bind_ok_inv hg
      cases ok_inj hg
      have e := ofO_ok h2
      rw [pix_atI] at e
      exact ix_str value slice pins s σ H _ _ v u Q I rx ry ⟨z, i, c, rfl, rfl, lim_line (of_decide_eq_true h1), e, q.str⟩ hs
    | _ => cases hg
  | dict kvs =>
    cases b with
    | int i =>
      cases hy.int_inv
      obtain ⟨xs, h0, hg⟩ := bind_ok_inv hg
      cases scrOf_of (ofO_ok h0)
      obtain ⟨h1, hg⟩ := req_ok hg
      obtain ⟨ns, hn⟩ := Option.isSome_iff_exists.mp h1
      obtain ⟨p, rfl, hs'⟩ := (hx.dat (fun _ e => nomatch e)).scr_inv hn
      have e := ofO_ok hg
      rw [intL_of hn] at e
      obtain ⟨w, e1, e2⟩ := (DatL.of_ints (U := U) (K := X.K) (H := view H Z) ns).atI e
      exact ix_list value slice pins s σ H _ _ v u Q I rx ry ⟨p, _, i, w, rfl, rfl, ex_l (view_ex H Z) hs', e1, q _ _ (Ex.refl H) e2⟩ hs
    | tuple ds =>
      obtain ⟨r, h0, hg⟩ := bind_ok_inv (show (ofO (ndOf kvs)).bind _ = .ok d from hg)
      cases ndOf_of (ofO_ok h0)
      obtain ⟨h1, hg⟩ := req_ok hg
      have e := ofO_ok hg
      refine ix_nd hu value slice pins s σ H _ _ v u Q I rx ry (rND_of hnd hx hy h1 fun a xs b hn => ?_) hs
      have l := hn.look (k := .tuple ds)
      rw [e] at l
      obtain ⟨w, l1, l2⟩ := l
      exact ⟨w, l1, q _ _ (Ex.refl H) l2⟩
    | _ => cases hg
  | _ => cases b <;> cases hg
/-- slices -/
def rSlD (U : Ux) (K : PySem.W.Frag) (Z : List Addr) : V → Option Int → Option Int → Hp → VK → Prop := fun x lo hi H Q => Zt Z H ∧ ∃ a d, Con U K Z H x a ∧ slD lo hi a = .ok d ∧ Wn U K Z H Q d
theorem sI_is (n d : Nat) (o : Option Int) : HT.sIx n d o = sI n d o := by cases o <;> rfl
theorem cut_whole {α : Type} {xs : List α} {lo hi : Option Int} (h : sI xs.length 0 lo = 0 ∧ sI xs.length xs.length hi = xs.length) : cut xs lo hi = xs := by
  unfold cut
  rw [h.1, h.2]
  simp
theorem sl_D : SlR X (rSlD U X.K Z) := by
  intro pins s σ H x v vl vu lo hi sl Q I rx hs pl pu h
  obtain ⟨t, a, d, hx, hg, q⟩ := h
  cases a with
  | list ds =>
    obtain ⟨p, xs, rfl, h1, h2⟩ := hx.list
    cases ok_inj hg
    exact sl_list pins s σ H _ v vl vu lo hi sl Q I rx hs pl pu ⟨p, xs, rfl, SqL.of h1, fun z hz => q _ _ (Ex.new hz) (Dat.newL t hz (h2.cut lo hi))⟩
  | tuple ds =>
    have hd := hx.dat (fun _ e => nomatch e)
    obtain ⟨p, xs, rfl, h1, h2⟩ := hd.tupleH
    cases ok_inj hg
    refine sl_tupA pins s σ H _ v vl vu lo hi sl Q I rx hs pl pu ⟨p, xs, rfl, h1, fun e => ?_, fun _ z hz => q _ _ (Ex.new hz) (Dat.newT t hz (h2.cut lo hi))⟩
    rw [sI_is, sI_is, h2.length] at e
    rw [cut_whole e] at q
    exact q _ _ (Ex.refl H) hd
  | str z =>
    cases (hx.dat (fun _ e => nomatch e)).str_inv
    obtain ⟨h1, hg⟩ := req_ok hg
    cases ok_inj hg
    refine sl_str pins s σ H _ v vl vu lo hi sl Q I rx hs pl pu ⟨z, rfl, lim_line (of_decide_eq_true h1), ?_⟩
    have e : cutS z lo hi = ⟨(cut z.cps.toList lo hi).toArray⟩ := by
      unfold cutS cut
      have hl : z.cps.toList.length = z.length := by simp [Str.length]
      simp only [sI_is, hl]
    rw [e]
    exact q.str
  | _ => cases hg

/-! ### built-in functions -/
def rBi (U : Ux) (K : PySem.W.Frag) (Z : List Addr) (g : List D → Res D) : List V → Hp → VK → Prop := fun vs H Q => Zt Z H ∧ ∃ ds d, DatL U K (view H Z) vs ds ∧ g ds = .ok d ∧ Wn U K Z H Q d
theorem foldl_max (r : List Int) : ∀ n : Int, r.foldl max n ∈ n :: r ∧ ∀ y ∈ n :: r, y ≤ r.foldl max n := by
  induction r with
  | nil => intro n; simp
  | cons k r ih =>
    intro n
    obtain ⟨h1, h2⟩ := ih (max n k)
    rw [List.foldl_cons]
    refine ⟨?_, fun y hy => ?_⟩
    · rcases List.mem_cons.mp h1 with e | e
      · rw [e]
        by_cases hk : n ≤ k
        · rw [Int.max_eq_right hk]; simp
        · rw [Int.max_eq_left (by omega)]; simp
      · simp [e]
    · have h3 := h2 (max n k) List.mem_cons_self
      rcases List.mem_cons.mp hy with e | hy
      · subst e; omega
      · rcases List.mem_cons.mp hy with e | hy
        · subst e; omega
        · exact h2 y (List.mem_cons_of_mem _ hy)
theorem foldl_min (r : List Int) : ∀ n : Int, r.foldl min n ∈ n :: r ∧ ∀ y ∈ n :: r, r.foldl min n ≤ y := by
  induction r with
  | nil => intro n; simp
  | cons k r ih =>
    intro n
    obtain ⟨h1, h2⟩ := ih (min n k)
    rw [List.foldl_cons]
    refine ⟨?_, fun y hy => ?_⟩
    · rcases List.mem_cons.mp h1 with e | e
      · rw [e]
        by_cases hk : n ≤ k
        · rw [Int.min_eq_left hk]; simp
        · rw [Int.min_eq_right (by omega)]; simp
      · simp [e]
    · have h3 := h2 (min n k) List.mem_cons_self
      rcases List.mem_cons.mp hy with e | hy
      · subst e; omega
      · rcases List.mem_cons.mp hy with e | hy
        · subst e; omega
        · exact h2 y (List.mem_cons_of_mem _ hy)
theorem sort_ints_is {ns ms : List Int} (p : ms.Perm ns) (r : ms.Pairwise (· ≤ ·)) : ms = srt ns := srt_is p r
theorem call_lenD : CallR X (.builtin "len") (rBi U X.K Z (bi .len)) := by
  intro pins s σ H vs us Q I r h
  obtain ⟨t, ds, d, hv, hg, q⟩ := h
  cases hv with
  | nil => cases hg
  | cons h1 hs =>
    cases hs with
    | cons _ _ => rename_i a _ _ _ _ _ _; cases a <;> cases hg
    | nil =>
      rename_i a
      cases a with
      | list xs =>
        obtain ⟨p, ys, rfl, k1, k2⟩ := h1.listH
        cases ok_inj hg
        exact call_len_seq pins s σ H _ us Q I r ⟨p, ys, rfl, .inl (SqL.of k1), by rw [k2.length]; exact q.int⟩
      | tuple xs =>
        obtain ⟨p, ys, rfl, k1, k2⟩ := h1.tupleH
        cases ok_inj hg
        exact call_len_seq pins s σ H _ us Q I r ⟨p, ys, rfl, .inr k1, by rw [k2.length]; exact q.int⟩
      | str z =>
        cases h1.str_inv
        obtain ⟨k1, hg⟩ := req_ok hg
        cases ok_inj hg
        exact call_len_str pins s σ H _ us Q I r ⟨z, rfl, lim_line (of_decide_eq_true k1), q.int⟩
      | dict kvs =>
        obtain ⟨xs, h0, hg⟩ := bind_ok_inv (show (ofO (scrOf kvs)).bind _ = .ok d from hg)
        cases scrOf_of (ofO_ok h0)
        obtain ⟨k1, hg⟩ := req_ok hg
        cases ok_inj hg
        obtain ⟨ns, hn⟩ := Option.isSome_iff_exists.mp k1
        obtain ⟨p, rfl, hs'⟩ := h1.scr_inv hn
        refine call_len_seq pins s σ H _ us Q I r ⟨p, _, rfl, .inl (ex_l (view_ex H Z) hs'), ?_⟩
        have e : xs.length = (ns.map V.int).length := by rw [intL_of hn, List.length_map, List.length_map]
        rw [← e]
        exact q.int
      | _ => cases hg
/-- one list of ints -/
theorem call_ints {f : Value} {r : List V → Hp → VK → Prop} (c : CallR X f r) {g : List Int → Res D}
    (hr : ∀ a ns H Q d, SqL X.K H a (ns.map V.int) → g ns = .ok d → Zt Z H → Wn U X.K Z H Q d → r [.ref a] H Q) :
    CallR X f (rBi U X.K Z fun ds => match ds with
      | [.list xs] => (ofO (intL xs)).bind g
      | _ => .bad) := by
  intro pins s σ H vs us Q I rv h
  obtain ⟨t, ds, d, hv, hg, q⟩ := h
  cases hv with
  | nil => cases hg
  | cons h1 hs =>
    cases hs with
    | cons _ _ => rename_i a _ _ _ _ _ _; cases a <;> cases hg
    | nil =>
      rename_i a
      cases a with
      | list xs =>
        obtain ⟨p, ys, rfl, k1, k2⟩ := h1.listH
        obtain ⟨ns, h0, hg⟩ := bind_ok_inv (show (ofO (intL xs)).bind _ = .ok d from hg)
        cases k2.intL (ofO_ok h0)
        exact c pins s σ H _ us Q I rv (hr p ns H Q d (SqL.of k1) hg t q)
      | _ => cases hg
theorem call_bools {f : Value} {r : List V → Hp → VK → Prop} (c : CallR X f r) {g : List Bool → Res D}
    (hr : ∀ a ns H Q d, SqL X.K H a (ns.map V.bl) → g ns = .ok d → Zt Z H → Wn U X.K Z H Q d → r [.ref a] H Q) :
    CallR X f (rBi U X.K Z fun ds => match ds with
      | [.list xs] => (ofO (bolL xs)).bind g
      | _ => .bad) := by
  intro pins s σ H vs us Q I rv h
  obtain ⟨t, ds, d, hv, hg, q⟩ := h
  cases hv with
  | nil => cases hg
  | cons h1 hs =>
    cases hs with
    | cons _ _ => rename_i a _ _ _ _ _ _; cases a <;> cases hg
    | nil =>
      rename_i a
      cases a with
      | list xs =>
        obtain ⟨p, ys, rfl, k1, k2⟩ := h1.listH
        obtain ⟨ns, h0, hg⟩ := bind_ok_inv (show (ofO (bolL xs)).bind _ = .ok d from hg)
        cases k2.bolL (ofO_ok h0)
        exact c pins s σ H _ us Q I rv (hr p ns H Q d (SqL.of k1) hg t q)
      | _ => cases hg
theorem callBy {f : Value} {g g' : List D → Res D} (c : CallR X f (rBi U X.K Z g)) (h : ∀ ds, g' ds = g ds) : CallR X f (rBi U X.K Z g') := by
  rw [show g' = g from funext h]
  exact c
theorem bi_one {g : D → Res D} {k : Bi} (h1 : ∀ x, Rwl.bi k [x] = g x) (h0 : Rwl.bi k [] = .bad) (h2 : ∀ x y r, Rwl.bi k (x :: y :: r) = .bad) : ∀ ds, Rwl.bi k ds = match ds with
    | [x] => g x
    | _ => .bad
  | [] => h0
  | [x] => h1 x
  | x :: y :: r => h2 x y r
def Bi.val : Bi → Value
  | .len => .builtin "len"
  | .abs => .builtin "abs"
  | .sum => .builtin "sum"
  | .max => .builtin "max"
  | .min => .builtin "min"
  | .max2 => .builtin "max"
  | .min2 => .builtin "min"
  | .sorted => .builtin "sorted"
  | .list => .type "list"
  | .int => .type "int"
  | .str => .type "str"
  | .all => .builtin "all"
  | .any => .builtin "any"
  | .tuple => .type "tuple"
theorem call_bi (hc : X.calm = true) (k : Bi) : CallR X k.val (rBi U X.K Z (bi k)) := by
  cases k with
  | len => exact call_lenD
  | abs =>
    intro pins s σ H vs us Q I r h
    obtain ⟨t, ds, d, hv, hg, q⟩ := h
    cases hv with
    | nil => cases hg
    | cons h1 hs =>
      rename_i a _ _
      cases hs with
      | cons _ _ => cases a <;> cases hg
      | nil =>
        cases a with
        | int i =>
          cases h1.int_inv
          cases ok_inj hg
          exact call_abs pins s σ H _ us Q I r ⟨i, rfl, q.int⟩
        | _ => cases hg
  | sum =>
    refine callBy (call_ints (cr_sum hc) (g := fun ns => .ok (.int ns.sum)) fun a ns H Q d hs hg t q => ?_) ?_
    · cases ok_inj hg
      exact ⟨a, ns, rfl, hs, q.int⟩
    · intro ds
      rcases ds with _ | ⟨a, _ | ⟨b, r⟩⟩ <;> (try cases a) <;> rfl
  | max =>
    refine callBy (call_ints (cr_max hc) (g := fun ns => match ns with
      | [] => .bad
      | n :: r => .ok (.int (r.foldl max n))) fun a ns H Q d hs hg t q => ?_) ?_
    · cases ns with
      | nil => cases hg
      | cons n r =>
        cases ok_inj hg
        refine ⟨a, n :: r, rfl, hs, by simp, fun m hm hle => ?_⟩
        obtain ⟨f1, f2⟩ := foldl_max r n
        rw [show m = r.foldl max n from Int.le_antisymm (f2 m hm) (hle _ f1)]
        exact q.int
    · intro ds
      rcases ds with _ | ⟨a, _ | ⟨b, r⟩⟩ <;> (try cases a) <;> rfl
  | min =>
    refine callBy (call_ints (cr_min hc) (g := fun ns => match ns with
      | [] => .bad
      | n :: r => .ok (.int (r.foldl min n))) fun a ns H Q d hs hg t q => ?_) ?_
    · cases ns with
      | nil => cases hg
      | cons n r =>
        cases ok_inj hg
        refine ⟨a, n :: r, rfl, hs, by simp, fun m hm hle => ?_⟩
        obtain ⟨f1, f2⟩ := foldl_min r n
        rw [show m = r.foldl min n from Int.le_antisymm (hle _ f1) (f2 m hm)]
        exact q.int
    · intro ds
      rcases ds with _ | ⟨a, _ | ⟨b, r⟩⟩ <;> (try cases a) <;> rfl
  | max2 =>
    intro pins s σ H vs us Q I r h
    obtain ⟨t, ds, d, hv, hg, q⟩ := h
    cases hv with
    | nil => cases hg
    | cons h1 hs =>
      rename_i a _ _
      cases hs with
      | nil => cases a <;> cases hg
      | cons h2 hs =>
        rename_i b _ _
        cases hs with
        | cons _ _ => cases a <;> cases b <;> cases hg
        | nil =>
          cases a with
          | int i =>
            cases b with
            | int j =>
              cases h1.int_inv; cases h2.int_inv
              cases ok_inj hg
              exact call_max2 hc pins s σ H _ us Q I r ⟨i, j, rfl, q.int⟩
            | _ => cases hg
          | _ => cases b <;> cases hg
  | min2 =>
    intro pins s σ H vs us Q I r h
    obtain ⟨t, ds, d, hv, hg, q⟩ := h
    cases hv with
    | nil => cases hg
    | cons h1 hs =>
      rename_i a _ _
      cases hs with
      | nil => cases a <;> cases hg
      | cons h2 hs =>
        rename_i b _ _
        cases hs with
        | cons _ _ => cases a <;> cases b <;> cases hg
        | nil =>
          cases a with
          | int i =>
            cases b with
            | int j =>
              cases h1.int_inv; cases h2.int_inv
              cases ok_inj hg
              exact call_min2 hc pins s σ H _ us Q I r ⟨i, j, rfl, q.int⟩
            | _ => cases hg
          | _ => cases b <;> cases hg
  | sorted =>
    refine callBy (call_ints cr_sortedI (g := fun ns => .ok (.list ((srt ns).map .int))) fun a ns H Q d hs hg t q => ?_) ?_
    · cases ok_inj hg
      refine ⟨a, ns, rfl, hs, fun ms p hp hr hn => ?_⟩
      cases sort_ints_is hp hr
      exact q _ _ (Ex.new hn) (Dat.newL t hn (DatL.of_ints _))
    · intro ds
      rcases ds with _ | ⟨a, _ | ⟨b, r⟩⟩ <;> (try cases a) <;> rfl
  | list =>
    intro pins s σ H vs us Q I r h
    obtain ⟨t, ds, d, hv, hg, q⟩ := h
    cases hv with
    | nil => cases hg
    | cons h1 hs =>
      rename_i a _ _
      cases hs with
      | cons _ _ => cases a <;> cases hg
      | nil =>
        cases a with
        | list xs =>
          obtain ⟨p, ys, rfl, k1, k2⟩ := h1.listH
          cases ok_inj hg
          exact call_list_of pins s σ H _ us Q I r ⟨p, ys, rfl, .inl (SqL.of k1), fun l hl => q _ _ (Ex.new hl) (Dat.newL t hl k2)⟩
        | tuple xs =>
          obtain ⟨p, ys, rfl, k1, k2⟩ := h1.tupleH
          cases ok_inj hg
          exact call_list_of pins s σ H _ us Q I r ⟨p, ys, rfl, .inr k1, fun l hl => q _ _ (Ex.new hl) (Dat.newL t hl k2)⟩
        | _ => cases hg
  | int =>
    intro pins s σ H vs us Q I r h
    obtain ⟨t, ds, d, hv, hg, q⟩ := h
    cases hv with
    | nil => cases hg
    | cons h1 hs =>
      rename_i a _ _
      cases hs with
      | cons _ _ => cases a <;> cases hg
      | nil =>
        cases a with
        | int i =>
          cases h1.int_inv
          cases ok_inj hg
          exact call_int1 pins s σ H _ us Q I r (.inl ⟨i, rfl, q.int⟩)
        | bool k =>
          cases h1.bool_inv
          cases ok_inj hg
          exact call_int1 pins s σ H _ us Q I r (.inr ⟨k, rfl, q.int⟩)
        | str x =>
          cases h1.str_inv
          obtain ⟨k1, hg⟩ := req_ok hg
          obtain ⟨n, h0, hg⟩ := bind_ok_inv hg
          cases ok_inj hg
          exact call_int_str pins s σ H _ us Q I r ⟨x, n, rfl, ofO_ok h0, of_decide_eq_true k1, q.int⟩
        | _ => cases hg
  | str =>
    intro pins s σ H vs us Q I r h
    obtain ⟨t, ds, d, hv, hg, q⟩ := h
    cases hv with
    | nil => cases hg
    | cons h1 hs =>
      rename_i a _ _
      cases hs with
      | cons _ _ => cases a <;> cases hg
      | nil =>
        cases a with
        | int i =>
          cases h1.int_inv
          obtain ⟨k1, hg⟩ := req_ok hg
          cases ok_inj hg
          refine call_str_int pins s σ H _ us Q I r ⟨i, rfl, ?_, q.str⟩
          have k2 := of_decide_eq_true k1
          by_cases hz : i.natAbs = 0
          · rw [hz]; decide
          · exact Nat.lt_trans ((Nat.log2_lt hz).mpr k2) (by decide)
        | _ => cases hg
  | all =>
    refine callBy (call_bools (cr_all hc) (g := fun bs => .ok (.bool (bs.all id))) fun a ns H Q d hs hg t q => ?_) ?_
    · cases ok_inj hg
      exact ⟨a, ns, rfl, hs, q.bl⟩
    · intro ds
      rcases ds with _ | ⟨a, _ | ⟨b, r⟩⟩ <;> (try cases a) <;> rfl
  | any =>
    refine callBy (call_bools (cr_any hc) (g := fun bs => .ok (.bool (bs.any id))) fun a ns H Q d hs hg t q => ?_) ?_
    · cases ok_inj hg
      exact ⟨a, ns, rfl, hs, q.bl⟩
    · intro ds
      rcases ds with _ | ⟨a, _ | ⟨b, r⟩⟩ <;> (try cases a) <;> rfl
  | tuple =>
    intro pins s σ H vs us Q I r h
    obtain ⟨t, ds, d, hv, hg, q⟩ := h
    cases hv with
    | nil => cases hg
    | cons h1 hs =>
      rename_i a _ _
      cases hs with
      | cons _ _ => cases a <;> cases hg
      | nil =>
        cases a with
        | list xs =>
          obtain ⟨p, ys, rfl, k1, k2⟩ := h1.listH
          cases ok_inj hg
          exact call_tuple_of pins s σ H _ us Q I r ⟨p, ys, rfl, .inl ⟨SqL.of k1, fun l hl => q _ _ (Ex.new hl) (Dat.newT t hl k2)⟩⟩
        | _ => cases hg

/-! ### methods -/
def rMt (U : Ux) (K : PySem.W.Frag) (Z : List Addr) (g : D → List D → Res D) : V → List V → Hp → VK → Prop := fun x vs H Q => ∃ a ds d, Dat U K (view H Z) x a ∧ DatL U K (view H Z) vs ds ∧ g a ds = .ok d ∧ Wn U K Z H Q d
def Mt.id : Mt → String
  | .index => "list.index"
  | .count => "list.count"
theorem mt_D (hu : X.A.units + 64 < cLine) (m : Mt) : MtR X m.id (rMt U X.K Z (mt m)) := by
  intro pins s σ H x vs v us Q I rx rv h
  obtain ⟨a, ds, d, hx, hv, hg, q⟩ := h
  cases m with
  | index =>
    cases a with
    | list xs =>
      cases hv with
      | nil => cases hg
      | cons h1 hs =>
        rename_i b _ _
        cases hs with
        | cons _ _ => cases hg
        | nil =>
          obtain ⟨k1, hg⟩ := req_ok (show req _ _ = .ok d from hg)
          obtain ⟨j, k2, hg⟩ := bind_ok_inv hg
          cases ok_inj hg
          rw [Bool.and_eq_true] at k1
          obtain ⟨u, rfl, ru⟩ := rv.one
          obtain ⟨bs, r1⟩ := Dat.reads I k1.1 h1 ru
          have d1 := dep_plain k1.1
          have d2 := dep_all (fun d _ => dep_plain (n := 8)) k1.2
          have p9 : dep 9 (.list xs) = true := by simpa [dep] using k1.2
          obtain ⟨as, r2⟩ := Dat.reads I p9 hx rx
          obtain ⟨p, ys, rfl, l1, l2⟩ := hx.listH
          cases rx
          obtain ⟨its, rv', ⟨⟨cls, dd, data, sls⟩, n, ho, hc, hdn, hdt⟩, hlen⟩ := I.list (SqL.of l1)
          simp only at hc hdt
          subst hc hdt
          cases r2 with
          | @list _ o2 vs2 n2 _ as2 g1 g2 g3 g4 =>
            rw [ho] at g1
            cases g1
            simp only at g3
            have ev : its.toArray = vs2 := by
              injection g3
            subst ev
            have hn : its.length = xs.length := SeqAt.ReadsAll.length xs its as2 g4
            have hmap : its.map (SeqAt.readOf s.heap) = xs := SeqAt.readsAll_map_plain xs its as2 d2.1 g4
            obtain ⟨hjd, hj1, hj2⟩ := List.findIdx?_eq_some_iff_getElem.mp (ofO_ok k2)
            have hsl := sizeLine_eq
            have hvl := rv'.length
            have hjl : j < its.length := by omega
            have hj : j < its.toArray.size := by simpa using hjl
            have at_ : ∀ (m : Nat) (hm : m < its.toArray.size) (hm' : m < xs.length), SeqAt.readOf s.heap its.toArray[m] = xs[m] := by
              intro m hm hm'
              have hml : m < its.length := by simpa using hm
              have e : (its.map (SeqAt.readOf s.heap))[m]'(by rw [List.length_map]; exact hml) = xs[m] := by simp only [hmap]
              simpa using e
            refine call_meets PySem.F.slot_list_index ⟨_, ho, rfl⟩ PySem.F.entry_list_index (PySem.F.args_list_index_2 _ _)
              (SeqAt.list_indexAt p its.toArray n dd sls u (fun w => PyData.eqv (SeqAt.readOf s.heap w) b) j hj (by omega) ?_ ?_) ⟨ho, SeqAt.items_plain (vs := its.toArray) (show ReadsAll s.heap its.toArray.toList xs as2 from g4) r1 d2.1 d1.1 (by have := d1.2; show X.A.units + 1 + _ < cLine; omega), ?_⟩
            · show PyData.eqv (SeqAt.readOf s.heap its.toArray[j]) b = true
              rw [at_ j hj hjd]
              exact hj1
            · intro m hm hmj
              have hmd : m < xs.length := by omega
              show PyData.eqv (SeqAt.readOf s.heap its.toArray[m]) b = false
              rw [at_ m hm hmd]
              have := hj2 m hmj
              simpa using this
            · exact ⟨.int (j : Nat), H, I.tok _, ⟨_, rfl⟩, q.int⟩
    | _ => cases hg
  | count =>
    cases a with
    | list xs =>
      cases hv with
      | nil => cases hg
      | cons h1 hs =>
        rename_i b _ _
        cases hs with
        | cons _ _ => cases hg
        | nil =>
          obtain ⟨k1, hg⟩ := req_ok (show req _ _ = .ok d from hg)
          cases ok_inj hg
          rw [Bool.and_eq_true] at k1
          obtain ⟨u, rfl, ru⟩ := rv.one
          obtain ⟨bs, r1⟩ := Dat.reads I k1.1 h1 ru
          have d1 := dep_plain k1.1
          have d2 := dep_all (fun d _ => dep_plain (n := 8)) k1.2
          have p9 : dep 9 (.list xs) = true := by simpa [dep] using k1.2
          obtain ⟨as, r2⟩ := Dat.reads I p9 hx rx
          obtain ⟨p, ys, rfl, l1, l2⟩ := hx.listH
          cases rx
          cases r2 with
          | @list _ o2 vs2 n2 _ as2 g1 g2 g3 g4 =>
            exact SeqAt.count_list_data (vs := vs2) ⟨_, g1, g2, _, g3⟩ g4 r1 d2.1 d1.1 (by have := d1.2; omega) ⟨.int _, H, I.tok _, ⟨_, rfl⟩, q.int⟩
    | _ => cases hg
/-! ### methods of texts -/
def rMs (U : Ux) (K : PySem.W.Frag) (Z : List Addr) (g : Str → List D → Res D) : V → List V → Hp → VK → Prop := fun x vs H Q => Zt Z H ∧ ∃ a ds d, x = .str a ∧ DatL U K (view H Z) vs ds ∧ g a ds = .ok d ∧ Wn U K Z H Q d
def Ms.id : Ms → String
  | .split => "str.split"
  | .join => "str.join"
theorem ms_D (m : Ms) : MtR X m.id (rMs U X.K Z (msD m)) := by
  intro pins s σ H x vs v us Q I rx rv h
  obtain ⟨t, a, ds, d, rfl, hv, hg, q⟩ := h
  cases m with
  | split =>
    cases hv with
    | nil => cases hg
    | cons h1 hs =>
      rename_i d1 _ _
      cases hs with
      | cons _ _ => cases d1 <;> cases hg
      | nil =>
        cases d1 with
        | str y =>
          cases h1.str_inv
          obtain ⟨k1, hg⟩ := req_ok hg
          cases ok_inj hg
          rw [Bool.and_eq_true] at k1
          have k2 : (y.length == 0) = false := by simpa using k1.2
          have k3 : a.length ≤ 100000 := of_decide_eq_true k1.1
          exact mt_split pins s σ H _ _ v us Q I rx rv ⟨a, y, rfl, rfl, k2, by unfold sizeLine; omega, fun p hp => q _ _ (Ex.new hp) (Dat.newL t hp (DatL.of_strs _))⟩
        | _ => cases hg
  | join =>
    cases hv with
    | nil => cases hg
    | cons h1 hs =>
      rename_i d1 _ _
      cases hs with
      | cons _ _ => cases d1 <;> cases hg
      | nil =>
        cases d1 with
        | list xs =>
          obtain ⟨ys, h0, hg⟩ := bind_ok_inv (show (ofO (strL xs)).bind _ = .ok d from hg)
          obtain ⟨k1, hg⟩ := req_ok hg
          cases ok_inj hg
          obtain ⟨p, vs, rfl, l1, l2⟩ := h1.listH
          have e := l2.strL (ofO_ok h0)
          subst e
          exact mt_join pins s σ H _ _ v us Q I rx rv ⟨a, p, ys, rfl, rfl, .inl (SqL.of l1), of_decide_eq_true k1, q.str⟩
        | _ => cases hg
end
end Rwl

set_option Elab.async false
set_option linter.all false
set_option maxRecDepth 100000
set_option maxHeartbeats 1000000
/-! Rwl, part Ds: sorted, of tuples. -/
namespace Rwl
open PySem PySem.Spec PyProof.Rows L2 Evl PySem.W
mutual
theorem reads_none {h : Heap} : ∀ (n : Nat) (d : D) (v : Value) (as : List Addr), kdep n d = true → Reads h v d as → as = []
  | _, .none, _, _, _, r => by cases r; rfl
  | _, .bool b, _, _, _, r => by cases r; rfl
  | _, .int i, _, _, _, r => by cases r; rfl
  | _, .str x, _, _, _, r => by cases r; rfl
  | 0, .tuple xs, _, _, k, _ => by simp [kdep] at k
  | n + 1, .tuple xs, _, _, k, r => by
    cases r with
    | tuple h1 h2 h3 h4 => exact reads_nones n xs _ _ (by simpa [kdep] using k) h4
  | n, .list _, _, _, k, _ => by cases n <;> simp [kdep] at k
  | n, .dict _, _, _, k, _ => by cases n <;> simp [kdep] at k
theorem reads_nones {h : Heap} : ∀ (n : Nat) (ds : List D) (vs : List Value) (as : List Addr), (∀ d ∈ ds, kdep n d = true) → ReadsAll h vs ds as → as = []
  | _, [], _, _, _, r => by cases r; rfl
  | n, d :: ds, _, _, k, r => by
    cases r with
    | cons h1 h2 =>
      rw [reads_none n d _ _ (k d List.mem_cons_self) h1, reads_nones n ds _ _ (fun e he => k e (List.mem_cons_of_mem _ he)) h2]
      rfl
end
section
variable {U : Ux} {X : Cx} {Z : List Addr} {H : Hp} {pins : List (Addr × Obj)} {σ : L2.St} {s : Shared}
def Rd1 (U : Ux) (X : Cx) (Z : List Addr) (H : Hp) : Value → D → Prop := fun v b => ∃ x, RelV x v ∧ Dat U X.K (view H Z) x b
theorem each_dat : ∀ {xs : List V} {its : List Value} {ds : List D}, Vals xs its → DatL U X.K (view H Z) xs ds → EachIs (Rd1 U X Z H) its ds
  | _, _, _, .nil, .nil => .nil
  | _, _, _, .cons r t, .cons h hs => .cons ⟨_, r, h⟩ (each_dat t hs)
theorem each_back : ∀ {out : List Value} {ds : List D}, EachIs (Rd1 U X Z H) out ds → ∃ xs, Vals xs out ∧ DatL U X.K (view H Z) xs ds
  | _, _, .nil => ⟨[], .nil, .nil⟩
  | _, _, .cons ⟨x, r, h⟩ t => by
    obtain ⟨xs, h1, h2⟩ := each_back t
    exact ⟨x :: xs, .cons r h1, .cons h h2⟩
theorem each_reads (I : Inv X pins σ H s) : ∀ {its : List Value} {ds : List D}, EachIs (Rd1 U X Z H) its ds → (∀ d ∈ ds, kdep 4 d = true) → EachIs (fun v b => ∃ as, Reads s.heap v (id b) as) its ds
  | _, _, .nil, _ => .nil
  | _, _, .cons ⟨x, r, h⟩ t, k => .cons (Dat.reads I (kdep_dep _ _ (k _ List.mem_cons_self)) h r) (each_reads I t fun d hd => k d (List.mem_cons_of_mem _ hd))
theorem each_reads' (I : Inv X pins σ H s) (a : Addr) : ∀ {its : List Value} {ds : List D}, EachIs (Rd1 U X Z H) its ds → (∀ d ∈ ds, kdep 4 d = true) → EachIs (fun v b => ∃ as, Reads s.heap v (id b) as ∧ a ∉ as) its ds
  | _, _, .nil, _ => .nil
  | _, _, .cons ⟨x, r, h⟩ t, k => .cons (by
      obtain ⟨as, q⟩ := Dat.reads I (kdep_dep _ _ (k _ List.mem_cons_self)) h r
      refine ⟨as, q, ?_⟩
      rw [reads_none 4 _ _ _ (k _ List.mem_cons_self) q]
      simp) (each_reads' I a t fun d hd => k d (List.mem_cons_of_mem _ hd))
theorem srtL_ok {ds : List D} {d : D} (h : srtL ds = .ok d) : (∀ e ∈ ds, kdep 4 e = true) ∧ AllAlike (ds.map id) ∧ Sortable (ds.map id) ∧ ds.length ≤ lim ∧ d = .list (ds.mergeSort (dataLe false id)) := by
  obtain ⟨h1, h⟩ := req_ok (show req _ _ = .ok d from h)
  obtain ⟨h2, h⟩ := req_ok h
  obtain ⟨h3, h4⟩ := Bool.and_eq_true_iff.mp h1
  have k : ∀ e ∈ ds, (∃ x r, e = .tuple (x :: r)) ∧ kdep 4 e = true := fun e he => by
    have q := List.all_eq_true.mp h3 e he
    split at q
    · exact ⟨⟨_, _, rfl⟩, q⟩
    · cases q
  refine ⟨fun e he => (k e he).2, fun x hx y hy => ?_, .inl fun e he => ?_, of_decide_eq_true h2, (ok_inj h).symm⟩
  · rw [List.map_id] at hx hy
    exact List.all_eq_true.mp (List.all_eq_true.mp h4 x hx) y hy
  · rw [List.map_id] at he
    exact (k e he).1
theorem keys_are {xs : List NE} {ys : List (NestedKey × Addr × Value)} {es : Array DictEntry} {knd : HeapKind X.prog X.w NestedKey} {acc : Array Value} (rel : NR xs ys) (he : es.toList = ys.map (entryOfKey knd)) (hacc : ItemsOf (fun i v => ∃ hi : i < es.size, v = es[i].key) acc es.size) :
    acc.toList = xs.map fun x => Value.ref x.2.1 := by
  have hl : es.size = ys.length := by rw [← Array.length_toList, he, List.length_map]
  have hl2 := Paired.length rel
  apply List.ext_getElem?
  intro j
  by_cases hj : j < es.size
  · have hja : j < acc.size := by rw [hacc.1]; exact hj
    obtain ⟨_, e1⟩ := hacc.2 j acc[j] (Array.getElem?_eq_getElem hja)
    rw [Array.getElem?_toList, Array.getElem?_eq_getElem hja, e1]
    have e2 : es[j]? = (ys[j]?).map (entryOfKey knd) := entry_at he j
    rw [Array.getElem?_eq_getElem hj, List.getElem?_eq_getElem (by omega)] at e2
    have e3 : es[j] = entryOfKey knd ys[j] := Option.some.inj e2
    rw [e3, List.getElem?_map, List.getElem?_eq_getElem (show j < xs.length by omega)]
    have : ∀ {xs : List NE} {ys : List (NestedKey × Addr × Value)}, NR xs ys → ∀ (j : Nat) (h1 : j < xs.length) (h2 : j < ys.length), xs[j].2.1 = ys[j].2.1 := by
      intro xs ys r
      induction r with
      | nil => intro j h1; exact absurd h1 (Nat.not_lt_zero _)
      | cons h t ih =>
        intro j h1 h2
        cases j with
        | zero => exact h.2.1
        | succ j => exact ih j (Nat.lt_of_succ_lt_succ h1) (Nat.lt_of_succ_lt_succ h2)
    show some (Value.ref (ys[j]).2.1) = some (Value.ref (xs[j]).2.1)
    rw [this rel j (by omega) (by omega)]
  · rw [List.getElem?_eq_none (by rw [Array.length_toList, hacc.1]; omega), List.getElem?_eq_none (by rw [List.length_map]; omega)]
theorem each_keys : ∀ {xs : List NE} {kvs : List (D × D)}, DatN U X.K (view H Z) xs kvs → EachIs (Rd1 U X Z H) (xs.map fun x => Value.ref x.2.1) (kvs.map (·.1))
  | _, _, .nil => .nil
  | _, _, .cons (b := b) hk hi h hs => .cons ⟨V.ref b, (show RelV (.ref b) (.ref b) from rfl), hk⟩ (each_keys hs)
theorem depth_le {ds : List D} (k : ∀ d ∈ ds, kdep 4 d = true) : ∀ b ∈ ds, (id b : D).depth ≤ 4 := fun b hb => (dep_plain (kdep_dep _ _ (k b hb))).2
/-- sorted(x), tuples -/
theorem call_srt (hc : X.calm = true) (hu : X.A.units + 64 < cLine) (hnd : U.nd = NDict X.prog X.w) : CallR X (.builtin "sorted") (fun vs H Q => ∃ x a d, vs = [x] ∧ Zt Z H ∧ Con U X.K Z H x a ∧ srtD a = .ok d ∧ Wn U X.K Z H Q d) := by
  intro pins s σ H vs us Q I r h
  obtain ⟨x, a, d, rfl, zt, hx, hg, q⟩ := h
  obtain ⟨u, eu, rx⟩ := vals1 r
  subst eu
  have fin : ∀ {s : Shared} {p : Addr} {out : List Value} {ds' : List D} {h' : Heap} {tk : Nat} (e : Nat), Inv X pins σ H s → EachIs (Rd1 U X Z H) out ds' → out.length ≤ sizeLine → (∀ b o, s.heap.get? b = some o → h'.get? b = some o) → s.heap.objs.size ≤ p → h'.get? p = some (seqObj "list" out.toArray e) → Wn U X.K Z H Q (.list ds') →
      EP X pins σ Q (.ref p) { s with heap := h', toks := tk } := fun {s p out ds' h' tk} e I eo hz kp hp hat q => by
    obtain ⟨xs, v1, v2⟩ := each_back eo
    have hn : H p = none := I.hok.fresh hp
    exact ⟨.ref p, upd H p (.lst xs), I.laid (t' := tk) kp hp (show ObjOk X.prog X.w _ _ _ (.lst xs) from ⟨by rw [v1.length]; exact hz, out, e, v1, hat⟩), rfl, q _ _ (Ex.new hn) (Dat.newL zt hn v2)⟩
  cases a with
  | list ds =>
    obtain ⟨p, xs, rfl, h1, h2⟩ := hx.list
    obtain ⟨k1, k2, k3, k4, rfl⟩ := srtL_ok hg
    obtain rfl : u = Value.ref p := rx
    obtain ⟨its, rv, pl, hz⟩ := I.list (SqL.of h1)
    have e := each_dat (U := U) (X := X) (Z := Z) rv h2
    refine sorted_data (enc := id) (bs := ds) pl.isList e (each_reads I e k1) k2 k3 (lim_line k4) (fun b hb => by have := depth_le k1 b hb; omega) fun out hlen ho => ?_
    obtain ⟨ep, he'⟩ := PyProof.Rows.sortedAll_at s.heap its out.toArray
    exact fin ep I ho (by rw [hlen]; exact lim_line k4) (fun _ _ => PyProof.Rows.sortedAll_old) (Nat.le_succ _) he' q
  | dict kvs =>
    obtain ⟨r0, h0, hg⟩ := bind_ok_inv (show (ofO (ndOf kvs)).bind _ = .ok d from hg)
    cases ndOf_of (ofO_ok h0)
    obtain ⟨k1, k2, k3, k4, rfl⟩ := srtL_ok hg
    obtain ⟨p, xs, rfl, h1, h2⟩ := (show Con U X.K Z H x (ndD r0) from hx).nd_inv
    obtain rfl : u = Value.ref p := rx
    rw [hnd] at h1
    obtain ⟨z, hd, ys, rel, dd⟩ := ndc_of I h1 h2.keys
    obtain ⟨o, es, ep, g1, g2, g3, g4, _, _⟩ := id dd
    have hes : es.size = xs.length := by rw [← Array.length_toList, g4, List.length_map, Paired.length rel]
    refine Calls.call_function_entry PyProof.Rows.kind_sorted PyProof.Rows.plain_sorted PyProof.Rows.entry_sorted (PyProof.Rows.args_sorted1 _) ?_
    unfold Builtin.«sorted»
    refine wpAny_bind (m := checkCount "sorted" 1 1 _) (wpAny_pure ?_)
    refine wpAny_bind (PySem.W.kdu_collect (A := X.A.in1) (KdlSrc.rawDict (es := es) (ep := ep) hd) (I.ok.hd hc) ⟨o, g1, g2, g3⟩ (by rw [hes]; exact z) fun h' tk acc hk hacc => ?_)
    have ek := keys_are rel g4 hacc
    have e : EachIs (Rd1 U X Z H) acc.toList (r0.map (·.1)) := by rw [ek]; exact each_keys h2
    have I1 : Inv X pins σ H { s with heap := h', toks := tk } := I.kept hk
    have hal : acc.toList.length ≤ sizeLine := by rw [Array.length_toList, hacc.1, hes]; exact z
    refine wpAny_bind (wpAny_newList ?_ hal)
    have hoL : (h'.push (seqObj "list" acc.toList.toArray 0)).get? h'.objs.size = some (seqObj "list" acc.toList.toArray 0) := Heap.get?_push_size _ rfl
    have I2 : Inv X pins σ H { s with heap := h'.push (seqObj "list" acc.toList.toArray 0), toks := tk } := I.kept fun b o eo => Heap.get?_push_of_some _ (hk b o eo)
    show wpAny _ _ _ _ _ { s with heap := h'.push (seqObj "list" acc.toList.toArray 0), toks := tk }
    refine wpAny_bind (wpAny_holding ?_)
    refine list_sort_data (s := { s with heap := h'.push (seqObj "list" acc.toList.toArray 0), toks := tk }) (enc := id) (bs := r0.map (·.1)) hoL e (each_reads' I2 _ e k1) k2 k3 (lim_line k4) (fun b hb => by have := depth_le k1 b hb; rw [Around.in1_units]; omega) fun out hlen ho => ?_
    obtain ⟨e', he'⟩ := PyProof.Rows.sortedHeap_at (vs := acc.toList) (out := out.toArray) hoL
    refine wpAny_pure ⟨_, rfl, fin (s := { s with heap := h', toks := tk }) e' I1 ho (by rw [hlen]; exact lim_line k4) (fun b u eo => ?_) (Nat.le_refl _) he' q⟩
    have hb : b < h'.objs.size := Heap.lt_size eo
    rw [PyProof.Rows.sortedHeap_old (Nat.ne_of_lt hb) (by rw [size_push']; exact Nat.lt_succ_of_lt hb)]
    exact Heap.get?_push_of_some _ eo
  | _ => cases hg
end
end Rwl

set_option Elab.async false
set_option linter.all false
set_option maxRecDepth 100000
set_option maxHeartbeats 1000000
/-! Rwl, part Sa: the table of a set that only grows, up to 511 slots; plain. -/
namespace Rwl
open PySem PySem.Spec PyProof.Rows L2

/-! ### each slot is met -/
def Msk (m : Nat) : Prop := MaskOk m ∨ m = 511
theorem Msk.odd {m : Nat} (h : Msk m) : m % 2 = 1 := by
  rcases h with h | rfl
  · exact mask_odd h
  · rfl
theorem Msk.le {m : Nat} (h : Msk m) : m ≤ 511 := by
  rcases h with (rfl | rfl | rfl) | rfl <;> decide
theorem orb511 : (List.range 512).foldl (fun a b => a ||| 1 <<< lcgN 511 b) 0 = 2 ^ 512 - 1 := by decide +kernel
theorem orb_mem (f : Nat → Nat) (j : Nat) : ∀ (l : List Nat) (a : Nat), (l.foldl (fun a b => a ||| 1 <<< f b) a).testBit j = true → a.testBit j = true ∨ ∃ b ∈ l, f b = j
  | [], a, h => .inl h
  | b :: l, a, h => by
    rcases orb_mem f j l _ h with q | ⟨c, hc, e⟩
    · rw [Nat.testBit_or, Bool.or_eq_true] at q
      rcases q with q | q
      · exact .inl q
      · refine .inr ⟨b, List.mem_cons_self, ?_⟩
        rw [Nat.one_shiftLeft, Nat.testBit_two_pow] at q
        exact of_decide_eq_true q
    · exact .inr ⟨c, List.mem_cons_of_mem _ hc, e⟩
theorem round511 : ∀ k, lcgN 511 (512 + k) = lcgN 511 k
  | 0 => by decide +kernel
  | k + 1 => by
    show (lcgN 511 (512 + k) * 5 + 1) % 512 = (lcgN 511 k * 5 + 1) % 512
    rw [round511 k]
theorem all511 {j : Nat} (hj : j ≤ 511) : ∃ b, b ≤ 511 ∧ lcgN 511 b = j := by
  have h : (2 ^ 512 - 1).testBit j = true := by rw [Nat.testBit_two_pow_sub_one]; exact decide_eq_true (by omega)
  rw [← orb511] at h
  rcases orb_mem _ j _ 0 h with q | ⟨b, hb, e⟩
  · simp at q
  · exact ⟨b, by have := List.mem_range.mp hb; omega, e⟩
theorem meets {m : Nat} (hm : Msk m) (h : Int) {j : Nat} (hj : j ≤ m) : ∃ n, n ≤ m + 12 ∧ L2.runI m (SetTable.bits h) n = j := by
  rcases hm with hm | rfl
  · exact run_meets hm h hj
  · have hi := runI_le 511 (SetTable.bits h) 12
    have tail := runI_tail (m := 511) (bits_lt h)
    generalize L2.runI 511 (SetTable.bits h) 12 = i at hi tail
    obtain ⟨a, ha, rfl⟩ := all511 hi
    obtain ⟨b, hb, rfl⟩ := all511 hj
    by_cases c : b < a
    · refine ⟨12 + (b + 512 - a), by omega, ?_⟩
      rw [tail, lcgN_add, show a + (b + 512 - a) = 512 + b by omega, round511]
    · refine ⟨12 + (b - a), by omega, ?_⟩
      rw [tail, lcgN_add, show a + (b - a) = b by omega]
/-- a search's c-th step -/
abbrev wy (m : Nat) (h : Int) (c : Nat) : SetTable.Probe := nth m (runAt m (SetTable.bits h % (m + 1)) (SetTable.bits h)) c
theorem wy_le (m : Nat) (h : Int) (c : Nat) : (wy m h c).j ≤ m := by
  have e : SetTable.bits h % (m + 1) ≤ m := Nat.le_of_lt_succ (Nat.mod_lt _ (Nat.succ_pos _))
  have r := runEnd_bd e
  have q := nth_in (m := m) c (runAt m (SetTable.bits h % (m + 1)) (SetTable.bits h)) (by
    unfold runAt
    dsimp only
    omega)
  exact Nat.le_trans (Nat.le_add_right _ _) q
theorem wy_dummy (m : Nat) (h : Int) : ∀ c, (wy m h c).dummy = none
  | 0 => rfl
  | c + 1 => by
    have ih := wy_dummy m h c
    unfold wy at ih ⊢
    rw [nth_succ]
    unfold adv
    split <;> exact ih

/-! ### tables without gaps -/
structure Sx (t : SetTable) (n : Nat) : Prop where
  ris : Ris t.place.toList
  dm : t.dummies = #[]
  sz : t.place.size = n
  mok : Msk t.mask
theorem Sx.fits {t : SetTable} {n : Nat} (T : Sx t n) (h : n ≤ t.mask) : t.fits n = true := by
  unfold SetTable.fits SetTable.fill
  rw [T.sz, T.dm]
  simpa using h
theorem Sx.first {t : SetTable} {n : Nat} (T : Sx t n) (hl : n ≤ t.mask) (h : Int) : ∃ K, K < 10 * SetTable.turns t.mask ∧ (wy t.mask h K).j ∉ t.place.toList ∧ ∀ k, k < K → (wy t.mask h k).j ∈ t.place.toList := by
  obtain ⟨j, hj, hn⟩ := st_missing t.place.toList (t.mask + 1) (by rw [Array.length_toList, T.sz]; omega)
  obtain ⟨n', hn', e⟩ := meets T.mok h (Nat.le_of_lt_succ hj)
  obtain ⟨k, hk, e2⟩ := run_nth t.mask (SetTable.bits h) n'
  have ej : (wy t.mask h k).j = j := by
    show (nth _ _ _).j = j
    rw [e2]
    exact e
  obtain ⟨K, a, b, c⟩ := st_least (p := fun k => (wy t.mask h k).j ∉ t.place.toList) k (by show ¬ _; rw [ej]; exact hn)
  exact ⟨K, by unfold SetTable.turns; omega, b, fun k' hk' => Classical.not_not.mp (c k' hk')⟩
theorem Sx.put {t : SetTable} {n : Nat} (T : Sx t n) {j : Nat} (hj : j ∉ t.place.toList) :
    (t.put j).2 = SetTable.below t.place j ∧ SetTable.below t.place j ≤ n ∧ Sx (t.put j).1 (n + 1) ∧ (t.put j).1.mask = t.mask ∧ (t.put j).1.led = t.led ∧ (t.put j).1.plain = t.plain ∧ (t.put j).1.fill = n + 1 := by
  have hb : SetTable.below t.place j ≤ t.place.size := (below_cut T.ris j).1
  have hsz : (t.put j).1.place.size = n + 1 := by
    rw [← Array.length_toList, put_place, len_ins _ (by rw [Array.length_toList]; exact hb), Array.length_toList, T.sz]
  refine ⟨rfl, T.sz ▸ hb, ⟨ris_insert T.ris fun e => hj (List.mem_of_getElem? (by rw [Array.getElem?_toList]; exact e)), put_dm T.dm j, hsz, T.mok⟩, rfl, rfl, rfl, ?_⟩
  unfold SetTable.fill
  rw [hsz, put_dm T.dm j]
  rfl

/-! ### laid anew -/
structure Sits (m n : Nat) (owner : Array (Option Nat)) : Prop where
  sz : owner.size = m + 1
  all : ∀ k, k < n → ∃ j, j ≤ m ∧ oAt owner j = some k
  ps : ∃ ps : List Nat, ps.length = n ∧ ∀ j, j ≤ m → oAt owner j ≠ none → j ∈ ps
theorem Sits.step {m n : Nat} (hm : Msk m) {owner : Array (Option Nat)} (W : Sits m n owner) (hl : n ≤ m) (h : Int) :
    ∃ j, SetTable.layClean.free m owner (SetTable.turns m) (SetTable.bits h % (m + 1)) (SetTable.bits h) = some j ∧ Sits m (n + 1) (owner.setIfInBounds j (some n)) := by
  obtain ⟨ps, p1, p2⟩ := W.ps
  obtain ⟨i, hi, ni⟩ := st_missing ps (m + 1) (by omega)
  have fi : oAt owner i = none := Classical.not_not.mp fun c => ni (p2 i (Nat.le_of_lt_succ hi) c)
  obtain ⟨c, hc, e⟩ := meets hm h (Nat.le_of_lt_succ hi)
  have ew : (wy m h (off m (SetTable.bits h % (m + 1)) (SetTable.bits h) c)).j = i := by
    show (nth _ _ _).j = i
    rw [nth_off, itL_run]
    exact e
  obtain ⟨K, k1, k2, k3⟩ := st_least (p := fun k => oAt owner (wy m h k).j = none) _ (show oAt owner (wy m h _).j = none by rw [ew]; exact fi)
  have hjm := wy_le m h K
  refine ⟨(wy m h K).j, free_spec m owner (SetTable.turns m) c _ _ K (by unfold SetTable.turns; omega) k1 (fun k hk => ?_) (by
    show (oAt owner (wy m h K).j).isNone = true
    rw [show oAt owner (wy m h K).j = none from k2]
    rfl), ?_⟩
  · show (oAt owner (wy m h k).j).isNone = false
    have q := k3 k hk
    cases z : oAt owner (wy m h k).j with
    | none => exact absurd z q
    | some _ => rfl
  · generalize (wy m h K).j = j at k2 hjm
    have hjs : j < owner.size := by rw [W.sz]; omega
    have self := oAt_set_self (some n) hjs
    refine ⟨by rw [Array.size_setIfInBounds]; exact W.sz, fun k hk => ?_, j :: ps, by rw [List.length_cons, p1], fun i hi hn => ?_⟩
    · by_cases c : k = n
      · exact ⟨j, hjm, by rw [c]; exact self⟩
      · obtain ⟨i, hi, e⟩ := W.all k (by omega)
        refine ⟨i, hi, ?_⟩
        have hij : i ≠ j := fun z => by
          rw [z] at e
          exact nomatch (show (none : Option Nat) = some k from (show oAt owner j = none from k2).symm.trans e)
        rw [oAt_set_ne _ hij]
        exact e
    · by_cases c : i = j
      · rw [c]
        exact List.mem_cons_self
      · rw [oAt_set_ne _ c] at hn
        exact List.mem_cons_of_mem _ (p2 i hi hn)
theorem Sits.fold {m : Nat} (hm : Msk m) : ∀ (hs : List Int) (n : Nat) (owner : Array (Option Nat)), Sits m n owner → n + hs.length ≤ m →
    ∃ o, hs.foldl (stepF m) (some (owner, n)) = some (o, n + hs.length) ∧ Sits m (n + hs.length) o
  | [], n, owner, W, _ => ⟨owner, rfl, W⟩
  | h :: hs, n, owner, W, hl => by
    rw [List.length_cons] at hl
    obtain ⟨j, e, W2⟩ := W.step hm (by omega) h
    obtain ⟨o, f, W3⟩ := Sits.fold hm hs (n + 1) _ W2 (by omega)
    have en : n + (h :: hs).length = n + 1 + hs.length := by rw [List.length_cons]; omega
    rw [en]
    refine ⟨o, ?_, W3⟩
    rw [List.foldl_cons, stepF_some e]
    exact f
theorem lay_ok {m : Nat} (hm : Msk m) {hs : Array Int} (hn : hs.size ≤ m) : ∃ o, SetTable.layClean m hs = some o ∧ Sits m hs.size o := by
  obtain ⟨o, f, W⟩ := Sits.fold hm hs.toList 0 _ ⟨by simp, fun k hk => absurd hk (Nat.not_lt_zero _), [], rfl, fun j hj c => absurd (oAt_init hj) c⟩ (by rw [Array.length_toList]; omega)
  rw [Nat.zero_add, Array.length_toList] at f W
  exact ⟨o, by rw [layClean_eq, f]; rfl, W⟩
theorem anew_ok (t : SetTable) {hs : Array Int} {wanted M : Nat} (hw : SetTable.sizeAbove wanted - 1 = M) (hM : Msk M) (hn : hs.size ≤ M) :
    ∃ t' order, t.relaid hs wanted = some (t', order) ∧ order.toList.Perm (List.range hs.size) ∧ Sx t' hs.size ∧ t'.mask = M ∧ t'.led = t.led ∧ t'.plain = t.plain := by
  obtain ⟨o, e, W⟩ := lay_ok hM hn
  obtain ⟨r1, r2⟩ := ris_live (fun j => o.getD j none) (List.range (M + 1)) List.pairwise_lt_range
  have r1 : Ris ((liveOf M o).map (·.1)) := r1
  have nd : ((liveOf M o).map (·.1)).Nodup := List.Pairwise.imp (fun h => Nat.ne_of_lt h) r1
  have le : (liveOf M o).length = hs.size := by
    obtain ⟨ps, p1, p2⟩ := W.ps
    refine Nat.le_antisymm ?_ ?_
    · have q := nat_nodup_len _ ps nd fun x hx => by
        obtain ⟨⟨y, k⟩, hq, rfl⟩ := List.mem_map.mp hx
        obtain ⟨b1, b2⟩ := (mem_live W.sz).1 hq
        exact p2 y b1 (by rw [b2]; exact nofun)
      rw [List.length_map, p1] at q
      exact q
    · have q := nat_nodup_len (List.range hs.size) ((liveOf M o).map (·.2)) List.nodup_range fun k hk => by
        obtain ⟨j, b1, b2⟩ := W.all k (List.mem_range.mp hk)
        exact List.mem_map.mpr ⟨(j, k), (mem_live W.sz).2 ⟨b1, b2⟩, rfl⟩
      rw [List.length_map, List.length_range] at q
      exact q
  refine ⟨tabOf t M o, ((liveOf M o).map (·.2)).toArray, by rw [relaid_eq, hw, e]; rfl, ?_, ⟨r1, rfl, ?_, hM⟩, rfl, rfl, rfl⟩
  · refine perm_range hs.size _ (by simp [le]) fun k hk => ?_
    obtain ⟨j, b1, b2⟩ := W.all k hk
    simpa using ⟨j, (mem_live W.sz).2 ⟨b1, b2⟩⟩
  · show ((liveOf M o).map (·.1)).toArray.size = hs.size
    simp [le]
theorem wide_5 : SetTable.sizeAbove (SetTable.grown 5) = 32 := by decide +kernel
theorem wide_19 : SetTable.sizeAbove (SetTable.grown 19) = 128 := by decide +kernel
theorem wide_77 : SetTable.sizeAbove (SetTable.grown 77) = 512 := by decide +kernel
end Rwl

set_option Elab.async false
set_option linter.all false
set_option maxRecDepth 100000
set_option maxHeartbeats 3200000
/-! Rwl, part Sb: a set of nested tuples, all different, is made of a list. -/
namespace Rwl
open PySem PySem.Spec PyProof.Rows L2 Evl PySem.W

/-! ### what a set asks of its members -/
/-- b is the key k, no text within -/
def Ik (h : Heap) (k : NestedKey) (b : Addr) : Prop := NestedIs h k (.ref b) ∧ k.depth ≤ 8 ∧ plainK k = true
theorem Ik.keep {h h' : Heap} {k : NestedKey} {b : Addr} (x : Ik h k b) (hk : ∀ c o, h.get? c = some o → h'.get? c = some o) : Ik h' k b := ⟨NestedIs.at (fun c o _ _ e _ => hk c o e) k _ x.1, x.2⟩
theorem Ik.same {h h' : Heap} {k : NestedKey} {a b : Addr} {o : Obj} {es : Array (Int × Value)} {ep : Nat} {t : SetTable} (x : Ik h k b) (ho : h.get? a = some o) (hd : o.data = .set es ep t) (hs : Heap.SameBut a h h') : Ik h' k b :=
  ⟨NestedIs.at (fun c u _ _ e d => (hs.2 c fun z => by
    rw [z, ho] at e
    rw [← Option.some.inj e, hd] at d
    exact nomatch d).trans e) k _ x.1, x.2⟩
section
variable {P : Program} {w : World} {A : Around} {E : Value → Shared → Prop} {s : Shared}
def ClsAt (P : Program) (w : World) (n : Nat) (s : Shared) (v : Value) : Prop := ∀ (A : Around) (E : Value → Shared → Prop) (Q : Bool → Shared → Prop), Q false s → wpAny (model P w) A (ofAClassStatement n v) Q E s
def HbyAt (P : Program) (w : World) (n : Nat) (s : Shared) (v : Value) : Prop := ∀ (A : Around) (E : Value → Shared → Prop) (Q : Bool → Shared → Prop), Q true s → wpAny (model P w) A (hashByValue n v) Q E s
theorem ClsAt.tuple {n m : Nat} {s : Shared} {a : Addr} {o : Obj} {vs : Array Value} (ho : s.heap.get? a = some o) (hc : o.cls = .type "tuple") (hd : o.data = .seq vs m) (hq : ∀ v ∈ vs.toList, ClsAt P w n s v) : ClsAt P w (n + 1) s (.ref a) := fun A E Q h => by
  unfold ofAClassStatement
  refine wpAny_bind (wpAny_typeOf (show s.TypeIs (.ref a) "tuple" from ⟨o, ho, hc⟩) ?_)
  dsimp only
  have e : (("tuple" : String) == "tuple") = true := by decide
  simp only [e, if_true, Bool.not_true, Bool.false_eq_true, if_false]
  try refine wpAny_bind (wpAny_pure ?_)
  try simp only [Bool.not_true, Bool.false_eq_true, if_false]
  show wpAny _ _ (seqItems? (.ref a) >>= _) _ _ s
  refine wpAny_bind (wpAny_seqItems ho hd ?_)
  dsimp only
  refine wpAny_bind ?_
  show wpAny _ _ (forIn vs _ _) _ _ s
  rw [← Array.forIn_toList]
  refine wpAny_forIn_list _ (fun l r u => r.1 = none ∧ u = s ∧ ∀ v ∈ l, ClsAt P w n s v) _ ?_ ?_ _ _ ⟨rfl, rfl, hq⟩
  · rintro v l r u ⟨hr, rfl, hall⟩
    refine wpAny_bind (hall v List.mem_cons_self _ _ _ ?_)
    simp only [Bool.false_eq_true, if_false]
    exact wpAny_pure ⟨rfl, rfl, fun x hx => hall x (List.mem_cons_of_mem _ hx)⟩
  · rintro ⟨r1, r2⟩ u ⟨hr, rfl, _⟩
    simp only at hr
    subst hr
    exact wpAny_pure h
theorem HbyAt.tuple {n m : Nat} {s : Shared} {a : Addr} {o : Obj} {vs : Array Value} (ho : s.heap.get? a = some o) (hc : o.cls = .type "tuple") (hd : o.data = .seq vs m) (hq : ∀ v ∈ vs.toList, HbyAt P w n s v) : HbyAt P w (n + 1) s (.ref a) := fun A E Q h => by
  unfold hashByValue
  refine wpAny_bind (wpAny_specialOf (show s.TypeIs (.ref a) "tuple" from ⟨o, ho, hc⟩) F.slot_tuple_hash.lookup ?_)
  show wpAny _ _ (seqItems? (.ref a) >>= _) _ _ s
  refine wpAny_bind (wpAny_seqItems ho hd ?_)
  refine wpAny_bind ?_
  show wpAny _ _ (forIn vs _ _) _ _ s
  rw [← Array.forIn_toList]
  refine wpAny_forIn_list _ (fun l r u => r.1 = none ∧ u = s ∧ ∀ v ∈ l, HbyAt P w n s v) _ ?_ ?_ _ _ ⟨rfl, rfl, hq⟩
  · rintro v l r u ⟨hr, rfl, hall⟩
    refine wpAny_bind (hall v List.mem_cons_self _ _ _ ?_)
    simp only [Bool.not_true, Bool.false_eq_true, if_false]
    exact wpAny_pure ⟨rfl, rfl, fun x hx => hall x (List.mem_cons_of_mem _ hx)⟩
  · rintro ⟨r1, r2⟩ u ⟨hr, rfl, _⟩
    simp only at hr
    subst hr
    exact wpAny_pure h
theorem ClsAt.pure {n : Nat} {s : Shared} {v : Value} (e : ofAClassStatement n v = pure false) : ClsAt P w n s v := fun A E Q h => by
  rw [e]
  exact wpAny_pure h
theorem HbyAt.pure {n : Nat} {s : Shared} {v : Value} (e : hashByValue n v = pure true) : HbyAt P w n s v := fun A E Q h => by
  rw [e]
  exact wpAny_pure h
mutual
theorem asks : ∀ (k : NestedKey) (v : Value) (n : Nat) (s : Shared), NestedIs s.heap k v → k.depth ≤ n → plainK k = true → ClsAt P w n s v ∧ HbyAt P w n s v
  | .none, _, n, s, x, _, _ => by cases x; exact ⟨.pure (by cases n <;> rfl), .pure (by cases n <;> rfl)⟩
  | .num i, _, n, s, x, _, _ => by cases x <;> exact ⟨.pure (by cases n <;> rfl), .pure (by cases n <;> rfl)⟩
  | .text y, _, n, s, _, _, p => by simp [plainK] at p
  | .tup ks, _, 0, s, x, hn, _ => by
    simp only [NestedKey.depth] at hn
    omega
  | .tup ks, _, n + 1, s, x, hn, p => by
    cases x with
    | tup hg hc hd hk =>
      simp only [NestedKey.depth] at hn
      have q := asksAll ks _ n s hk (by omega) (by simpa [plainK] using p)
      exact ⟨.tuple hg hc hd fun v hv => (q v hv).1, .tuple hg hc hd fun v hv => (q v hv).2⟩
theorem asksAll : ∀ (ks : List NestedKey) (vs : List Value) (n : Nat) (s : Shared), NestedAll s.heap ks vs → NestedKey.depthAll ks ≤ n → plainKs ks = true → ∀ v ∈ vs, ClsAt P w n s v ∧ HbyAt P w n s v
  | [], _, n, s, x, _, _, v, hv => by cases x; cases hv
  | k :: ks, _, n, s, x, hn, p, v, hv => by
    cases x with
    | cons x1 x2 =>
      simp only [NestedKey.depthAll] at hn
      rw [plainKs, Bool.and_eq_true] at p
      rcases List.mem_cons.mp hv with e | hv
      · rw [e]; exact asks k _ n s x1 (by omega) p.1
      · exact asksAll ks _ n s x2 (by omega) p.2 v hv
end
theorem seen_key {k : NestedKey} {b : Addr} {Q : Bool → Shared → Prop} (hk : Ik s.heap k b) {ys : List Value} (hy : ∀ y ∈ ys, ∃ k' c, y = Value.ref c ∧ Ik s.heap k' c) (h : Q false s) : wpAny (model P w) A (searchCouldBeSeen (.ref b) ys) Q E s := by
  unfold searchCouldBeSeen
  refine wpAny_bind ?_
  refine wpAny_forIn_list _ (fun l r u => r.1 = none ∧ u = s ∧ ∀ y ∈ l, ∃ k' c, y = Value.ref c ∧ Ik s.heap k' c) _ ?_ ?_ _ _ ⟨rfl, rfl, hy⟩
  · rintro v l r u ⟨hr, rfl, hall⟩
    obtain ⟨k', c, rfl, hc⟩ := hall v List.mem_cons_self
    have more : ∀ y ∈ l, ∃ k' c, y = Value.ref c ∧ Ik u.heap k' c := fun x hx => hall x (List.mem_cons_of_mem _ hx)
    dsimp only
    by_cases hv : (b == c || (carriedByValue (.ref b) && carriedByValue (.ref c))) = true
    · refine wp_if_pos hv ?_
      exact wpAny_pure ⟨rfl, rfl, more⟩
    · refine wp_if_neg hv ?_
      refine wpAny_bind (quiet_key k _ 8 u hk.1 hk.2.1 _ _ _ ?_)
      simp only [Bool.not_true, Bool.false_eq_true, if_false]
      refine wpAny_bind (quiet_key k' _ 8 u hc.1 hc.2.1 _ _ _ ?_)
      simp only [Bool.not_true, Bool.false_eq_true, if_false]
      refine wpAny_bind ((asks k _ 8 u hk.1 hk.2.1 hk.2.2).1 _ _ _ ?_)
      simp only [Bool.false_eq_true, if_false]
      refine wpAny_bind ((asks k' _ 8 u hc.1 hc.2.1 hc.2.2).1 _ _ _ ?_)
      simp only [Bool.false_eq_true, if_false]
      exact wpAny_pure ⟨rfl, rfl, more⟩
  · rintro ⟨r1, r2⟩ u ⟨hr, rfl, _⟩
    simp only at hr
    subst hr
    exact wpAny_pure h

/-! ### the set -/
abbrev NL := List (Addr × NestedKey)
def rowsK (w : World) (L : NL) : List (Int × Value) := L.map fun p => (p.2.hash w, Value.ref p.1)
structure SetK (w : World) (h : Heap) (a : Addr) (L : NL) (es : Array (Int × Value)) (ep : Nat) (t : SetTable) : Prop where
  ob : ∃ o, h.get? a = some o ∧ o.ExactSet ∧ o.data = .set es ep t
  rows : es.toList = rowsK w L
  tab : Sx t L.length
  nd : (L.map (·.2)).Nodup
  key : ∀ p ∈ L, Ik h p.2 p.1
  plain : t.plain = true
  led : w.params.followText "set-order" = true ∨ t.led = true
  room : L.length * 5 < t.mask * 3
  few : L.length < 300
variable {a : Addr} {L : NL} {es : Array (Int × Value)} {ep : Nat} {t : SetTable}
theorem rowsK_size (h : es.toList = rowsK w L) : es.size = L.length := by
  rw [← Array.length_toList, h]
  unfold rowsK
  rw [List.length_map]
theorem SetK.size (R : SetK w s.heap a L es ep t) : es.size = L.length := rowsK_size R.rows
theorem SetK.fits (R : SetK w s.heap a L es ep t) : t.fits es.size = true := by
  rw [R.size]
  exact R.tab.fits (by have := R.room; omega)
theorem SetK.gw (R : SetK w s.heap a L es ep t) : ¬ t.gaveWay = true := by
  unfold SetTable.gaveWay
  rw [R.tab.mok.odd]
  decide
theorem SetK.entry (R : SetK w s.heap a L es ep t) {i : Nat} {p : Addr × NestedKey} (h : L[i]? = some p) : es[i]? = some (p.2.hash w, Value.ref p.1) := by
  rw [← Array.getElem?_toList, R.rows]
  unfold rowsK
  rw [List.getElem?_map, h]
  rfl
/-- the search for what is not there -/
theorem seek (R : SetK w s.heap a L es ep t) {x : Addr} {k : NestedKey} (hx : Ik s.heap k x) (hn : k ∉ L.map (·.2)) (hu : A.units + 8 < cLine) {h : Int} {K : Nat} (hKf : K < 10 * SetTable.turns t.mask)
    (hK : (wy t.mask h K).j ∉ t.place.toList) (hb : ∀ c, c < K → (wy t.mask h c).j ∈ t.place.toList) {Q : SetFound → Shared → Prop} (hQ : Q (.free (wy t.mask h K).j false) s) :
    ∀ (f c : Nat) (stand : Option SetTable.Probe), stand.getD (t.probeStart h) = wy t.mask h c → c ≤ K → K - c < f → wpAny (model P w) A (setSearchFrom a (.ref x) h true f stand) Q E s
  | 0, c, stand, _, _, hf => absurd hf (Nat.not_lt_zero _)
  | f + 1, c, stand, hst, hc, hf => by
    obtain ⟨o, ho, hex, hd⟩ := R.ob
    rw [setSearchFrom_succ]
    refine wpAny_bind (wpAny_setState_of ho hd R.fits ?_)
    dsimp only
    refine wp_if_neg R.gw ?_
    try refine wpAny_bind (wpAny_pure ?_)
    have sh : ∀ q, nth t.mask (wy t.mask h c) q = wy t.mask h (c + q) := fun q => (nth_add t.mask c _ q).symm
    have eK : c + (K - c) = K := by omega
    rw [hst]
    rcases go_spec t R.tab.ris R.tab.dm (fun i => (es[i]?.map (·.1)).getD 0) h (10 * SetTable.turns t.mask) (K - c) (wy t.mask h c) (wy_dummy _ _ c) (by omega)
      (fun q hq => by rw [sh]; exact hb (c + q) (by omega)) (by rw [sh, eK]; exact hK) with ⟨q, i, hq, hi, _, _, hpr⟩ | ⟨_, hpr⟩
    · rw [sh, sh] at hpr
      rw [sh] at hi
      rw [show t.probe (fun i => (es[i]?.map (·.1)).getD 0) h (wy t.mask h c) = _ from hpr]
      dsimp only
      have hil : i < L.length := by
        rw [← R.tab.sz, ← Array.length_toList]
        exact (List.getElem?_eq_some_iff.mp hi).1
      obtain ⟨p, hp⟩ : ∃ p, L[i]? = some p := ⟨_, List.getElem?_eq_getElem hil⟩
      have hmem : p ∈ L := List.mem_of_getElem? hp
      have hne : p.2 ≠ k := fun z => hn (List.mem_map.mpr ⟨p, hmem, z⟩)
      have hpk := R.key p hmem
      have tail : wpAny (model P w) A (searchRest a (.ref x) h true f es t (wy t.mask h (c + q)).j i (wy t.mask h (c + (q + 1)))) Q E s := by
        unfold searchRest
        rw [R.entry hp]
        dsimp only
        refine wpAny_bind (wpAny_holding ((nestedKind P w).eqBool (x := p.2) (y := k) hu ⟨hpk.1, hpk.2.1⟩ ⟨hx.1, hx.2.1⟩ ?_))
        rw [decide_eq_false hne]
        refine wpAny_bind (wpAny_setState_of ho hd R.fits ?_)
        dsimp only
        refine wp_if_neg (by simp) ?_
        try refine wpAny_bind (wpAny_pure ?_)
        rw [sameMem]
        dsimp only
        simp only [if_true, slot_live R.tab.ris hi, R.entry hp]
        refine wpAny_bind (wpAny_isSame_ref_self (wpAny_bind (wpAny_pure ?_)))
        simp only [if_true]
        refine wp_if_neg (by simp) ?_
        exact seek R hx hn hu hKf hK hb hQ f (c + (q + 1)) _ rfl (by omega) (by omega)
      by_cases hl : t.led = true
      · refine wp_if_neg (by simp [hl]) ?_
        try refine wpAny_bind (wpAny_pure ?_)
        exact tail
      · refine wp_if_pos (by simp [hl]) ?_
        refine wpAny_bind (seen_key hx (fun y hy => ?_) ?_)
        · obtain ⟨e, he, ee⟩ := List.mem_map.mp hy
          have he1 : e ∈ es ∧ e.1 = h := by simpa using he
          have he2 : e ∈ es.toList := by simpa using he1.1
          rw [R.rows] at he2
          obtain ⟨p2, hp2, e2⟩ := List.mem_map.mp he2
          exact ⟨p2.2, p2.1, by rw [← ee, ← e2], R.key p2 hp2⟩
        · refine wp_if_neg (by decide) ?_
          try refine wpAny_bind (wpAny_pure ?_)
          exact tail
    · rw [sh, eK] at hpr
      rw [show t.probe (fun i => (es[i]?.map (·.1)).getD 0) h (wy t.mask h c) = _ from hpr]
      dsimp only
      exact wpAny_pure hQ
theorem seek_at (R : SetK w s.heap a L es ep t) {x : Addr} {k : NestedKey} (hx : Ik s.heap k x) (hn : k ∉ L.map (·.2)) (hu : A.units + 8 < cLine) (h : Int) {Q : SetFound → Shared → Prop}
    (hQ : ∀ j, j ∉ t.place.toList → Q (.free j false) s) : wpAny (model P w) A (setSearch a (.ref x) h true) Q E s := by
  obtain ⟨K, k1, k2, k3⟩ := R.tab.first (by have := R.room; omega) h
  have m := R.tab.mok.le
  have : 10 * SetTable.turns t.mask ≤ 5260 := by
    unfold SetTable.turns
    omega
  unfold setSearch
  exact seek R hx hn hu k1 k2 k3 (hQ _ k2) 100000 0 none rfl (Nat.zero_le _) (by omega)
theorem rowsK_put (L : NL) (p : Nat) (x : Addr) (k : NestedKey) : rowsK w (L.take p ++ (x, k) :: L.drop p) = (rowsK w L).take p ++ (k.hash w, Value.ref x) :: (rowsK w L).drop p := by
  unfold rowsK
  rw [List.map_append, List.map_cons, List.map_take, List.map_drop]
theorem pick_all {α : Type} (l : List α) : ∀ n, n ≤ l.length → (List.range n).filterMap (fun i => l[i]?) = l.take n
  | 0, _ => rfl
  | n + 1, h => by
    rw [List.range_succ, List.filterMap_append, pick_all l n (by omega), List.take_succ, List.getElem?_eq_getElem h, List.filterMap_cons_some (List.getElem?_eq_getElem h)]
    rfl
theorem rowsK_order (hr : es.toList = rowsK w L) {order : Array Nat} (hp : order.toList.Perm (List.range L.length)) : ∃ L2, (order.filterMap (es[·]?)).toList = rowsK w L2 ∧ L2.Perm L := by
  refine ⟨order.toList.filterMap fun i => L[i]?, ?_, ?_⟩
  · rw [Array.toList_filterMap]
    unfold rowsK
    rw [List.map_filterMap]
    congr 1
    funext i
    rw [← Array.getElem?_toList, hr]
    unfold rowsK
    rw [List.getElem?_map]
  · have q := hp.filterMap fun i => L[i]?
    rw [pick_all L L.length (Nat.le_refl _), List.take_length] at q
    exact q
theorem relayK {o : Obj} (ho : s.heap.get? a = some o) (hex : o.ExactSet) (hd : o.data = .set es ep t) (hr : es.toList = rowsK w L) (T : Sx t L.length) (nd : (L.map (·.2)).Nodup) (hk : ∀ p ∈ L, Ik s.heap p.2 p.1) (pl : t.plain = true)
    (ld : w.params.followText "set-order" = true ∨ t.led = true) (few : L.length < 300) (hfl : L.length ≤ t.mask) {wanted M : Nat} (hw : SetTable.sizeAbove wanted = M + 1) (hM : Msk M) (hn : L.length * 5 < M * 3) {Q : Unit → Shared → Prop}
    (hQ : ∀ h' L' es' ep' t', Heap.SameBut a s.heap h' → SetK w h' a L' es' ep' t' → L'.Perm L → Q () { s with heap := h' }) : wpAny (model P w) A (setRelay a wanted) Q E s := by
  have hsz := rowsK_size hr
  have hM2 := hM.le
  obtain ⟨t', order, e, hp, T2, em, el, e2⟩ := anew_ok t (hs := es.map (·.1)) (wanted := wanted) (M := M) (by omega) hM (by rw [Array.size_map, hsz]; omega)
  rw [Array.size_map, hsz] at hp T2
  obtain ⟨L2, r1, r2⟩ := rowsK_order hr hp
  have hs2 : (order.filterMap (es[·]?)).size = L.length := by rw [rowsK_size r1, r2.length_eq]
  rw [setRelay_eq]
  refine wpAny_bind (wpAny_setState_of ho hd (by rw [hsz]; exact T.fits hfl) ?_)
  dsimp only
  refine wp_if_neg (by rw [sizeLine_eq, hw]; omega) ?_
  try refine wpAny_bind (wpAny_pure ?_)
  rw [e]
  dsimp only
  refine wpAny_bind ?_
  refine wp_if_neg (by rw [hs2, hsz]; simp) ?_
  try refine wpAny_bind (wpAny_pure ?_)
  refine wpAny_pure ?_
  dsimp only
  refine wpAny_storeSet_of ho hd ?_ (by rw [hs2, sizeLine_eq]; omega)
  have sb : Heap.SameBut a s.heap (s.heap.update a (Obj.putSet (order.filterMap (es[·]?)) t')) := Heap.SameBut.update ..
  have ln := r2.length_eq
  exact hQ _ L2 _ (ep + 1) t' sb ⟨⟨_, store_at ho hd, ⟨hex.1, hex.2.1, hex.2.2⟩, rfl⟩, r1, ln ▸ T2, (r2.map (·.2)).nodup_iff.mpr nd, fun p h => (hk p (r2.mem_iff.mp h)).same ho hd sb, by rw [e2]; exact pl, by rw [el]; exact ld, by rw [ln, em]; exact hn, by rw [ln]; exact few⟩ r2
theorem addK (R : SetK w s.heap a L es ep t) {x : Addr} {k : NestedKey} (hx : Ik s.heap k x) (hn : k ∉ L.map (·.2)) (hu : A.units + 8 < cLine) (hfew : L.length + 1 < 300) {Q : Bool → Shared → Prop}
    (hQ : ∀ b h' L' es' ep' t', Heap.SameBut a s.heap h' → SetK w h' a L' es' ep' t' → L'.Perm ((x, k) :: L) → Q b { s with heap := h' }) : wpAny (model P w) A (setAddHashed a (.ref x) (k.hash w)) Q E s := by
  obtain ⟨o, ho, hex, hd⟩ := R.ob
  have hsl := R.size
  have hroom := R.room
  unfold setAddHashed
  refine wpAny_holding ?_
  rw [show (100000 : Nat) = 99999 + 1 from rfl, setAddHashedIn_succ]
  refine wpAny_bind (wpAny_setState_of ho hd R.fits ?_)
  dsimp only
  refine wp_if_neg (by simp [byScan, Value.scannable]) ?_
  try refine wpAny_bind (wpAny_pure ?_)
  refine wpAny_bind (seek_at R hx hn hu _ fun j hj => ?_)
  dsimp only
  refine wpAny_bind (wpAny_setState_of ho hd R.fits ?_)
  dsimp only
  obtain ⟨q1, q2, q3, q4, q5, q6, q7⟩ := R.tab.put hj
  have hp1 : (t.put j).1.plain = true := by rw [q6]; exact R.plain
  generalize t.put j = pt at q1 q3 q4 q5 q6 q7 hp1 ⊢
  obtain ⟨t1, p⟩ := pt
  dsimp only at q1 q3 q4 q5 q6 q7 hp1 ⊢
  subst q1
  first
    | (refine wpAny_bind ?_; refine wp_if_pos hp1 ?_; refine (asks k _ 8 s hx.1 hx.2.1 hx.2.2).2 _ _ _ ?_)
    | refine wp_if_pos hp1 (wpAny_bind ((asks k _ 8 s hx.1 hx.2.1 hx.2.2).2 _ _ _ ?_))
  simp only [if_true]
  have hin : (SetTable.insertAt es (SetTable.below t.place j) (k.hash w, Value.ref x)).toList = rowsK w (L.take (SetTable.below t.place j) ++ (x, k) :: L.drop (SetTable.below t.place j)) := by
    rw [SetTable.toList_insertAt, rowsK_put, R.rows]
  have pm := put_perm L (SetTable.below t.place j) (x, k)
  generalize L.take (SetTable.below t.place j) ++ (x, k) :: L.drop (SetTable.below t.place j) = L1 at pm hin
  generalize SetTable.insertAt es (SetTable.below t.place j) (k.hash w, Value.ref x) = es1 at hin ⊢
  have hlen : L1.length = L.length + 1 := pm.length_eq
  have hes : es1.size = L.length + 1 := by rw [rowsK_size hin, hlen]
  have nd1 : (L1.map (·.2)).Nodup := (pm.map (·.2)).nodup_iff.mpr (by
    rw [List.map_cons]
    exact List.nodup_cons.mpr ⟨hn, R.nd⟩)
  refine wpAny_bind (wpAny_storeSet_of ho hd ?_ (by rw [hes, sizeLine_eq]; omega))
  have sb : Heap.SameBut a s.heap (s.heap.update a (Obj.putSet es1 t1)) := Heap.SameBut.update ..
  have ho1 := store_at (es' := es1) (t' := t1) ho hd
  generalize s.heap.update a (Obj.putSet es1 t1) = h1 at sb ho1 ⊢
  have key1 : ∀ p ∈ L1, Ik h1 p.2 p.1 := fun p hp => by
    rcases List.mem_cons.mp (pm.mem_iff.mp hp) with e | hp
    · rw [e]; exact hx.same ho hd sb
    · exact (R.key p hp).same ho hd sb
  have ld1 : w.params.followText "set-order" = true ∨ t1.led = true := by rw [q5]; exact R.led
  have T1 : Sx t1 L1.length := hlen ▸ q3
  by_cases hf : t1.tooFull = true
  · first
      | (refine wpAny_bind ?_; refine wp_if_pos (by simp [hf]) ?_)
      | (refine wp_if_pos (by simp [hf]) ?_; refine wpAny_bind ?_)
    have full : (L.length + 1) * 5 ≥ t.mask * 3 := by
      have h := hf
      unfold SetTable.tooFull at h
      rw [decide_eq_true_eq, q7, q4] at h
      exact h
    rw [hsl]
    have go : ∀ M, SetTable.sizeAbove (SetTable.grown (L.length + 1)) = M + 1 → Msk M → (L.length + 1) * 5 < M * 3 → wpAny (model P w) A (setRelay a (SetTable.grown (L.length + 1))) (fun _ u => wpAny (model P w) A (pure true) Q E u) E { s with heap := h1 } := fun M e1 e2 e3 =>
      relayK (s := { s with heap := h1 }) ho1 ⟨hex.1, hex.2.1, hex.2.2⟩ rfl hin T1 nd1 key1 hp1 ld1 (by rw [hlen]; exact hfew) (by rw [hlen, q4]; omega) e1 e2 (by rw [hlen]; exact e3) fun h2 L2 es2 ep2 t2 sb2 R2 pm2 =>
        wpAny_pure (hQ true h2 L2 es2 ep2 t2 (sb.trans sb2) R2 (pm2.trans pm))
    rcases R.tab.mok with (e | e | e) | e <;> rw [e] at full hroom
    · have e2 : L.length + 1 = 5 := by omega
      rw [e2] at go ⊢
      exact go 31 wide_5 (.inl (.inr (.inl rfl))) (by decide)
    · have e2 : L.length + 1 = 19 := by omega
      rw [e2] at go ⊢
      exact go 127 wide_19 (.inl (.inr (.inr rfl))) (by decide)
    · have e2 : L.length + 1 = 77 := by omega
      rw [e2] at go ⊢
      exact go 511 wide_77 (.inr rfl) (by decide)
    · exfalso
      omega
  · first
      | refine wp_if_neg (by simp [hf]) ?_
      | (refine wpAny_bind ?_; refine wp_if_neg (by simp [hf]) ?_; refine wpAny_pure ?_)
    refine wpAny_pure (hQ true h1 L1 es1 (ep + 1) t1 sb ⟨⟨_, ho1, ⟨hex.1, hex.2.1, hex.2.2⟩, rfl⟩, hin, T1, nd1, key1, hp1, ld1, ?_, by rw [hlen]; exact hfew⟩ pm)
    have h := hf
    unfold SetTable.tooFull at h
    rw [decide_eq_true_eq, q7] at h
    rw [hlen]
    omega
theorem SetK.keep {h h' : Heap} (R : SetK w h a L es ep t) (ha : ∀ o, h.get? a = some o → h'.get? a = some o) (hk : ∀ p ∈ L, Ik h' p.2 p.1) : SetK w h' a L es ep t := by
  obtain ⟨o, ho, r⟩ := R.ob
  exact ⟨⟨o, ha o ho, r⟩, R.rows, R.tab, R.nd, hk, R.plain, R.led, R.room, R.few⟩
theorem setK_new {h : Heap} {a : Addr} (ho : h.get? a = some { cls := .type "set", dict := none, data := .set #[] 0 (.fresh 0 0 (!w.params.followText "set-order")) }) : SetK w h a [] #[] 0 (.fresh 0 0 (!w.params.followText "set-order")) := by
  refine ⟨⟨_, ho, ⟨rfl, rfl, rfl⟩, rfl⟩, rfl, ⟨.nil, rfl, rfl, .inl (.inl rfl)⟩, .nil, fun p hp => (by cases hp), rfl, ?_, (by show 0 * 5 < 7 * 3; decide), (by show 0 < 300; decide)⟩
  show _ ∨ (!w.params.followText "set-order") = true
  cases w.params.followText "set-order"
  · exact .inr rfl
  · exact .inl rfl
/-- the members one by one -/
theorem setK_go {I : Addr} {fp wr : List Addr} {G : Array GenState → Array GenState → Prop} {n : Nat} {Pv : Nat → Value → Prop} {St : Nat → Shared → Prop} {R : Result → Shared → Prop}
    (W : WalksS P w A.in1 I fp wr G n Pv St) (S : Addr) (hSf : S ∉ fp) (ks : NL) (hn : n = ks.length) (hfew : ks.length < 300) (nd : (ks.map (·.2)).Nodup) (hval : ∀ i v, Pv i v → ∃ p, ks[i]? = some p ∧ v = .ref p.1)
    (h0 : Heap) (hk : ∀ p ∈ ks, Ik h0 p.2 p.1) (hS0 : h0.get? S = none) (hw0 : ∀ b ∈ wr, h0.get? b = none) (hu : A.in1.units + 8 < cLine) :
    ∀ (k i : Nat) (s : Shared), n - i = k → i ≤ n → St i s → (∀ b o, h0.get? b = some o → s.heap.get? b = some o) → (∃ L es ep t, SetK w s.heap S L es ep t ∧ L.Perm (ks.take i)) →
      (∀ s' L es ep t, Moved (S :: wr) G s s' → SetK w s'.heap S L es ep t → L.Perm ks → (∀ b o, h0.get? b = some o → s'.heap.get? b = some o) → R (.ok (.ret .none)) s') →
      codeAny (model P w) A (.builtin "set.update.loop" ⟨[.ref S, .ref I], []⟩) R s := by
  have hSw : S ∉ wr := fun h => hSf (W.sub _ h)
  have wider : ∀ b ∈ wr, b ∈ S :: wr := fun b hb => List.mem_cons_of_mem _ hb
  have keepM : ∀ {s s' : Shared}, Moved wr G s s' → (∀ b o, h0.get? b = some o → s.heap.get? b = some o) → ∀ b o, h0.get? b = some o → s'.heap.get? b = some o := fun hm hkp b o e =>
    hm.heap b o (fun hb => by rw [hw0 b hb] at e; cases e) (hkp b o e)
  have all : ∀ {s : Shared}, (∀ b o, h0.get? b = some o → s.heap.get? b = some o) → ∀ p ∈ ks, Ik s.heap p.2 p.1 := fun hkp p hp => (hk p hp).keep hkp
  intro k
  induction k with
  | zero =>
    intro i s hk' hi hst hkp ⟨L, es, ep, t, hS, g⟩ hR
    obtain rfl : i = n := by omega
    refine codeAny_builtin F.entry_set_update_loop ?_
    rw [Around.under_plainId F.plain_set_update_loop _]
    show wpAny _ A.in1 (pyNext (.ref I) >>= _) _ _ s
    refine wpAny_bind (W.done s _ _ hst fun s' hm => ?_)
    show wpAny _ A.in1 (ret Value.none) _ _ s'
    have hkp' := keepM hm hkp
    rw [hn, List.take_length] at g
    exact wpAny_pure (hR s' L es ep t (hm.mono wider) (hS.keep (fun o e => hm.heap S o hSw e) fun p hp => all hkp' p (g.mem_iff.mp hp)) g hkp')
  | succ k ih =>
    intro i s hk' hi hst hkp ⟨L, es, ep, t, hS, g⟩ hR
    have hlt : i < n := by omega
    refine codeAny_builtin F.entry_set_update_loop ?_
    rw [Around.under_plainId F.plain_set_update_loop _]
    show wpAny _ A.in1 (pyNext (.ref I) >>= _) _ _ s
    refine wpAny_bind (W.item i s _ _ hlt hst fun v s' hP hst' hm => ?_)
    obtain ⟨p, hp, rfl⟩ := hval i v hP
    have hkp' := keepM hm hkp
    have hpm : p ∈ ks := List.mem_of_getElem? hp
    have hS' : SetK w s'.heap S L es ep t := hS.keep (fun o e => hm.heap S o hSw e) fun q hq => all hkp' q (List.mem_of_mem_take (g.mem_iff.mp hq))
    have hx : Ik s'.heap p.2 p.1 := all hkp' p hpm
    have tk : ks.take (i + 1) = ks.take i ++ [p] := take_next hp
    have hno : p.2 ∉ L.map (·.2) := by
      rw [(g.map (·.2)).mem_iff]
      have nd1 : ((ks.take (i + 1)).map (·.2)).Nodup := nd.sublist ((List.take_sublist _ _).map _)
      rw [tk, List.map_append, List.nodup_append] at nd1
      exact fun z => nd1.2.2 _ z _ (List.mem_singleton.mpr rfl) rfl
    have ll : L.length ≤ i := by
      rw [g.length_eq, List.length_take]
      exact Nat.min_le_left _ _
    show wpAny _ A.in1 (holding [Value.ref p.1] (setAdd S (.ref p.1)) >>= _) _ _ s'
    refine wpAny_bind (wpAny_holding ?_)
    unfold setAdd
    refine wpAny_holding ?_
    refine wpAny_bind (pyHash_key (w := w) p.2 _ _ _ _ hx.1 (by have := hx.2.1; omega) ?_)
    refine addK (s := { s' with toks := s'.toks + p.2.draws }) hS' hx hno hu (by omega) fun b h' L' es' ep' t' hsb hS2 pm => ?_
    have hkp2 : ∀ b o, h0.get? b = some o → h'.get? b = some o := fun b o e => (hsb.2 b (fun z => by rw [z, hS0] at e; cases e)).trans (hkp' b o e)
    have g' : L'.Perm (ks.take (i + 1)) := by
      rw [tk]
      exact pm.trans ((g.cons p).trans (List.perm_append_singleton p _).symm)
    refine wpAny_pure ⟨plainId_quiet F.plain_set_update_loop _, ih (i + 1) _ (by omega) hlt (W.frame _ s' _ _ hst' (Nat.le_add_right _ _) fun b hb o e => ?_) hkp2 ⟨L', es', ep', t', hS2, g'⟩ fun s'' L2 es2 ep2 t2 hm2 hS3 g2 hkp3 => ?_⟩
    · rw [hsb.2 b (fun h : b = S => hSf (by rw [← h]; exact hb))]; exact e
    · refine hR s'' L2 es2 ep2 t2 (Moved.trans W.gtrans ((hm.mono wider).then_heap (Nat.le_add_right _ _) fun b o hb e => ?_) hm2) hS3 g2 hkp3
      rw [hsb.2 b (fun h : b = S => hb (by rw [h]; exact List.mem_cons_self))]; exact e
/-- set(l) -/
theorem call_setK {l : Addr} {items : Array Value} (ks : NL) {Q : Value → Shared → Prop} (hh : A.handled = none) (hl : s.heap.IsList l items) (hit : items.toList = ks.map fun p => Value.ref p.1)
    (hk : ∀ p ∈ ks, Ik s.heap p.2 p.1) (nd : (ks.map (·.2)).Nodup) (hfew : ks.length < 300) (hu : A.units + 32 < cLine)
    (h : ∀ (h' : Heap) (tk : Nat) L es ep t, SetK w h' s.heap.objs.size L es ep t → L.Perm ks → (∀ b o, s.heap.get? b = some o → h'.get? b = some o) → Q (.ref s.heap.objs.size) { s with heap := h', toks := tk }) :
    wpAny (model P w) A (call (.type "set") [.ref l]) Q E s := by
  have hisz : items.size = ks.length := by rw [← Array.length_toList, hit, List.length_map]
  obtain ⟨c, tl, hmro⟩ := F.called_set.mro
  have hmade := F.called_set.made
  have hsub := F.called_set.sub
  refine wpAny_call (codeAny_of_tree ?_)
  show wpAny _ _ (callAny (.type "set") _) _ _ _
  refine wpAny_pure ⟨Code.quiet_builtin _ (by decide +kernel), codeAny_builtin F.entry_type_call ?_⟩
  rw [Around.under_plain (weight_type_call_type "set" [.ref l] []) rfl]
  have h1 := F.called_set.notType
  have h2 := F.called_set.canCreate
  have hct := F.typeCall_set_1 (.ref l)
  repeat (any_goals (first | assumption | wp_step))
  refine codeAny_mono (code_set_led1 (.ref l) (E := E) (Q₁ := fun obj s₁ => obj = .ref s.heap.objs.size ∧ s₁ = { s with heap := s.heap.push { cls := .type "set", dict := none, data := .set #[] 0 (.fresh 0 0 (!w.params.followText "set-order")) } }) ⟨rfl, rfl⟩) fun r s₁ hr => ?_
  cases r with
  | error e => exact hr
  | ok fl =>
    cases fl with
    | ret obj =>
      obtain ⟨rfl, rfl⟩ := hr
      have hS : (s.heap.push { cls := .type "set", dict := none, data := .set #[] 0 (.fresh 0 0 (!w.params.followText "set-order")) }).get? s.heap.objs.size = some { cls := .type "set", dict := none, data := .set #[] 0 (.fresh 0 0 (!w.params.followText "set-order")) } := Heap.get?_push_size _ rfl
      have hT : Shared.TypeIs { s with heap := s.heap.push { cls := .type "set", dict := none, data := .set #[] 0 (.fresh 0 0 (!w.params.followText "set-order")) } } (.ref s.heap.objs.size) "set" := ⟨_, hS, rfl⟩
      have hli := F.called_set.init.lookup
      have hbi := F.called_set.init.bind (.ref s.heap.objs.size)
      repeat (any_goals (first | assumption | wp_step))
      refine codeAny_mono (codeAny_call_builtin (R := wants (fun r s₂ => r = .none ∧ ∃ h' tk L es ep t, s₂ = { s with heap := h', toks := tk } ∧ SetK w h' s.heap.objs.size L es ep t ∧ L.Perm ks ∧
          (∀ b o, s.heap.get? b = some o → h'.get? b = some o)) E) F.called_set.init.plain F.entry_set_init (check_set_init_1 hT ?_)) fun r₂ s₂ hr₂ => ?_
      · obtain ⟨ol, hol, hcl, nl, hdl⟩ := hl
        obtain ⟨ocls, odict, odata, oslots⟩ := ol
        simp only at hcl hdl
        subst hcl; subst hdl
        have hol' : (s.heap.push { cls := .type "set", dict := none, data := .set #[] 0 (.fresh 0 0 (!w.params.followText "set-order")) }).get? l = some { cls := .type "list", dict := odict, data := .seq items nl, slots := oslots } := Heap.get?_push_of_some _ hol
        have hsls := F.sub_list_set
        have hslf := F.sub_list_frozenset
        have hne : (Value.type "list" == Value.type "dict") = false := by decide
        have hl1 : (s.heap.push { cls := .type "set", dict := none, data := .set #[] 0 (.fresh 0 0 (!w.params.followText "set-order")) }).IsList l items := ⟨_, hol', rfl, nl, rfl⟩
        unfold Builtin.«set.__init__» noKeywords Builtin.Frozenset.updateFrom
        generalize hPI : pyIter = PI
        wp_walk
        subst hPI
        refine wpAny_pyIter_list hl1 ?_
        refine wpAny_bind (wpAny_runValue ?_)
        have hlS : l < s.heap.objs.size := Heap.lt_size hol
        have hh3 : A.in1.in1.in1.handled = none := by simp [hh]
        have z1 : (s.heap.push { cls := .type "set", dict := none, data := .set #[] 0 (.fresh 0 0 (!w.params.followText "set-order")) }).objs.size = s.heap.objs.size + 1 := Heap.size_push ..
        have hneI : l ≠ (s.heap.push { cls := .type "set", dict := none, data := .set #[] 0 (.fresh 0 0 (!w.params.followText "set-order")) }).objs.size := by rw [z1]; exact Nat.ne_of_lt (Nat.lt_succ_of_lt hlS)
        have hSf : s.heap.objs.size ∉ [(s.heap.push { cls := .type "set", dict := none, data := .set #[] 0 (.fresh 0 0 (!w.params.followText "set-order")) }).objs.size, l] := by
          rw [z1]
          simp only [List.mem_cons, List.not_mem_nil, or_false, not_or]
          exact ⟨Nat.ne_of_lt (Nat.lt_succ_self _), Nat.ne_of_gt hlS⟩
        have hval : ∀ (i : Nat) (v : Value), items[i]? = some v → ∃ p, ks[i]? = some p ∧ v = .ref p.1 := fun i v hv => by
          rw [← Array.getElem?_toList, hit, List.getElem?_map] at hv
          obtain ⟨p, hp, e⟩ := Option.map_eq_some_iff.mp hv
          exact ⟨p, hp, e.symm⟩
        have none_of : ∀ b, s.heap.objs.size ≤ b → s.heap.get? b = none := fun b hb => by
          cases q : s.heap.get? b with
          | none => rfl
          | some o => exact absurd (Nat.lt_of_lt_of_le (Heap.lt_size q) hb) (Nat.lt_irrefl _)
        refine setK_go ((Walks.list hh3 _ l hneI items).toS) s.heap.objs.size hSf ks hisz hfew nd hval s.heap hk (none_of _ (Nat.le_refl _)) (fun b hb => none_of b (by
            rw [List.mem_singleton.mp hb, z1]
            exact Nat.le_succ _)) (by simp only [Around.in1_units]; omega) (items.size - 0) 0 _ (by omega) (Nat.zero_le _)
          ⟨⟨_, Heap.get?_push_size _ rfl, rfl, rfl⟩, (hl1.push _)⟩ (fun b o e => Heap.get?_push_of_some _ (Heap.get?_push_of_some _ e)) ?hS0 ?hR
        case hS0 =>
          refine ⟨[], #[], 0, _, setK_new (w := w) (a := s.heap.objs.size) ?_, .refl _⟩
          exact Heap.get?_push_of_some _ hS
        case hR =>
          intro s' L es ep t hm hS' g' hkp
          obtain ⟨h', g2, d', tk', os'⟩ := s'
          have eg : g2 = s.gens := hm.gens
          have ed : d' = s.drawn := hm.drawn
          have eo : os' = s.os := hm.os
          subst eg; subst ed; subst eo
          show wpAny _ _ _ _ _ _
          refine wpAny_pure ?_
          show wpAny _ _ (ret Value.none) _ _ _
          exact wpAny_pure ⟨rfl, h', tk', L, es, ep, t, rfl, hS', g', hkp⟩
      · cases r₂ with
        | error e => exact hr₂
        | ok fl₂ =>
          cases fl₂ with
          | ret r =>
            obtain ⟨rfl, h', tk, L, es, ep, t, rfl, hS', g', hk'⟩ := hr₂
            repeat (any_goals (first | assumption | wp_step))
            exact h _ _ _ _ _ _ hS' g' hk'
          | _ => exact hr₂.elim
    | _ => exact hr.elim
end
end Rwl

set_option Elab.async false
set_option linter.all false
set_option maxRecDepth 100000
set_option maxHeartbeats 1000000
/-! Rwl, part E: what readings come to; one rule for each construct of an expression. -/
namespace Rwl
open PySem PySem.Spec PyProof.Rows L2 Evl

/-! ### what lets nothing out -/
def Nox {α : Type} (r : Res α) : Prop := ∀ c, r ≠ .exc c
section
variable {α β : Type}
theorem Nox.ok (a : α) : Nox (.ok a) := fun _ h => nomatch h
theorem Nox.bad : Nox (.bad : Res α) := fun _ h => nomatch h
theorem Nox.req {b : Bool} {r : Res α} (h : Nox r) : Nox (req b r) := by
  cases b with
  | true => exact h
  | false => exact .bad
theorem Nox.ofO {o : Option α} : Nox (Rwl.ofO o) := by
  cases o with
  | none => exact .bad
  | some a => exact .ok a
theorem Nox.bind {r : Res α} {f : α → Res β} (h : Nox r) (hf : ∀ a, Nox (f a)) : Nox (r.bind f) := by
  cases r with
  | ok a => exact hf a
  | exc c => exact absurd rfl (h c)
  | bad => exact .bad
end
theorem nox_tru (d : D) : Nox (tru d) := by
  cases d <;> first | exact .ok _ | exact .bad | exact .req (.ok _) | exact .bind .ofO fun _ => .req (.ok _)
theorem nox_bin (o : O2) (a b : D) : Nox (o.run a b) := by
  cases o <;> cases a <;> cases b <;> first | exact .ok _ | exact .bad | exact .req (.ok _)
theorem nox_eq (a b : D) : Nox (eqD a b) := .req (.ok _)
theorem nox_in (a b : D) : Nox (inD a b) := by
  unfold inD
  split <;> first | exact .bad | exact .req (.ok _) | skip
  split <;> first | exact .bad | skip
  split <;> first | exact .bad | exact .ok _
theorem nox_cm (o : Cm) (a b : D) : Nox (o.run a b) := by
  cases o with
  | eq => exact nox_eq a b
  | ne => exact .bind (nox_eq a b) fun _ => .ok _
  | inn => exact nox_in a b
  | nin => exact .bind (nox_in a b) fun _ => .ok _
  | isn => exact .req (.ok _)
  | ntn => exact .req (.ok _)
  | lt => cases a <;> cases b <;> first | exact .ok _ | exact .bad | exact .bind .ofO fun _ => .bind .ofO fun _ => .ok _
  | _ => cases a <;> cases b <;> first | exact .ok _ | exact .bad
theorem nox_neg (a : D) : Nox (negD a) := by cases a <;> first | exact .ok _ | exact .bad
theorem nox_ix (a b : D) : Nox (ixD a b) := by
  cases a <;> cases b <;> first | exact .bad | exact .ofO | exact .req (.bind .ofO fun _ => .ok _) | exact .bind .ofO fun _ => .req .ofO
theorem nox_inND (a b : D) : Nox (inND a b) := by
  cases b <;> first | exact .bad | exact .bind .ofO fun _ => .req (.ok _)
theorem nox_srtL (a : List D) : Nox (srtL a) := .req (.req (.ok _))
theorem nox_srt (a : D) : Nox (srtD a) := by
  cases a <;> first | exact .bad | exact nox_srtL _ | exact .bind .ofO fun _ => nox_srtL _
theorem nox_srs (a : D) : Nox (srsD a) := by
  cases a <;> first | exact .bad | exact .req (.req (nox_srtL _))
theorem nox_sl (l h : Option Int) (a : D) : Nox (slD l h a) := by cases a <;> first | exact .ok _ | exact .bad | exact .req (.ok _)
theorem nox_rev (a : D) : Nox (revD a) := by cases a <;> first | exact .ok _ | exact .bad
theorem nox_int (a : D) : Nox (asInt a) := by cases a <;> first | exact .ok _ | exact .bad
theorem nox_bi (k : Bi) (ds : List D) : Nox (bi k ds) := by
  unfold bi
  split <;> first
    | exact .ok _
    | exact .bad
    | exact .req (.ok _)
    | exact .bind .ofO fun _ => .ok _
    | exact .bind .ofO fun _ => .req (.ok _)
    | exact .req (.bind .ofO fun _ => .ok _)
    | (refine .bind .ofO fun ns => ?_; cases ns <;> first | exact .bad | exact .ok _)
theorem nox_isi (a : D) (t : Ty) : Nox (isiD a t) := by
  cases t <;> cases a <;> first | exact .ok _ | exact .bad | exact .bind .ofO fun _ => .ok _
theorem nox_mt (m : Mt) (a : D) (ds : List D) : Nox (mt m a ds) := by
  unfold mt
  split <;> first
    | exact .bad
    | exact .req (.bind .ofO fun _ => .ok _)
    | exact .req (.ok _)

/-! ### what a reading comes to -/
abbrev TX (β : Type) := L2.St → Hp → (β → Hp → Prop) → Prop
section
variable {α β α' β' : Type}
def FinG (U : Ux) (W : WX) (σ : L2.St) (R : β → α → Hp → Prop) (H : Hp) (Q : β → Hp → Prop) : Res α → Prop
  | .ok a => ∀ b H', Ex H H' → R b a H' → Q b H'
  | .exc c => ∃ C, U.ec c = some C ∧ ∀ H', Ex H H' → W (.ref C) none σ H'
  | .bad => False
theorem FinG.mono {U : Ux} {W : WX} {σ : L2.St} {R : β → α → Hp → Prop} {H H' : Hp} {Q : β → Hp → Prop} {r : Res α} (e : Ex H H') (h : FinG U W σ R H Q r) : FinG U W σ R H' Q r := by
  cases r with
  | ok a => exact fun b H2 e2 => h b H2 (e.trans e2)
  | exc c => obtain ⟨C, h1, h2⟩ := h; exact ⟨C, h1, fun H2 e2 => h2 H2 (e.trans e2)⟩
  | bad => exact h
def Yl (U : Ux) (W : WX) (R : β → α → Hp → Prop) (t : TX β) (σ : L2.St) (H : Hp) (r : Res α) : Prop := ∀ H1, Ex H H1 → ∀ Q, FinG U W σ R H1 Q r → t σ H1 Q
variable {U : Ux} {W : WX} {R : β → α → Hp → Prop} {R' : β' → α' → Hp → Prop} {t t' : TX β} {σ : L2.St} {H H' : Hp} {r : Res α}
theorem Yl.mono (e : Ex H H') (h : Yl U W R t σ H r) : Yl U W R t σ H' r := fun H1 e1 => h H1 (e.trans e1)
theorem Yl.imp (f : ∀ H1 Q, Ex H H1 → t σ H1 Q → t' σ H1 Q) (h : Yl U W R t σ H r) : Yl U W R t' σ H r := fun H1 e1 Q q => f H1 Q e1 (h H1 e1 Q q)
theorem Yl.bind {tb : β → TX β'} {f : α → Res α'} (h1 : Yl U W R t σ H r) (h2 : ∀ a b H1, r = .ok a → Ex H H1 → R b a H1 → Yl U W R' (tb b) σ H1 (f a)) : Yl U W R' (fun σ H Q => t σ H fun b H1 => tb b σ H1 Q) σ H (r.bind f) := by
  intro H1 e1 Q q
  cases r with
  | ok a => exact h1 H1 e1 _ fun b H2 e2 rb => h2 a b H2 rfl (e1.trans e2) rb H2 (Ex.refl H2) Q (FinG.mono e2 q)
  | exc c => exact h1 H1 e1 _ q
  | bad => exact (show False from q).elim
theorem Yl.bad : Yl U W R t σ H .bad := fun _ _ _ q => (show False from q).elim
theorem Yl.ret {a : α} {b : β} (h : ∀ H1, Ex H H1 → R b a H1) : Yl U W R (fun _ H Q => Q b H) σ H (.ok a) := fun H1 e Q q => q b H1 (Ex.refl H1) (h H1 e)
/-- by a rule on values: nothing leaves -/
theorem Yl.val (n : Nox r) (h : ∀ a H1 Q, r = .ok a → Ex H H1 → (∀ b H', Ex H1 H' → R b a H' → Q b H') → t σ H1 Q) : Yl U W R t σ H r := by
  intro H1 e Q q
  cases r with
  | ok a => exact h a H1 Q rfl e q
  | exc c => exact absurd rfl (n c)
  | bad => exact (show False from q).elim
/-- another relation -/
theorem Yl.rel {R2 : β → α → Hp → Prop} (h : Yl U W R t σ H r) (f : ∀ b a H1, Ex H H1 → R b a H1 → R2 b a H1) : Yl U W R2 t σ H r := by
  intro H1 e Q q
  refine h H1 e Q ?_
  cases r with
  | ok a => exact fun b H2 e2 rb => q b H2 e2 (f b a H2 (e.trans e2) rb)
  | exc c => exact q
  | bad => exact q
/-- two in a row, then an operation on values -/
theorem Yl.two {α1 α2 β1 β2 : Type} {t1 : TX β1} {t2 : TX β2} {R1 : β1 → α1 → Hp → Prop} {R2 : β2 → α2 → Hp → Prop} {r1 : Res α1} {r2 : Res α2} {tt : β1 → β2 → Hp → (β → Hp → Prop) → Prop} {f : α1 → α2 → Res α}
    (m : ∀ b a H H', Ex H H' → R1 b a H → R1 b a H') (h1 : Yl U W R1 t1 σ H r1) (h2 : Yl U W R2 t2 σ H r2) (h : ∀ x y u w H1, Ex H H1 → R1 u x H1 → R2 w y H1 → Yl U W R (fun _ H Q => tt u w H Q) σ H1 (f x y)) :
    Yl U W R (fun σ H Q => t1 σ H fun u H1 => t2 σ H1 fun w H2 => tt u w H2 Q) σ H (r1.bind fun x => r2.bind fun y => f x y) :=
  Yl.bind (tb := fun u σ H Q => t2 σ H fun w H2 => tt u w H2 Q) h1 fun x u H1 _ e1 d1 =>
    Yl.bind (tb := fun w _ H Q => tt u w H Q) (h2.mono e1) fun y w H2 _ e2 d2 => h x y u w H2 (e1.trans e2) (m _ _ _ _ e2 d1) d2
theorem Yl.one {α1 β1 : Type} {t1 : TX β1} {R1 : β1 → α1 → Hp → Prop} {r1 : Res α1} {tt : β1 → Hp → (β → Hp → Prop) → Prop} {f : α1 → Res α}
    (h1 : Yl U W R1 t1 σ H r1) (h : ∀ x u H1, Ex H H1 → R1 u x H1 → Yl U W R (fun _ H Q => tt u H Q) σ H1 (f x)) :
    Yl U W R (fun σ H Q => t1 σ H fun u H1 => tt u H1 Q) σ H (r1.bind f) :=
  Yl.bind (tb := fun u _ H Q => tt u H Q) h1 fun x u H1 _ e1 d1 => h x u H1 e1 d1
end
abbrev RE (U : Ux) (K : PySem.W.Frag) (Z : List Addr) : V → D → Hp → Prop := fun v d H => Dat U K (view H Z) v d
abbrev RC (U : Ux) (K : PySem.W.Frag) (Z : List Addr) : V → D → Hp → Prop := fun v d H => Con U K Z H v d
abbrev RL (U : Ux) (K : PySem.W.Frag) (Z : List Addr) : List V → List D → Hp → Prop := fun v d H => DatL U K (view H Z) v d
abbrev RQ {α : Type} : α → α → Hp → Prop := fun b a _ => b = a

theorem re_mono {U : Ux} {K : PySem.W.Frag} {Z : List Addr} (v : V) (d : D) (H H' : Hp) (e : Ex H H') (h : RE U K Z v d H) : RE U K Z v d H' := h.mono (ex_view e Z)
theorem rc_mono {U : Ux} {K : PySem.W.Frag} {Z : List Addr} (v : V) (d : D) (H H' : Hp) (e : Ex H H') (h : RC U K Z v d H) : RC U K Z v d H' := Con.mono e h

/-! ### the weakest readings -/
def Ew (X : Cx) (e : Expr) : TE := fun σ H Q => ∀ pins s, L2.Inv X pins σ H s → wpAny (model X.prog X.w) X.A (eval e X.env) (EP X pins σ Q) X.xe s
def Tw (X : Cx) (e : Expr) : TT := fun σ H Q => ∀ pins s, L2.Inv X pins σ H s → wpAny (model X.prog X.w) X.A (isTrue e X.env (eval e X.env)) (TP X pins σ Q) X.xe s
def Aw (X : Cx) (es : List Expr) : TA := fun σ H Q => ∀ pos pins s, L2.Inv X pins σ H s → wpAny (model X.prog X.w) X.A (spliced (backTo pos (starEach es X.env))) (AP X pins σ Q) X.xe s
def Ow (X : Cx) (e : Option Expr) : TO := fun σ H Q => ∀ pins s, L2.Inv X pins σ H s → wpAny (model X.prog X.w) X.A (evalPart e X.env) (fun u s' => ∃ o H', L2.Inv X pins σ H' s' ∧ IsPart u o ∧ Q o H') X.xe s
def Iw (X : Cx) (tg iter : Expr) : TI := fun σ H R => ∀ pins s, L2.Inv X pins σ H s → wpAny (model X.prog X.w) X.A (eval iter X.env) (fun v s1 => wpAny (model X.prog X.w) X.A (pyIter v) (PIE X pins σ tg R) X.xe s1) X.xe s
section
variable {X : Cx} {e : Expr} {σ : L2.St} {H : Hp}
theorem ew : PE X e (Ew X e) := ⟨fun pins s _ _ _ I h => h pins s I⟩
theorem tw : PT X e (Tw X e) := ⟨fun pins s _ _ _ I h => h pins s I⟩
theorem aw {es : List Expr} : PA X es (Aw X es) := ⟨fun pos pins s _ _ _ I h => h pos pins s I⟩
theorem ow {o : Option Expr} : PO X o (Ow X o) := ⟨fun pins s _ _ _ I h => h pins s I⟩
theorem iw {tg it : Expr} : PI X tg it (Iw X tg it) := ⟨fun pins s _ _ _ I h => h pins s I⟩
theorem ew_of {t : TE} {Q : VK} (p : PE X e t) (h : t σ H Q) : Ew X e σ H Q := fun pins s I => p.run pins s σ H Q I h
theorem tw_of {t : TT} {Q : Bool → Hp → Prop} (p : PT X e t) (h : t σ H Q) : Tw X e σ H Q := fun pins s I => p.run pins s σ H Q I h
theorem aw_of {es : List Expr} {t : TA} {Q : List V → Hp → Prop} (p : PA X es t) (h : t σ H Q) : Aw X es σ H Q := fun pos pins s I => p.run pos pins s σ H Q I h
theorem ow_of {o : Option Expr} {t : TO} {Q : Option Int → Hp → Prop} (p : PO X o t) (h : t σ H Q) : Ow X o σ H Q := fun pins s I => p.run pins s σ H Q I h
theorem iw_of {tg it : Expr} {t : TI} {Q : It → Hp → Prop} (p : PI X tg it t) (h : t σ H Q) : Iw X tg it σ H Q := fun pins s I => p.run pins s σ H Q I h
end

/-! ### the rules -/
section
variable {U : Ux} {W : WX} {X : Cx} {Y Z : List Addr} {σ : L2.St} {H : Hp} {a b c d : Expr} {pos : Pos} {ra rb rc rd : Res D}
theorem y_c {v : V} {x : D} (p : PE X a (tC v)) (h : ∀ H1, Dat U X.K H1 v x) : Yl U W (RE U X.K Z) (Ew X a) σ H (.ok x) :=
  Yl.imp (fun _ _ _ q => ew_of p q) (Yl.ret (R := RE U X.K Z) fun H1 _ => h _)
theorem y_var {i : Nat} {x : D} {env : Env} (p : PE X a (tVar i)) (h : EnvOk U X.K Y Z H σ env) (hi : env.get i = .dat x) : Yl U W (RE U X.K Z) (Ew X a) σ H (.ok x) := by
  refine Yl.imp (fun _ _ _ q => ew_of p q) (t := tVar i) fun H1 e Q q => ?_
  obtain ⟨ow, r⟩ := (h.mono e).get i
  rw [hi] at r
  obtain ⟨v, h1, h2⟩ := r
  exact ⟨v, h1, q v H1 (Ex.refl H1) h2⟩
theorem y_own {i : Nat} {xs : List D} {env : Env} (p : PE X a (tVar i)) (h : EnvOk U X.K Y Z H σ env) (hi : env.get i = .own xs) : Yl U W (RC U X.K Z) (Ew X a) σ H (.ok (.list xs)) := by
  refine Yl.imp (fun _ _ _ q => ew_of p q) (t := tVar i) fun H1 e Q q => ?_
  obtain ⟨ow, r⟩ := (h.mono e).get i
  rw [hi] at r
  obtain ⟨p, vs, h1, h2, h3, h4⟩ := r
  exact ⟨_, h1, q _ H1 (Ex.refl H1) (.inr ⟨xs, p, vs, rfl, rfl, h3, h4⟩)⟩
theorem y_con (h : Yl U W (RE U X.K Z) (Ew X a) σ H ra) : Yl U W (RC U X.K Z) (Ew X a) σ H ra := h.rel fun _ _ _ _ r => .inl r
theorem y_bin (o : O2) (t : Zt Z H) (ha : Yl U W (RE U X.K Z) (Ew X a) σ H ra) (hb : Yl U W (RE U X.K Z) (Ew X b) σ H rb) : Yl U W (RE U X.K Z) (Ew X (.BinOp a o.op b pos)) σ H (ra.bind fun x => rb.bind fun y => o.run x y) := by
  refine Yl.imp (fun _ _ _ q => ew_of (pe_op (op_bin (U := U) (Z := Z) o) ew ew) q) ?_
  refine Yl.two (t1 := Ew X a) (t2 := Ew X b) (tt := r2D U X.K Z o.run) re_mono ha hb fun x y u w H1 e1 dx dy => Yl.val (nox_bin o x y) fun z H3 Q hr e3 q => ?_
  exact ⟨(t.mono e1).mono e3, x, y, z, dx.mono (ex_view e3 Z), dy.mono (ex_view e3 Z), hr, q⟩
theorem y_neg (ha : Yl U W (RE U X.K Z) (Ew X a) σ H ra) : Yl U W (RE U X.K Z) (Ew X (.UnaryOp .USub a pos)) σ H (ra.bind negD) := by
  refine Yl.imp (fun _ _ _ q => ew_of (pe_un (un_negD (U := U) (Z := Z)) ew) q) ?_
  exact Yl.one (t1 := Ew X a) (tt := fun x H Q => ∃ a d, Dat U X.K (view H Z) x a ∧ negD a = .ok d ∧ Wn U X.K Z H Q d) ha fun x u H1 e1 dx => Yl.val (nox_neg x) fun z H3 Q hr e3 q => ⟨x, z, dx.mono (ex_view e3 Z), hr, q⟩
theorem y_not (ha : Yl U W (RE U X.K Z) (Ew X a) σ H ra) : Yl U W (RE U X.K Z) (Ew X (.UnaryOp .Not a pos)) σ H (ra.bind fun x => (tru x).bind fun k => .ok (.bool !k)) := by
  refine Yl.imp (fun _ _ _ q => ew_of (pe_notT ew) q) ?_
  refine Yl.one (t1 := Ew X a) (tt := fun x H1 Q => ∃ k, TruV X.K x H1 k ∧ Q (V.bl !k) H1) ha fun x u H1 e1 dx => Yl.val (.bind (nox_tru x) fun _ => .ok _) fun z H3 Q hr e3 q => ?_
  obtain ⟨k, h1, h2⟩ := bind_ok_inv hr
  cases ok_inj h2
  exact ⟨k, Con.truV (Z := Z) (.inl (dx.mono (ex_view e3 Z))) h1, q _ _ (Ex.refl _) (.bl _)⟩
theorem y_cmp (hu : X.A.units + 64 < cLine) (o : Cm) (hm : behindInMarks o.op b = false) (ha : Yl U W (RE U X.K Z) (Ew X a) σ H ra) (hb : Yl U W (RE U X.K Z) (Ew X b) σ H rb) :
    Yl U W (RE U X.K Z) (Ew X (.Compare a [o.op] [b] pos)) σ H (ra.bind fun x => rb.bind fun y => (o.run x y).bind fun k => .ok (.bool k)) := by
  refine Yl.imp (fun _ _ _ q => ew_of (pe_cmpR (op_cm (U := U) (Z := Z) hu o) ew ew hm) q) ?_
  refine Yl.two (t1 := Ew X a) (t2 := Ew X b) (tt := r2B U X.K Z o.run) re_mono ha hb fun x y u w H1 e1 dx dy => Yl.val (.bind (nox_cm o x y) fun _ => .ok _) fun z H3 Q hr e3 q => ?_
  obtain ⟨k, h1, h2⟩ := bind_ok_inv hr
  cases ok_inj h2
  exact ⟨x, y, k, dx.mono (ex_view e3 Z), dy.mono (ex_view e3 Z), h1, q _ _ (Ex.refl _) (.bl _)⟩
theorem y_cmpT (hu : X.A.units + 64 < cLine) (o : Cm) (hm : behindInMarks o.op b = false) (ha : Yl U W (RE U X.K Z) (Ew X a) σ H ra) (hb : Yl U W (RE U X.K Z) (Ew X b) σ H rb) :
    Yl U W RQ (Tw X (.Compare a [o.op] [b] pos)) σ H (ra.bind fun x => rb.bind fun y => o.run x y) := by
  refine Yl.imp (fun _ _ _ q => tw_of (pt_cmpR (op_cm (U := U) (Z := Z) hu o) ew ew hm) q) ?_
  refine Yl.two (t1 := Ew X a) (t2 := Ew X b) (tt := fun u w H Q => r2B U X.K Z o.run u w H fun z H3 => ∃ k, z = .bl k ∧ Q k H3) re_mono ha hb fun x y u w H1 e1 dx dy => Yl.val (nox_cm o x y) fun k H3 Q hr e3 q => ?_
  exact ⟨x, y, k, dx.mono (ex_view e3 Z), dy.mono (ex_view e3 Z), hr, k, rfl, q _ _ (Ex.refl _) rfl⟩
/-- an operation that gives a truth, then what follows -/
theorem y_test {α : Type} {β : Type} {R : β → α → Hp → Prop} {o : Cm} {x y : D} {u w : V} (hu : X.A.units + 64 < cLine) {tb : Bool → TX β} {f : Bool → Res α} (dx : Dat U X.K (view H Z) u x) (dy : Dat U X.K (view H Z) w y)
    (h : ∀ k, o.run x y = .ok k → Yl U W R (tb k) σ H (f k)) : Yl U W R (fun σ H Q => r2B U X.K Z o.run u w H fun z H3 => ∃ k, z = .bl k ∧ tb k σ H3 Q) σ H ((o.run x y).bind f) := by
  intro H1 e1 Q q
  cases hr : o.run x y with
  | ok k =>
    rw [hr] at q
    exact ⟨x, y, k, dx.mono (ex_view e1 Z), dy.mono (ex_view e1 Z), hr, k, rfl, h k hr H1 e1 Q q⟩
  | exc c => exact absurd hr (nox_cm o x y c)
  | bad => rw [hr] at q; exact (show False from q).elim
theorem y_vals {α : Type} {o : Cm} {x y : D} {u w : V} (dx : Dat U X.K (view H Z) u x) (dy : Dat U X.K (view H Z) w y) : Yl U W (RE U X.K Z) (fun _ H Q => r2B U X.K Z o.run u w H Q) σ H ((o.run x y).bind fun k => .ok (.bool k)) :=
  Yl.val (.bind (nox_cm o x y) fun _ => .ok _) fun z H3 Q hr e3 q => by
    obtain ⟨k, h1, h2⟩ := bind_ok_inv hr
    cases ok_inj h2
    exact ⟨x, y, k, dx.mono (ex_view e3 Z), dy.mono (ex_view e3 Z), h1, q _ _ (Ex.refl _) (.bl _)⟩
/-- a op b op c -/
theorem y_ch2 (hu : X.A.units + 64 < cLine) (o p : Cm) (hm : lastMarks [o.op, p.op] [b, c] = false) (ha : Yl U W (RE U X.K Z) (Ew X a) σ H ra) (hb : Yl U W (RE U X.K Z) (Ew X b) σ H rb) (hc : Yl U W (RE U X.K Z) (Ew X c) σ H rc) :
    Yl U W (RE U X.K Z) (Ew X (.Compare a [o.op, p.op] [b, c] pos)) σ H (ra.bind fun x => rb.bind fun y => (o.run x y).bind fun k => match k with
      | false => .ok (.bool false)
      | true => rc.bind fun z => (p.run y z).bind fun k => .ok (.bool k)) := by
  refine Yl.imp (fun _ _ _ q => ew_of (pe_chain (op_cm (U := U) (Z := Z) hu o) (op_cm (U := U) (Z := Z) hu p) ew ew ew hm) q) ?_
  refine Yl.bind (t := Ew X a) (tb := fun u σ H Q => Ew X b σ H fun w H2 => r2B U X.K Z o.run u w H2 fun z H3 => ∃ k, z = .bl k ∧ (if k = true then Ew X c σ H3 fun w' H4 => r2B U X.K Z p.run w w' H4 Q else Q (.bl false) H3)) ha fun x u H1 _ e1 dx => ?_
  refine Yl.bind (t := Ew X b) (tb := fun w σ H2 Q => r2B U X.K Z o.run u w H2 fun z H3 => ∃ k, z = .bl k ∧ (if k = true then Ew X c σ H3 fun w' H4 => r2B U X.K Z p.run w w' H4 Q else Q (.bl false) H3)) (hb.mono e1) fun y w H2 _ e2 dy => ?_
  refine y_test (tb := fun k σ H3 Q => if k = true then Ew X c σ H3 fun w' H4 => r2B U X.K Z p.run w w' H4 Q else Q (.bl false) H3) hu (dx.mono (ex_view e2 Z)) dy fun k _ => ?_
  cases k with
  | false => exact Yl.ret (R := RE U X.K Z) fun H1 _ => .bl _
  | true => exact Yl.bind (t := Ew X c) (tb := fun w' _ H4 Q => r2B U X.K Z p.run w w' H4 Q) ((hc.mono e1).mono e2) fun z w' H4 _ e4 dz => y_vals (α := D) (dy.mono (ex_view e4 Z)) dz
end
end Rwl

set_option Elab.async false
set_option linter.all false
set_option maxRecDepth 100000
set_option maxHeartbeats 1000000
/-! Rwl, part F: more rules of expressions: arguments, displays, tests, and, or, subscripts, calls. -/
namespace Rwl
open PySem PySem.Spec PyProof.Rows L2 Evl

theorem view_sub (H : Hp) (p : Addr) (Z : List Addr) : Ex (view H (p :: Z)) (view H Z) := fun a o h => by
  unfold view at h ⊢
  split at h
  · cases h
  · rename_i ha
    rw [if_neg (fun z => ha (List.mem_cons_of_mem _ z))]
    exact h
/-! ### what an expression is not -/
def nst : Expr → Bool
  | .Starred _ _ => false
  | _ => true
def nset : Expr → Bool
  | .Set _ _ _ => false
  | _ => true
def nsl : Expr → Bool
  | .Slice _ _ _ _ => false
  | _ => true
def nsup : Expr → Bool
  | .Call _ _ _ _ => false
  | _ => true
/-- whose test is its value's truth -/
def ntest : Expr → Bool
  | .UnaryOp .Not _ _ => false
  | .BoolOp _ _ _ => false
  | .IfExp _ _ _ _ => false
  | .Compare _ _ _ _ => false
  | _ => true
theorem star_cons {e : Expr} {es : List Expr} {env : PySem.Env} (h : nst e = true) : starEach (e :: es) env = (false, eval e env) :: starEach es env := by
  cases e <;> first | rfl | cases h
theorem star_plain {env : PySem.Env} {pos : Pos} : ∀ {es : List Expr}, es.all nst = true → (backTo pos (starEach es env)).any (·.1) = false
  | [], _ => rfl
  | e :: es, h => by
    have h' : nst e = true ∧ es.all nst = true := by simpa using h
    rw [star_cons h'.1]
    exact star_plain h'.2
theorem star_back {e : Expr} {es : List Expr} {env : PySem.Env} {pos : Pos} (h : nst e = true) : backTo pos (starEach (e :: es) env) = (false, eval e env) :: backTo pos (starEach es env) := by
  rw [star_cons h]
  rfl
theorem star_few {env : PySem.Env} {pos : Pos} : ∀ {es : List Expr}, es.all nst = true → (backTo pos (starEach es env)).all (fun x => !x.1) = true
  | [], _ => rfl
  | e :: es, h => by
    have h' : nst e = true ∧ es.all nst = true := by simpa using h
    rw [star_cons h'.1]
    exact star_few h'.2
theorem marks_no {e : Expr} {op : CmpOp} (h : nset e = true) : behindInMarks op e = false := by
  cases e <;> first | rfl | cases h
theorem folded_no {e : Expr} {env : PySem.Env} (h : nset e = true) (x : Value) : foldedSetIterable e env x = pure x := by
  cases e <;> first | rfl | cases h
theorem plain_ix {e : Expr} (h : nsl e = true) (o i : Value) : subscripted e false o i = operate [o, i] (getItem o i) := by
  cases e <;> first | rfl | cases h
theorem attr_base {o : Expr} {f : Str} {env : PySem.Env} {w : Sem Value} (h : nsup o = true) : attributeBase o f env w = w := by
  cases o <;> first | rfl | cases h
theorem test_plain {e : Expr} {env : PySem.Env} (h : ntest e = true) (whole : Sem Value) : isTrue e env whole = (do let v ← whole; standAt e.pos; holding [v] (truthy v)) := by
  cases e with
  | UnaryOp op _ _ => cases op <;> first | rfl | cases h
  | BoolOp _ _ _ => cases h
  | IfExp _ _ _ _ => cases h
  | Compare _ _ _ _ => cases h
  | _ => rfl

section
variable {U : Ux} {W : WX} {X : Cx} {Y Z : List Addr} {σ : L2.St} {H : Hp} {a b c d : Expr} {es : List Expr} {pos : Pos} {ra rb rc rd : Res D} {rl : Res (List D)}
/-! ### arguments, displays -/
theorem y_nil : Yl U W (RL U X.K Z) (Aw X []) σ H (.ok []) :=
  Yl.imp (fun _ _ _ q => aw_of pa_nil q) (Yl.ret (R := RL U X.K Z) (b := []) fun _ _ => .nil)
theorem y_cons (n : nst a = true) (ha : Yl U W (RE U X.K Z) (Ew X a) σ H ra) (hl : Yl U W (RL U X.K Z) (Aw X es) σ H rl) : Yl U W (RL U X.K Z) (Aw X (a :: es)) σ H (ra.bind fun x => rl.bind fun xs => .ok (x :: xs)) := by
  refine Yl.imp (fun _ _ _ q => aw_of (pa_cons ew aw (star_cons n)) q) ?_
  exact Yl.two (t1 := Ew X a) (t2 := Aw X es) (tt := fun x xs H Q => Q (x :: xs) H) re_mono ha hl fun x xs u us H1 e1 dx dxs => Yl.ret (R := RL U X.K Z) fun H2 e2 => .cons (dx.mono (ex_view e2 Z)) (dxs.mono (ex_view e2 Z))
theorem y_tup {k : Nat} (t : Zt Z H) (hl : Yl U W (RL U X.K Z) (Aw X es) σ H rl) : Yl U W (RE U X.K Z) (Ew X (.Tuple es k pos)) σ H (rl.bind fun ds => req (decide (ds.length ≤ lim)) (.ok (.tuple ds))) := by
  refine Yl.imp (fun _ _ _ q => ew_of (pe_tup aw) q) ?_
  refine Yl.one (t1 := Aw X es) (tt := fun xs H1 Q => xs.length ≤ sizeLine ∧ ∀ p, H1 p = none → Q (V.ref p) (upd H1 p (.tup xs))) hl fun ds vs H1 e1 dv => Yl.val (.req (.ok _)) fun z H3 Q hr e3 q => ?_
  obtain ⟨h1, h2⟩ := req_ok hr
  cases ok_inj h2
  exact ⟨by rw [dv.length]; exact lim_line (of_decide_eq_true h1), fun p hp => q _ _ (Ex.new hp) (Dat.newT ((t.mono e1).mono e3) hp (dv.mono (ex_view e3 Z)))⟩

/-! ### fresh lists -/
def FinF (U : Ux) (W : WX) (K : PySem.W.Frag) (Z : List Addr) (σ : L2.St) (H : Hp) (Q : VK) : Res D → Prop
  | .ok (.list ds) => ∀ p xs H', H p = none → Ex H H' → H' p = some (.lst xs) → DatL U K (view H' (p :: Z)) xs ds → Q (.ref p) H'
  | .exc c => ∃ C, U.ec c = some C ∧ ∀ H', Ex H H' → W (.ref C) none σ H'
  | _ => False
def Fr (U : Ux) (W : WX) (K : PySem.W.Frag) (Z : List Addr) (t : TE) (σ : L2.St) (H : Hp) (r : Res D) : Prop := ∀ H1, Ex H H1 → ∀ Q, FinF U W K Z σ H1 Q r → t σ H1 Q
theorem Fr.yl {t : TE} {r : Res D} (z : Zt Z H) (l : ∀ d, r = .ok d → ∃ ds, d = .list ds) (h : Fr U W X.K Z t σ H r) : Yl U W (RE U X.K Z) t σ H r := by
  intro H1 e1 Q q
  refine h H1 e1 Q ?_
  cases r with
  | ok d =>
    obtain ⟨ds, rfl⟩ := l d rfl
    exact fun p xs H2 hp e2 h2 hd => q _ H2 e2 (.lst (by rw [view_out ((z.mono e1).not hp)]; exact h2) (hd.mono (view_sub H2 p Z)))
  | exc c => exact q
  | bad => exact q
theorem Fr.imp {t t' : TE} {r : Res D} (f : ∀ H1 Q, Ex H H1 → t σ H1 Q → t' σ H1 Q) (h : Fr U W X.K Z t σ H r) : Fr U W X.K Z t' σ H r := fun H1 e1 Q q => f H1 Q e1 (h H1 e1 Q q)
theorem FinF.back {H1 H2 : Hp} {Q : VK} {r : Res D} (e : Ex H1 H2) (h : FinF U W X.K Z σ H1 Q r) : FinF U W X.K Z σ H2 Q r := by
  cases r with
  | ok d => cases d with
    | list ds => exact fun p xs H' hp e2 h2 hd => h p xs H' (fresh_back e hp) (e.trans e2) h2 hd
    | _ => exact h
  | exc c => obtain ⟨C, h1, h2⟩ := h; exact ⟨C, h1, fun H' e2 => h2 H' (e.trans e2)⟩
  | bad => exact h
theorem Fr.one {α1 β1 : Type} {t1 : TX β1} {R1 : β1 → α1 → Hp → Prop} {r1 : Res α1} {tt : β1 → Hp → VK → Prop} {f : α1 → Res D}
    (h1 : Yl U W R1 t1 σ H r1) (h : ∀ x u H1 Q, Ex H H1 → R1 u x H1 → FinF U W X.K Z σ H1 Q (f x) → tt u H1 Q) : Fr U W X.K Z (fun σ H Q => t1 σ H fun u H1 => tt u H1 Q) σ H (r1.bind f) := by
  intro H1 e1 Q q
  refine h1 H1 e1 _ ?_
  cases r1 with
  | ok x => exact fun u H2 e2 d => h x u H2 Q (e1.trans e2) d (FinF.back (X := X) e2 q)
  | exc c => exact q
  | bad => exact q
theorem f_lst (t : Zt Z H) (hl : Yl U W (RL U X.K Z) (Aw X es) σ H rl) : Fr U W X.K Z (Ew X (.List es pos)) σ H (rl.bind fun ds => req (decide (ds.length ≤ lim)) (.ok (.list ds))) := by
  refine Fr.imp (X := X) (fun _ _ _ q => ew_of (pe_lst aw) q) ?_
  refine Fr.one (X := X) (t1 := Aw X es) (tt := fun xs H1 Q => xs.length ≤ sizeLine ∧ ∀ p, H1 p = none → Q (V.ref p) (upd H1 p (.lst xs))) hl fun ds vs H1 Q e1 dv q => ?_
  cases h1 : decide (ds.length ≤ lim) with
  | true =>
    rw [h1] at q
    exact ⟨by rw [dv.length]; exact lim_line (of_decide_eq_true h1), fun p hp => q p vs _ hp (Ex.new hp) upd_same (dv.mono (ex_view_cons (Ex.new hp) hp))⟩
  | false => rw [h1] at q; exact (show False from q).elim
theorem y_lst (t : Zt Z H) (hl : Yl U W (RL U X.K Z) (Aw X es) σ H rl) : Yl U W (RE U X.K Z) (Ew X (.List es pos)) σ H (rl.bind fun ds => req (decide (ds.length ≤ lim)) (.ok (.list ds))) := by
  refine Fr.yl t (fun d h => ?_) (f_lst t hl)
  obtain ⟨ds, _, h⟩ := bind_ok_inv h
  exact ⟨ds, (ok_inj (req_ok h).2).symm⟩

/-! ### truth, tests -/
theorem y_T (n : ntest a = true) (ha : Yl U W (RC U X.K Z) (Ew X a) σ H ra) : Yl U W RQ (Tw X a) σ H (ra.bind tru) := by
  refine Yl.imp (t := fun σ H Q => Ew X a σ H fun x H' => ∃ k, TruV X.K x H' k ∧ Q k H') (fun _ _ _ q => tw_of (pt_truth ew (test_plain n)) q) ?_
  exact Yl.one (t1 := Ew X a) (tt := fun x H' Q => ∃ k, TruV X.K x H' k ∧ Q k H') ha fun x u H1 e1 dx => Yl.val (nox_tru x) fun k H3 Q hr e3 q => ⟨k, Con.truV (Z := Z) (Con.mono e3 dx) hr, q _ _ (Ex.refl _) rfl⟩
/-- a truth that is told, as a test -/
theorem y_tB {t : TE} {r : Res D} (h : Yl U W (RE U X.K Z) t σ H r) (n : ∀ d, r = .ok d → ∃ k, d = .bool k) : Yl U W RQ (tTest t) σ H (r.bind tru) := by
  intro H1 e1 Q q
  refine h H1 e1 _ ?_
  cases r with
  | ok d =>
    obtain ⟨k, rfl⟩ := n d rfl
    exact fun v H2 e2 dv => ⟨k, dv.bool_inv, q k H2 e2 rfl⟩
  | exc c => exact q
  | bad => exact q
theorem y_notT {r : Res Bool} (ha : Yl U W RQ (Tw X a) σ H r) : Yl U W RQ (Tw X (.UnaryOp .Not a pos)) σ H (r.bind fun k => .ok !k) := by
  refine Yl.imp (fun _ _ _ q => tw_of (pt_not tw) q) ?_
  refine Yl.one (t1 := Tw X a) (tt := fun c H1 Q => Q (!c) H1) ha fun x u H1 e1 dx => ?_
  cases dx
  exact Yl.ret (R := RQ) fun _ _ => rfl
theorem y_and1T {r : Res Bool} (ha : Yl U W RQ (Tw X a) σ H r) : Yl U W RQ (Tw X (.BoolOp .And [a] pos)) σ H r :=
  Yl.imp (fun _ _ _ q => tw_of (PW.pt (pw_and1 tw)) q) ha
theorem y_or1T {r : Res Bool} (ha : Yl U W RQ (Tw X a) σ H r) : Yl U W RQ (Tw X (.BoolOp .Or [a] pos)) σ H r :=
  Yl.imp (fun _ _ _ q => tw_of (PW.pt (pw_or1 tw)) q) ha
/-- the test of a BoolOp does not look at its value -/
def Bw (X : Cx) (e : Expr) : TT := fun σ H Q => ∀ whole pins s, L2.Inv X pins σ H s → wpAny (model X.prog X.w) X.A (isTrue e X.env whole) (TP X pins σ Q) X.xe s
theorem bw : PW X a (Bw X a) := ⟨fun whole pins s _ _ _ I h => h whole pins s I⟩
theorem bw_of {t : TT} {Q : Bool → Hp → Prop} (p : PW X a t) (h : t σ H Q) : Bw X a σ H Q := fun whole pins s I => p.run whole pins s σ H Q I h
theorem y_bw {r : Res Bool} (h : Yl U W RQ (Bw X a) σ H r) : Yl U W RQ (Tw X a) σ H r := Yl.imp (fun _ _ _ q => tw_of (PW.pt bw) q) h
theorem y_and1B {r : Res Bool} (ha : Yl U W RQ (Tw X a) σ H r) : Yl U W RQ (Bw X (.BoolOp .And [a] pos)) σ H r :=
  Yl.imp (fun _ _ _ q => bw_of (pw_and1 tw) q) ha
theorem y_or1B {r : Res Bool} (ha : Yl U W RQ (Tw X a) σ H r) : Yl U W RQ (Bw X (.BoolOp .Or [a] pos)) σ H r :=
  Yl.imp (fun _ _ _ q => bw_of (pw_or1 tw) q) ha
theorem y_andB {r r' : Res Bool} (ha : Yl U W RQ (Tw X a) σ H r) (hb : Yl U W RQ (Bw X (.BoolOp .And (b :: es) pos)) σ H r') : Yl U W RQ (Bw X (.BoolOp .And (a :: b :: es) pos)) σ H (r.bind fun k => match k with
    | true => r'
    | false => .ok false) := by
  refine Yl.imp (fun _ _ _ q => bw_of (pw_and tw bw) q) ?_
  refine Yl.bind (t := Tw X a) (tb := fun c σ H1 Q => if c = true then Bw X (.BoolOp .And (b :: es) pos) σ H1 Q else Q false H1) ha fun x u H1 _ e1 dx => ?_
  cases dx
  cases x with
  | true => exact hb.mono e1
  | false => exact Yl.ret (R := RQ) fun _ _ => rfl
theorem y_orB {r r' : Res Bool} (ha : Yl U W RQ (Tw X a) σ H r) (hb : Yl U W RQ (Bw X (.BoolOp .Or (b :: es) pos)) σ H r') : Yl U W RQ (Bw X (.BoolOp .Or (a :: b :: es) pos)) σ H (r.bind fun k => match k with
    | true => .ok true
    | false => r') := by
  refine Yl.imp (fun _ _ _ q => bw_of (pw_or tw bw) q) ?_
  refine Yl.bind (t := Tw X a) (tb := fun c σ H1 Q => if c = true then Q true H1 else Bw X (.BoolOp .Or (b :: es) pos) σ H1 Q) ha fun x u H1 _ e1 dx => ?_
  cases dx
  cases x with
  | true => exact Yl.ret (R := RQ) fun _ _ => rfl
  | false => exact hb.mono e1
/-- as values -/
theorem y_one {op : BoolOp} (ha : Yl U W (RE U X.K Z) (Ew X a) σ H ra) : Yl U W (RE U X.K Z) (Ew X (.BoolOp op [a] pos)) σ H ra :=
  Yl.imp (fun _ _ _ q => ew_of (pe_one ew) q) ha
theorem y_and (ha : Yl U W (RE U X.K Z) (Ew X a) σ H ra) (hb : Yl U W (RE U X.K Z) (Ew X (.BoolOp .And (b :: es) pos)) σ H rb) : Yl U W (RE U X.K Z) (Ew X (.BoolOp .And (a :: b :: es) pos)) σ H (ra.bind fun x => (tru x).bind fun k => match k with
    | true => rb
    | false => .ok x) := by
  refine Yl.imp (fun _ _ _ q => ew_of (pe_andT ew ew) q) ?_
  refine Yl.bind (t := Ew X a) (tb := fun x σ H1 Q => ∃ k, TruV X.K x H1 k ∧ if k = true then Ew X (.BoolOp .And (b :: es) pos) σ H1 Q else Q x H1) ha fun x u H1 _ e1 dx => ?_
  intro H2 e2 Q q
  cases hr : tru x with
  | ok k =>
    rw [hr] at q
    refine ⟨k, Con.truV (Z := Z) (.inl (dx.mono (ex_view e2 Z))) hr, ?_⟩
    cases k with
    | true => exact hb _ (e1.trans e2) Q q
    | false => exact q u H2 (Ex.refl _) (dx.mono (ex_view e2 Z))
  | exc c => exact absurd hr (nox_tru x c)
  | bad => rw [hr] at q; exact (show False from q).elim
theorem y_or (ha : Yl U W (RE U X.K Z) (Ew X a) σ H ra) (hb : Yl U W (RE U X.K Z) (Ew X (.BoolOp .Or (b :: es) pos)) σ H rb) : Yl U W (RE U X.K Z) (Ew X (.BoolOp .Or (a :: b :: es) pos)) σ H (ra.bind fun x => (tru x).bind fun k => match k with
    | true => .ok x
    | false => rb) := by
  refine Yl.imp (fun _ _ _ q => ew_of (pe_orT ew ew) q) ?_
  refine Yl.bind (t := Ew X a) (tb := fun x σ H1 Q => ∃ k, TruV X.K x H1 k ∧ if k = true then Q x H1 else Ew X (.BoolOp .Or (b :: es) pos) σ H1 Q) ha fun x u H1 _ e1 dx => ?_
  intro H2 e2 Q q
  cases hr : tru x with
  | ok k =>
    rw [hr] at q
    refine ⟨k, Con.truV (Z := Z) (.inl (dx.mono (ex_view e2 Z))) hr, ?_⟩
    cases k with
    | true => exact q u H2 (Ex.refl _) (dx.mono (ex_view e2 Z))
    | false => exact hb _ (e1.trans e2) Q q
  | exc c => exact absurd hr (nox_tru x c)
  | bad => rw [hr] at q; exact (show False from q).elim
theorem y_ite {r : Res Bool} (hc : Yl U W RQ (Tw X c) σ H r) (ha : Yl U W (RE U X.K Z) (Ew X a) σ H ra) (hb : Yl U W (RE U X.K Z) (Ew X b) σ H rb) : Yl U W (RE U X.K Z) (Ew X (.IfExp c a b pos)) σ H (r.bind fun k => match k with
    | true => ra
    | false => rb) := by
  refine Yl.imp (fun _ _ _ q => ew_of (pe_ifExp tw ew ew) q) ?_
  refine Yl.bind (t := Tw X c) (tb := fun k σ H1 Q => if k = true then Ew X a σ H1 Q else Ew X b σ H1 Q) hc fun x u H1 _ e1 dx => ?_
  cases dx
  cases x with
  | true => exact ha.mono e1
  | false => exact hb.mono e1

/-! ### chains -/
theorem tw_chain2 {r r' : R2} {o p : CmpOp} {Q : Bool → Hp → Prop} (ho : OpR X (compareOp o) r) (hp : OpR X (compareOp p) r') (hm : lastMarks [o, p] [b, c] = false) (h : tTest (tChain r r' (Ew X a) (Ew X b) (Ew X c)) σ H Q) : Tw X (.Compare a [o, p] [b, c] pos) σ H Q :=
  tw_of (pt_chain ho hp ew ew ew hm) h
/-- a op b op c op d -/
def tCh3 (r r' r'' : R2) (ta tb tc td : TE) : TE := fun σ H Q => ta σ H fun x H1 => tb σ H1 fun y H2 => r x y H2 fun z H3 => ∃ k, z = .bl k ∧
  (if k = true then tc σ H3 fun w' H4 => r' y w' H4 fun z' H5 => ∃ k', z' = .bl k' ∧ (if k' = true then td σ H5 fun v' H6 => r'' w' v' H6 Q else Q (.bl false) H5) else Q (.bl false) H3)
theorem pe_ch3 {op op' op'' : CmpOp} {r r' r'' : R2} {ta tb tc td : TE} (ho : OpR X (compareOp op) r) (ho' : OpR X (compareOp op') r') (ho'' : OpR X (compareOp op'') r'') (ha : PE X a ta) (hb : PE X b tb) (hc : PE X c tc) (hd : PE X d td)
    (hm : lastMarks [op, op', op''] [b, c, d] = false) : PE X (.Compare a [op, op', op''] [b, c, d] pos) (tCh3 r r' r'' ta tb tc td) := by
  refine ⟨fun pins s σ H Q I h => ?_⟩
  refine Compare_chain (thn (ha.run pins s σ H _ I h) fun v s1 ⟨x, H1, I1, r1, q1⟩ => chain_link (thn (hb.run pins s1 σ H1 _ I1 q1) fun u s2 ⟨y, H2, I2, r2, q2⟩ =>
    thn (ho pins s2 σ H2 x y v u _ I2 r1 r2 q2) fun d s3 ⟨z, H3, I3, r3, k, e, q3⟩ => ?_)) hm
  subst e
  cases r3
  refine wpAny_truthy_bool ?_
  cases k with
  | false => exact ite_ff ⟨.bl false, H3, I3, rfl, q3⟩
  | true =>
    refine ite_tt (chain_link (thn (hc.run pins s3 σ H3 _ I3 q3) fun w' s4 ⟨z', H4, I4, r4, q4⟩ => thn (ho' pins s4 σ H4 y z' u w' _ I4 r2 r4 q4) fun d2 s5 ⟨z2, H5, I5, r5, k2, e2, q5⟩ => ?_))
    subst e2
    cases r5
    refine wpAny_truthy_bool ?_
    cases k2 with
    | false => exact ite_ff ⟨.bl false, H5, I5, rfl, q5⟩
    | true => exact ite_tt (chain_last (thn (hd.run pins s5 σ H5 _ I5 q5) fun w3 s6 ⟨z3, H6, I6, r6, q6⟩ => ho'' pins s6 σ H6 z' z3 w' w3 Q I6 r4 r6 q6))
theorem pt_ch3 {op op' op'' : CmpOp} {r r' r'' : R2} {ta tb tc td : TE} (ho : OpR X (compareOp op) r) (ho' : OpR X (compareOp op') r') (ho'' : OpR X (compareOp op'') r'') (ha : PE X a ta) (hb : PE X b tb) (hc : PE X c tc) (hd : PE X d td)
    (hm : lastMarks [op, op', op''] [b, c, d] = false) : PT X (.Compare a [op, op', op''] [b, c, d] pos) (tTest (tCh3 r r' r'' ta tb tc td)) := by
  refine ⟨fun pins s σ H Q I h => ?_⟩
  refine isTrue_chain (thn (ha.run pins s σ H _ I h) fun v s1 ⟨x, H1, I1, r1, q1⟩ => test_link (thn (hb.run pins s1 σ H1 _ I1 q1) fun u s2 ⟨y, H2, I2, r2, q2⟩ =>
    thn (ho pins s2 σ H2 x y v u _ I2 r1 r2 q2) fun d s3 ⟨z, H3, I3, r3, k, e, q3⟩ => ?_)) hm
  subst e
  cases r3
  refine wpAny_truthy_bool ?_
  cases k with
  | false =>
    obtain ⟨k', e', q'⟩ := q3
    cases e'
    exact ite_ff ⟨H3, I3, q'⟩
  | true =>
    refine ite_tt (test_link (thn (hc.run pins s3 σ H3 _ I3 q3) fun w' s4 ⟨z', H4, I4, r4, q4⟩ => thn (ho' pins s4 σ H4 y z' u w' _ I4 r2 r4 q4) fun d2 s5 ⟨z2, H5, I5, r5, k2, e2, q5⟩ => ?_))
    subst e2
    cases r5
    refine wpAny_truthy_bool ?_
    cases k2 with
    | false =>
      obtain ⟨k', e', q'⟩ := q5
      cases e'
      exact ite_ff ⟨H5, I5, q'⟩
    | true =>
      refine ite_tt (test_last (thn (hd.run pins s5 σ H5 _ I5 q5) fun w3 s6 ⟨z3, H6, I6, r6, q6⟩ => thn (ho'' pins s6 σ H6 z' z3 w' w3 _ I6 r4 r6 q6) fun d4 s7 ⟨z4, H7, I7, r7, k4, e4, q7⟩ => ?_))
      subst e4
      cases r7
      exact wpAny_truthy_bool ⟨H7, I7, q7⟩
/-- the readings of the chains -/
theorem yt_ch2 (hu : X.A.units + 64 < cLine) (o p : Cm) (ha : Yl U W (RE U X.K Z) (Ew X a) σ H ra) (hb : Yl U W (RE U X.K Z) (Ew X b) σ H rb) (hc : Yl U W (RE U X.K Z) (Ew X c) σ H rc) :
    Yl U W (RE U X.K Z) (tChain (r2B U X.K Z o.run) (r2B U X.K Z p.run) (Ew X a) (Ew X b) (Ew X c)) σ H (ra.bind fun x => rb.bind fun y => (o.run x y).bind fun k => match k with
      | false => .ok (.bool false)
      | true => rc.bind fun z => (p.run y z).bind fun k => .ok (.bool k)) := by
  refine Yl.bind (t := Ew X a) (tb := fun u σ H Q => Ew X b σ H fun w H2 => r2B U X.K Z o.run u w H2 fun z H3 => ∃ k, z = .bl k ∧ (if k = true then Ew X c σ H3 fun w' H4 => r2B U X.K Z p.run w w' H4 Q else Q (.bl false) H3)) ha fun x u H1 _ e1 dx => ?_
  refine Yl.bind (t := Ew X b) (tb := fun w σ H2 Q => r2B U X.K Z o.run u w H2 fun z H3 => ∃ k, z = .bl k ∧ (if k = true then Ew X c σ H3 fun w' H4 => r2B U X.K Z p.run w w' H4 Q else Q (.bl false) H3)) (hb.mono e1) fun y w H2 _ e2 dy => ?_
  refine y_test (tb := fun k σ H3 Q => if k = true then Ew X c σ H3 fun w' H4 => r2B U X.K Z p.run w w' H4 Q else Q (.bl false) H3) hu (dx.mono (ex_view e2 Z)) dy fun k _ => ?_
  cases k with
  | false => exact Yl.ret (R := RE U X.K Z) fun H1 _ => .bl _
  | true => exact Yl.bind (t := Ew X c) (tb := fun w' _ H4 Q => r2B U X.K Z p.run w w' H4 Q) ((hc.mono e1).mono e2) fun z w' H4 _ e4 dz => y_vals (α := D) (dy.mono (ex_view e4 Z)) dz
theorem yt_ch3 (hu : X.A.units + 64 < cLine) (o p q : Cm) (ha : Yl U W (RE U X.K Z) (Ew X a) σ H ra) (hb : Yl U W (RE U X.K Z) (Ew X b) σ H rb) (hc : Yl U W (RE U X.K Z) (Ew X c) σ H rc) (hd : Yl U W (RE U X.K Z) (Ew X d) σ H rd) :
    Yl U W (RE U X.K Z) (tCh3 (r2B U X.K Z o.run) (r2B U X.K Z p.run) (r2B U X.K Z q.run) (Ew X a) (Ew X b) (Ew X c) (Ew X d)) σ H (ra.bind fun x => rb.bind fun y => (o.run x y).bind fun k => match k with
      | false => .ok (.bool false)
      | true => rc.bind fun z => (p.run y z).bind fun k => match k with
        | false => .ok (.bool false)
        | true => rd.bind fun w => (q.run z w).bind fun k => .ok (.bool k)) := by
  refine Yl.bind (t := Ew X a) (tb := fun u σ H Q => Ew X b σ H fun w H2 => r2B U X.K Z o.run u w H2 fun z H3 => ∃ k, z = .bl k ∧ (if k = true then Ew X c σ H3 fun w' H4 => r2B U X.K Z p.run w w' H4 fun z' H5 => ∃ k', z' = .bl k' ∧ (if k' = true then Ew X d σ H5 fun v' H6 => r2B U X.K Z q.run w' v' H6 Q else Q (.bl false) H5) else Q (.bl false) H3)) ha fun x u H1 _ e1 dx => ?_
  refine Yl.bind (t := Ew X b) (tb := fun w σ H2 Q => r2B U X.K Z o.run u w H2 fun z H3 => ∃ k, z = .bl k ∧ (if k = true then Ew X c σ H3 fun w' H4 => r2B U X.K Z p.run w w' H4 fun z' H5 => ∃ k', z' = .bl k' ∧ (if k' = true then Ew X d σ H5 fun v' H6 => r2B U X.K Z q.run w' v' H6 Q else Q (.bl false) H5) else Q (.bl false) H3)) (hb.mono e1) fun y w H2 _ e2 dy => ?_
  refine y_test (tb := fun k σ H3 Q => if k = true then Ew X c σ H3 fun w' H4 => r2B U X.K Z p.run w w' H4 fun z' H5 => ∃ k', z' = .bl k' ∧ (if k' = true then Ew X d σ H5 fun v' H6 => r2B U X.K Z q.run w' v' H6 Q else Q (.bl false) H5) else Q (.bl false) H3) hu (dx.mono (ex_view e2 Z)) dy fun k _ => ?_
  cases k with
  | false => exact Yl.ret (R := RE U X.K Z) fun H1 _ => .bl _
  | true =>
    refine Yl.bind (t := Ew X c) (tb := fun w' σ H4 Q => r2B U X.K Z p.run w w' H4 fun z' H5 => ∃ k', z' = .bl k' ∧ (if k' = true then Ew X d σ H5 fun v' H6 => r2B U X.K Z q.run w' v' H6 Q else Q (.bl false) H5)) ((hc.mono e1).mono e2) fun z w' H4 _ e4 dz => ?_
    refine y_test (tb := fun k' σ H5 Q => if k' = true then Ew X d σ H5 fun v' H6 => r2B U X.K Z q.run w' v' H6 Q else Q (.bl false) H5) hu (dy.mono (ex_view e4 Z)) dz fun k _ => ?_
    cases k with
    | false => exact Yl.ret (R := RE U X.K Z) fun H1 _ => .bl _
    | true => exact Yl.bind (t := Ew X d) (tb := fun v' _ H6 Q => r2B U X.K Z q.run w' v' H6 Q) (((hd.mono e1).mono e2).mono e4) fun w2 v' H6 _ e6 dw => y_vals (α := D) (dz.mono (ex_view e6 Z)) dw

/-! ### subscripts, slices -/
theorem y_ix (hu : X.A.units + 64 < cLine) (hnd : U.nd = NDict X.prog X.w) (n : nsl b = true) (ha : Yl U W (RC U X.K Z) (Ew X a) σ H ra) (hb : Yl U W (RE U X.K Z) (Ew X b) σ H rb) : Yl U W (RE U X.K Z) (Ew X (.Subscript a b pos)) σ H (ra.bind fun x => rb.bind fun y => ixD x y) := by
  refine Yl.imp (fun _ _ _ q => ew_of (pe_ix (ix_D (U := U) (Z := Z) hu hnd) ew ew (plain_ix n)) q) ?_
  exact Yl.two (t1 := Ew X a) (t2 := Ew X b) (tt := rCD U X.K Z ixD) rc_mono ha hb fun x y u w H1 e1 dx dy => Yl.val (nox_ix x y) fun z H3 Q hr e3 q => ⟨x, y, z, Con.mono e3 dx, dy.mono (ex_view e3 Z), hr, q⟩
/-- a slice's bound -/
theorem y_O0 : Yl U W RQ (Ow X none) σ H (.ok none) := Yl.imp (fun _ _ _ q => ow_of po_none q) (Yl.ret (R := RQ) (b := none) fun _ _ => rfl)
theorem y_O1 (ha : Yl U W (RE U X.K Z) (Ew X a) σ H ra) : Yl U W RQ (Ow X (some a)) σ H (ra.bind fun x => (asInt x).bind fun i => .ok (some i)) := by
  refine Yl.imp (fun _ _ _ q => ow_of (po_some ew) q) ?_
  refine Yl.one (t1 := Ew X a) (tt := fun x H1 Q => ∃ i, x = .int i ∧ Q (some i) H1) ha fun x u H1 e1 dx => Yl.val (.bind (nox_int x) fun _ => .ok _) fun z H3 Q hr e3 q => ?_
  obtain ⟨i, h1, h2⟩ := bind_ok_inv hr
  cases ok_inj h2
  cases x with
  | int j =>
    cases ok_inj h1
    exact ⟨_, dx.int_inv, q _ _ (Ex.refl _) rfl⟩
  | _ => cases h1
theorem y_sl {lo hi : Option Expr} {p2 : Pos} {r1 r2 : Res (Option Int)} (t : Zt Z H) (ha : Yl U W (RC U X.K Z) (Ew X a) σ H ra) (h1 : Yl U W RQ (Ow X lo) σ H r1) (h2 : Yl U W RQ (Ow X hi) σ H r2) :
    Yl U W (RE U X.K Z) (Ew X (.Subscript a (.Slice lo hi none p2) pos)) σ H (ra.bind fun x => r1.bind fun l => r2.bind fun h => slD l h x) := by
  refine Yl.imp (fun _ _ _ q => ew_of (pe_slice (sl_D (U := U) (Z := Z)) ew ow ow) q) ?_
  refine Yl.bind (t := Ew X a) (tb := fun x σ H1 Q => Ow X lo σ H1 fun l H2 => Ow X hi σ H2 fun u H3 => rSlD U X.K Z x l u H3 Q) ha fun x u H1 _ e1 dx => ?_
  refine Yl.two (t1 := Ow X lo) (t2 := Ow X hi) (tt := fun l h H Q => rSlD U X.K Z u l h H Q) (fun _ _ _ _ _ r => r) (h1.mono e1) (h2.mono e1) fun l h l' h' H2 e2 el eh => ?_
  cases el
  cases eh
  exact Yl.val (nox_sl l h x) fun z H3 Q hr e3 q => ⟨((t.mono e1).mono e2).mono e3, x, z, Con.mono e3 (Con.mono e2 dx), hr, q⟩
theorem y_rev {k : Nat} {p1 p2 p3 : Pos} (t : Zt Z H) (ha : Yl U W (RC U X.K Z) (Ew X a) σ H ra) : Yl U W (RE U X.K Z) (Ew X (.Subscript a (.Slice none none (some (.UnaryOp .USub (.Constant (.int 1) k p1) p2)) p3) pos)) σ H (ra.bind revD) := by
  refine Yl.imp (fun _ _ _ q => ew_of (pe_revL ew) q) ?_
  refine Yl.one (t1 := Ew X a) (tt := fun x H1 Q => ∃ a xs, x = .ref a ∧ SqL X.K H1 a xs ∧ ∀ p, H1 p = none → Q (V.ref p) (upd H1 p (.lst xs.reverse))) ha fun x u H1 e1 dx => Yl.val (nox_rev x) fun z H3 Q hr e3 q => ?_
  cases x with
  | list ds =>
    cases ok_inj hr
    obtain ⟨p, xs, rfl, h1, h2⟩ := (Con.mono e3 dx).list
    exact ⟨p, xs, rfl, SqL.of h1, fun p hp => q _ _ (Ex.new hp) (Dat.newL ((t.mono e1).mono e3) hp h2.reverse)⟩
  | _ => cases hr
/-- a dict of the def's own is read -/
theorem datK_find {K : PySem.W.Frag} {H : Hp} {k : Int} {d : D} {vs : List (Key × V)} {kvs : List (Int × D)} (h : DatK U K H vs kvs) : klook kvs k = some d → ∃ v, valV vs (.inl k) = some v ∧ Dat U K H v d := by
  induction h with
  | nil => intro q; simp [klook] at q
  | @cons j v e vs ds h hs ih =>
    intro q
    by_cases hj : j = k
    · subst hj
      have q' : e = d := by simpa [klook, List.find?_cons] using q
      subst q'
      exact ⟨v, by simp [valV, List.find?_cons], h⟩
    · have q' : klook ds k = some d := by simpa [klook, List.find?_cons, hj] using q
      obtain ⟨w, h1, h2⟩ := ih q'
      refine ⟨w, ?_, h2⟩
      have hn : ¬ (Sum.inl j : Key) = Sum.inl k := fun e => hj (Sum.inl.inj e)
      rw [valV_neg (p := (Sum.inl j, v)) hn]
      exact h1
theorem y_dget {i : Nat} {env : Env} {kvs : List (Int × D)} (hu : X.A.units + 64 < cLine) (n : nsl b = true) (pa : PE X a (tVar i)) (h : EnvOk U X.K Y Z H σ env) (hi : env.get i = .dct kvs) (hb : Yl U W (RE U X.K Z) (Ew X b) σ H rb) :
    Yl U W (RE U X.K Z) (Ew X (.Subscript a b pos)) σ H (rb.bind fun y => (asInt y).bind fun k => ofO (klook kvs k)) := by
  refine Yl.imp (fun _ _ _ q => ew_of (pe_dget (by omega) pa ew (plain_ix n)) q) ?_
  intro H1 e1 Q q
  obtain ⟨ow, r⟩ := (h.mono e1).get i
  rw [hi] at r
  obtain ⟨p, vs, h1, h2, h3, h4⟩ := r
  refine ⟨_, h1, ?_⟩
  refine hb H1 e1 _ ?_
  cases rb with
  | ok y =>
    intro w H2 e2 dy
    have q2 := FinG.mono e2 (show FinG U W σ (RE U X.K Z) H1 Q ((asInt y).bind fun k => ofO (klook kvs k)) from q)
    cases y with
    | int k =>
      cases dy.int_inv
      cases hk : klook kvs k with
      | none => rw [show ((asInt (.int k)).bind fun k => ofO (klook kvs k)) = .bad by show ofO (klook kvs k) = _; rw [hk]; rfl] at q2; exact (show False from q2).elim
      | some d =>
        rw [show ((asInt (.int k)).bind fun k => ofO (klook kvs k)) = .ok d by show ofO (klook kvs k) = _; rw [hk]; rfl] at q2
        obtain ⟨v, hv, hd⟩ := datK_find (h4.mono (ex_view e2 Z)) hk
        exact ⟨p, v, rfl, by have g := DGet.k (k := .inl k) (e2 _ _ h3); rw [hv] at g; exact g, q2 v H2 (Ex.refl _) hd⟩
    | _ => exact (show False from q2).elim
  | exc c => exact q
  | bad => exact q
end
end Rwl

set_option Elab.async false
set_option linter.all false
set_option maxRecDepth 100000
set_option maxHeartbeats 1000000
/-! Rwl, part G: calls, what is walked, comprehensions. -/
namespace Rwl
open PySem PySem.Spec PyProof.Rows L2 Evl

/-! ### promises -/
/-- a def's promise: from the data ds the function f's value, or its exception. Z: what the caller hides -/
def spD (U : Ux) (K : PySem.W.Frag) (n : Nat) (f : List D → Res D) : Sp := fun vs H Q E => vs.length = n ∧ ∃ Z ds, Zt Z H ∧ DatL U K (view H Z) vs ds ∧ match f ds with
  | .ok d => ∀ v H', Ex H H' → Dat U K (view H' Z) v d → Q v H'
  | .exc c => ∃ C, U.ec c = some C ∧ ∀ H', Ex H H' → E (.ref C) none H'
  | .bad => False
/-- the def named x, of n parameters, is f -/
def FOk (U : Ux) (X : Cx) (x : Str) (n : Nat) (f : List D → Res D) : Prop :=
  ∃ (k : Nat) (fa : Addr) (fd : FuncData) (ps : List Str), Room k X.A ∧ X.mg x = some (.ref fa) ∧ PySem.W.keepIn X.K (.ref fa) = true ∧ Binds X.K fd ps [] ∧ FnOk X.prog X.w X.K X.mg X.base (L2.CX X.prog X.w) k fa fd ps (spD U X.K n f)
/-- the name of a built-in function -/
def Bi.name : Bi → Str
  | .len => "len"
  | .abs => "abs"
  | .sum => "sum"
  | .max => "max"
  | .min => "min"
  | .max2 => "max"
  | .min2 => "min"
  | .sorted => "sorted"
  | .list => "list"
  | .int => "int"
  | .str => "str"
  | .all => "all"
  | .any => "any"
  | .tuple => "tuple"
section
variable {U : Ux} {W : WX} {X : Cx} {Y Z : List Addr} {σ : L2.St} {H : Hp} {a b c d : Expr} {es : List Expr} {p pos : Pos} {ra rb rc rd : Res D} {rl : Res (List D)}
theorem y_callB {id : String} {x : Str} {g : List D → Res D} (hc : CallR X (.builtin id) (rBi U X.K Z g)) (nx : ∀ ds, Nox (g ds)) (hg : Gl X x) (hm : X.mg x = none) (hv : bootBuiltins x = some (.builtin id)) (hn : x ≠ "__name__") (hdb : (x == ("__debug__" : Str)) = false)
    (t : Zt Z H) (n : (a :: es).all nst = true) (hl : Yl U W (RL U X.K Z) (Aw X (a :: es)) σ H rl) : Yl U W (RE U X.K Z) (Ew X (.Call (.Name x p) (a :: es) [] pos)) σ H (rl.bind g) := by
  have n' : nst a = true ∧ es.all nst = true := by simpa using n
  refine Yl.imp (fun _ _ _ q => ew_of (pe_callB hc hg hm hv aw hn hdb (star_cons n'.1) (star_plain n'.2)) q) ?_
  exact Yl.one (t1 := Aw X (a :: es)) (tt := rBi U X.K Z g) hl fun ds vs H1 e1 dv => Yl.val (nx ds) fun z H3 Q hr e3 q => ⟨(t.mono e1).mono e3, ds, z, dv.mono (ex_view e3 Z), hr, q⟩
theorem y_callTy {T : String} {x : Str} {g : List D → Res D} (hc : CallR X (.type T) (rBi U X.K Z g)) (nx : ∀ ds, Nox (g ds)) (hg : Gl X x) (hm : X.mg x = none) (hv : bootBuiltins x = some (.type T)) (hn : x ≠ "__name__") (hdb : (x == ("__debug__" : Str)) = false)
    (t : Zt Z H) (n : (a :: es).all nst = true) (hl : Yl U W (RL U X.K Z) (Aw X (a :: es)) σ H rl) : Yl U W (RE U X.K Z) (Ew X (.Call (.Name x p) (a :: es) [] pos)) σ H (rl.bind g) := by
  have n' : nst a = true ∧ es.all nst = true := by simpa using n
  refine Yl.imp (fun _ _ _ q => ew_of (pe_callTy hc hg hm hv aw hn hdb (star_cons n'.1) (star_plain n'.2)) q) ?_
  exact Yl.one (t1 := Aw X (a :: es)) (tt := rBi U X.K Z g) hl fun ds vs H1 e1 dv => Yl.val (nx ds) fun z H3 Q hr e3 q => ⟨(t.mono e1).mono e3, ds, z, dv.mono (ex_view e3 Z), hr, q⟩
theorem y_bi (k : Bi) (hc : X.calm = true) (hg : Gl X k.name) (hm : X.mg k.name = none) (t : Zt Z H) (n : (a :: es).all nst = true) (hl : Yl U W (RL U X.K Z) (Aw X (a :: es)) σ H rl) : Yl U W (RE U X.K Z) (Ew X (.Call (.Name k.name p) (a :: es) [] pos)) σ H (rl.bind (bi k)) := by
  cases k with
  | len => exact y_callB (call_bi hc .len) (nox_bi _) hg hm (by decide +kernel) (by decide +kernel) (by decide +kernel) t n hl
  | abs => exact y_callB (call_bi hc .abs) (nox_bi _) hg hm (by decide +kernel) (by decide +kernel) (by decide +kernel) t n hl
  | sum => exact y_callB (call_bi hc .sum) (nox_bi _) hg hm (by decide +kernel) (by decide +kernel) (by decide +kernel) t n hl
  | max => exact y_callB (call_bi hc .max) (nox_bi _) hg hm (by decide +kernel) (by decide +kernel) (by decide +kernel) t n hl
  | min => exact y_callB (call_bi hc .min) (nox_bi _) hg hm (by decide +kernel) (by decide +kernel) (by decide +kernel) t n hl
  | max2 => exact y_callB (call_bi hc .max2) (nox_bi _) hg hm (by decide +kernel) (by decide +kernel) (by decide +kernel) t n hl
  | min2 => exact y_callB (call_bi hc .min2) (nox_bi _) hg hm (by decide +kernel) (by decide +kernel) (by decide +kernel) t n hl
  | sorted => exact y_callB (call_bi hc .sorted) (nox_bi _) hg hm (by decide +kernel) (by decide +kernel) (by decide +kernel) t n hl
  | list => exact y_callTy (call_bi hc .list) (nox_bi _) hg hm (by decide +kernel) (by decide +kernel) (by decide +kernel) t n hl
  | int => exact y_callTy (call_bi hc .int) (nox_bi _) hg hm (by decide +kernel) (by decide +kernel) (by decide +kernel) t n hl
  | str => exact y_callTy (call_bi hc .str) (nox_bi _) hg hm (by decide +kernel) (by decide +kernel) (by decide +kernel) t n hl
  | all => exact y_callB (call_bi hc .all) (nox_bi _) hg hm (by decide +kernel) (by decide +kernel) (by decide +kernel) t n hl
  | any => exact y_callB (call_bi hc .any) (nox_bi _) hg hm (by decide +kernel) (by decide +kernel) (by decide +kernel) t n hl
  | tuple => exact y_callTy (call_bi hc .tuple) (nox_bi _) hg hm (by decide +kernel) (by decide +kernel) (by decide +kernel) t n hl
/-- f(..), a def -/
theorem y_call {x : Str} {m : Nat} {f : List D → Res D} (tk : Takes X W) (F : FOk U X x m f) (hg : Gl X x) (hdb : (x == ("__debug__" : Str)) = false) (t : Zt Z H) (n : (a :: es).all nst = true) (hlen : ∀ ds, rl = .ok ds → ds.length = m) (hl : Yl U W (RL U X.K Z) (Aw X (a :: es)) σ H rl) :
    Yl U W (RE U X.K Z) (Ew X (.Call (.Name x p) (a :: es) [] pos)) σ H (rl.bind f) := by
  obtain ⟨k, fa, fd, ps, hr, hm, hk, hb, F⟩ := F
  have n' : nst a = true ∧ es.all nst = true := by simpa using n
  refine Yl.imp (fun _ _ _ q => ew_of (pe_callS F hr hg hm hk hb (fun σ => passAt tk σ) aw hdb (star_cons n'.1) (star_plain n'.2)) q) ?_
  refine Yl.bind (t := Aw X (a :: es)) (tb := fun vs σ H Q => spD U X.K m f vs H Q (WE W σ)) hl fun ds vs H1 hds e1 dv => ?_
  intro H2 e2 Q q
  refine ⟨by rw [dv.length]; exact hlen ds hds, Z, ds, (t.mono e1).mono e2, dv.mono (ex_view e2 Z), ?_⟩
  cases hr : f ds with
  | ok d => rw [hr] at q; exact fun v H' e' dv' => q v H' e' dv'
  | exc c => rw [hr] at q; exact q
  | bad => rw [hr] at q; exact q
/-- max(xs, default=d) -/
def gMaxd (x y : D) : Res D := match x with
  | .list xs => (ofO (intL xs)).bind fun ns => match ns with
    | [] => .ok y
    | n :: r => .ok (.int (r.foldl max n))
  | _ => .bad
theorem nox_maxd (x y : D) : Nox (gMaxd x y) := by
  cases x <;> first | exact .bad | skip
  refine .bind .ofO fun ns => ?_
  cases ns <;> exact .ok _
theorem alike_ints_all (ns : List Int) : PySem.W.AlikeAll (ns.map .int) := by
  refine ⟨fun x hx y hy => ?_, fun x hx => ?_⟩
  · obtain ⟨i, _, rfl⟩ := List.mem_map.mp hx
    obtain ⟨j, _, rfl⟩ := List.mem_map.mp hy
    simp [PySem.W.alike]
  · obtain ⟨i, _, rfl⟩ := List.mem_map.mp hx
    exact fun z => nomatch z
theorem call_maxd (hc : X.calm = true) (hu : X.A.units + 64 < cLine) : CallRK X (.builtin "max") ["default"] (fun vs zs H Q => ∃ v w x y d, vs = [v] ∧ zs = [w] ∧ Dat U X.K (view H Z) v x ∧ Dat U X.K (view H Z) w y ∧ gMaxd x y = .ok d ∧ Wn U X.K Z H Q d) := by
  intro pins s σ H vs zs us ws Q I rv rz h
  obtain ⟨v, w, x, y, d, rfl, rfl, hx, hy, hg, q⟩ := h
  obtain ⟨u1, rfl, r1⟩ := rv.one
  obtain ⟨u2, rfl, r2⟩ := rz.one
  cases x with
  | list xs =>
    obtain ⟨ns, h0, hg⟩ := bind_ok_inv (show (ofO (intL xs)).bind _ = .ok d from hg)
    have hi := ofO_ok h0
    have hp : dep 1 (.list xs) = true := by
      rw [intL_of hi]
      simp [dep]
    obtain ⟨as, rd⟩ := Dat.reads I hp hx r1
    rw [intL_of hi] at rd
    obtain ⟨l, ys, rfl, k1, k2⟩ := hx.listH
    cases r1
    have hda := PySem.W.depth_ints ns
    cases rd with
    | @list _ o2 vs2 n2 _ as2 g1 g2 g3 g4 =>
      refine PySem.W.max_list_default (vs := vs2) (I.ok.hd hc) ⟨_, g1, g2, _, g3⟩ g4 (alike_ints_all ns) (by rw [hda]; omega) (fun e h' tk k => ?_) (fun z zs i v h' tk bs e hv hr k => ?_)
      · have e' : ns = [] := by simpa using e
        subst e'
        cases ok_inj hg
        exact ⟨_, H, I.kept k, r2, q _ H (Ex.refl H) hy⟩
      · cases ns with
        | nil => cases e
        | cons n r =>
          cases e
          cases ok_inj hg
          rw [PySem.W.maxD_ints] at hr
          cases hr
          exact ⟨.int _, H, I.kept k, ⟨_, rfl⟩, q.int⟩
  | _ => cases hg
theorem y_maxd {kp : Pos} (hc : X.calm = true) (hu : X.A.units + 64 < cLine) (hg : Gl X "max") (hm : X.mg "max" = none) (n : nst a = true) (ha : Yl U W (RE U X.K Z) (Ew X a) σ H ra) (hb : Yl U W (RE U X.K Z) (Ew X b) σ H rb) :
    Yl U W (RE U X.K Z) (Ew X (.Call (.Name "max" p) [a] [⟨some "default", b, kp⟩] pos)) σ H (ra.bind fun x => rb.bind fun y => gMaxd x y) := by
  refine Yl.imp (fun _ _ _ q => ew_of (pe_callBK (call_maxd (U := U) (Z := Z) hc hu) hg hm (by decide +kernel) (pa_cons ew pa_nil (star_cons n)) (pk_cons ew pk_nil) (by decide +kernel) (by decide +kernel) (star_back n) (star_plain (es := [a]) (by simpa using n)) rfl rfl rfl) q) ?_
  exact Yl.two (t1 := Ew X a) (t2 := Ew X b) (tt := fun u w H Q => ∃ v w' x y d, [u] = [v] ∧ [w] = [w'] ∧ Dat U X.K (view H Z) v x ∧ Dat U X.K (view H Z) w' y ∧ gMaxd x y = .ok d ∧ Wn U X.K Z H Q d) re_mono ha hb fun x y u w H1 e1 dx dy => Yl.val (nox_maxd x y) fun z H3 Q hr e3 q => ⟨u, w, x, y, z, rfl, rfl, dx.mono (ex_view e3 Z), dy.mono (ex_view e3 Z), hr, q⟩
/-- list(range(n)) -/
theorem rgV_is (m n : Int) : rgV m n = (List.range (n - m).toNat).map fun (i : Nat) => V.int (m + i) := rfl
theorem datL_rng {K : PySem.W.Frag} (m n : Int) : DatL U K H (rgV m n) (rngD m n) := by
  have h := DatL.of_ints (U := U) (K := K) (H := H) ((List.range (n - m).toNat).map fun (i : Nat) => (m + i : Int))
  rw [List.map_map, List.map_map] at h
  exact h
theorem f_lrg {p2 pos2 : Pos} (hc : X.calm = true) (hg : Gl X "list") (hm : X.mg "list" = none) (hg2 : Gl X "range") (hm2 : X.mg "range" = none) (n : nst a = true) (ha : Yl U W (RE U X.K Z) (Ew X a) σ H ra) :
    Fr U W X.K Z (Ew X (.Call (.Name "list" p) [.Call (.Name "range" p2) [a] [] pos2] [] pos)) σ H (ra.bind fun x => (asInt x).bind fun n => req (decide (0 ≤ n) && decide (n ≤ 100000)) (.ok (.list (rngD 0 n)))) := by
  refine Fr.imp (X := X) (fun _ _ _ q => ew_of (pe_listRg hc hg hm (prg_1 hg2 hm2 ew (star_cons n))) q) ?_
  refine Fr.one (X := X) (t1 := Ew X a) (tt := fun x H1 Q => ∃ n, x = .int n ∧ (RgOk 0 n ∧ ∀ q, H1 q = none → Q (.ref q) (upd H1 q (.lst (rgV 0 n))))) ha fun x u H1 Q e1 dx q => ?_
  cases x with
  | int i =>
    have q : FinF U W X.K Z σ H1 Q (req (decide (0 ≤ i) && decide (i ≤ 100000)) (.ok (.list (rngD 0 i)))) := q
    cases h1 : (decide (0 ≤ i) && decide (i ≤ 100000)) with
    | true =>
      rw [h1] at q
      have h2 : 0 ≤ i ∧ i ≤ 100000 := by simpa using h1
      exact ⟨i, dx.int_inv, RgOk.of_le (by omega) (by omega) (by omega) (by omega), fun p hp => q p _ _ hp (Ex.new hp) upd_same (datL_rng 0 i)⟩
    | false => rw [h1] at q; exact (show False from q).elim
  | _ => exact (show False from q).elim
theorem y_lrg {p2 pos2 : Pos} (hc : X.calm = true) (hg : Gl X "list") (hm : X.mg "list" = none) (hg2 : Gl X "range") (hm2 : X.mg "range" = none) (t : Zt Z H) (n : nst a = true) (ha : Yl U W (RE U X.K Z) (Ew X a) σ H ra) :
    Yl U W (RE U X.K Z) (Ew X (.Call (.Name "list" p) [.Call (.Name "range" p2) [a] [] pos2] [] pos)) σ H (ra.bind fun x => (asInt x).bind fun n => req (decide (0 ≤ n) && decide (n ≤ 100000)) (.ok (.list (rngD 0 n)))) := by
  refine Fr.yl t (fun d h => ?_) (f_lrg hc hg hm hg2 hm2 n ha)
  obtain ⟨x, _, h⟩ := bind_ok_inv h
  obtain ⟨i, _, h⟩ := bind_ok_inv h
  exact ⟨_, (ok_inj (req_ok h).2).symm⟩
/-- other fresh lists: [..] * n, xs[i:j], list(xs) -/
theorem f_mul (t : Zt Z H) (ha : Yl U W (RE U X.K Z) (Ew X a) σ H ra) (hb : Yl U W (RE U X.K Z) (Ew X b) σ H rb) : Fr U W X.K Z (Ew X (.BinOp a .Mult b pos)) σ H (ra.bind fun x => rb.bind fun y => mulD x y) := by
  refine Fr.imp (X := X) (fun _ _ _ q => ew_of (pe_op op_rep ew ew) q) ?_
  refine Fr.one (X := X) (R1 := RE U X.K Z) (t1 := Ew X a) (tt := fun x H1 Q => Ew X b σ H1 fun y H2 => rRep x y H2 Q) ha fun x u H1 Q e1 dx q => ?_
  refine (Fr.one (X := X) (U := U) (W := W) (Z := Z) (t1 := Ew X b) (tt := fun y H2 Q => rRep u y H2 Q) (hb.mono e1) fun y w H2 Q e2 dy q => ?_) H1 (Ex.refl _) Q q
  cases x with
  | list ds =>
    cases y with
    | int k =>
      have q : FinF U W X.K Z σ H2 Q (req (decide (-100000 ≤ k) && decide (k ≤ 100000) && decide (ds.length * k.toNat ≤ lim)) (.ok (.list (List.replicate k.toNat ds).flatten))) := q
      cases h1 : (decide (-100000 ≤ k) && decide (k ≤ 100000) && decide (ds.length * k.toNat ≤ lim)) with
      | true =>
        rw [h1] at q
        have h5 : (-100000 ≤ k ∧ k ≤ 100000) ∧ ds.length * k.toNat ≤ lim := by simpa using h1
        obtain ⟨p, xs, rfl, k1, k2⟩ := (dx.mono (ex_view e2 Z)).listH
        exact ⟨p, k, xs, rfl, dy.int_inv, k1, by omega, by omega, by rw [k2.length]; exact lim_line h5.2, fun z hz => q z _ _ hz (Ex.new hz) upd_same ((k2.mono (ex_view_cons (Ex.new hz) hz)).rep _)⟩
      | false => rw [h1] at q; exact (show False from q).elim
    | _ => exact (show False from q).elim
  | int i =>
    cases y with
    | int k =>
      have q : FinF U W X.K Z σ H2 Q (req (near64 i || near64 k) (.ok (.int (i * k)))) := q
      cases h1 : (near64 i || near64 k) <;> rw [h1] at q <;> exact (show False from q).elim
    | _ => exact (show False from q).elim
  | _ => exact (show False from q).elim
theorem f_sl {lo hi : Option Expr} {p2 : Pos} {r1 r2 : Res (Option Int)} (ha : Yl U W (RC U X.K Z) (Ew X a) σ H ra) (h1 : Yl U W RQ (Ow X lo) σ H r1) (h2 : Yl U W RQ (Ow X hi) σ H r2) :
    Fr U W X.K Z (Ew X (.Subscript a (.Slice lo hi none p2) pos)) σ H (ra.bind fun x => r1.bind fun l => r2.bind fun h => match x with
      | .list xs => .ok (.list (cut xs l h))
      | _ => .bad) := by
  refine Fr.imp (X := X) (fun _ _ _ q => ew_of (pe_slice sl_list ew ow ow) q) ?_
  refine Fr.one (X := X) (R1 := RC U X.K Z) (t1 := Ew X a) (tt := fun x H1 Q => Ow X lo σ H1 fun l H2 => Ow X hi σ H2 fun u H3 => rSlL X.K x l u H3 Q) ha fun x u H1 Q e1 dx q => ?_
  refine (Fr.one (X := X) (U := U) (W := W) (Z := Z) (R1 := RQ) (t1 := Ow X lo) (tt := fun l H2 Q => Ow X hi σ H2 fun h H3 => rSlL X.K u l h H3 Q) (h1.mono e1) fun l l' H2 Q e2 el q => ?_) H1 (Ex.refl _) Q q
  refine (Fr.one (X := X) (U := U) (W := W) (Z := Z) (R1 := RQ) (t1 := Ow X hi) (tt := fun h H3 Q => rSlL X.K u l' h H3 Q) ((h2.mono e1).mono e2) fun h h' H3 Q e3 eh q => ?_) H2 (Ex.refl _) Q q
  cases el
  cases eh
  cases x with
  | list ds =>
    obtain ⟨p, xs, rfl, k1, k2⟩ := (Con.mono e3 (Con.mono e2 dx)).list
    exact ⟨p, xs, rfl, SqL.of k1, fun z hz => q z _ _ hz (Ex.new hz) upd_same ((k2.mono (ex_view_cons (Ex.new hz) hz)).cut _ _)⟩
  | _ => exact (show False from q).elim
theorem f_list (hg : Gl X "list") (hm : X.mg "list" = none) (n : nst a = true) (ha : Yl U W (RE U X.K Z) (Ew X a) σ H ra) : Fr U W X.K Z (Ew X (.Call (.Name "list" p) [a] [] pos)) σ H (ra.bind fun x => bi .list [x]) := by
  refine Fr.imp (X := X) (fun _ _ _ q => ew_of (pe_callTy call_list_of hg hm (by decide +kernel) (pa_cons ew pa_nil (star_cons n)) (by decide +kernel) (by decide +kernel) (star_cons n) rfl) q) ?_
  refine Fr.one (X := X) (R1 := RE U X.K Z) (t1 := Ew X a) (tt := fun x H1 Q => ∃ p ys, [x] = [.ref p] ∧ (SqL X.K H1 p ys ∨ SqT X.K H1 p ys) ∧ ∀ l, H1 l = none → Q (.ref l) (upd H1 l (.lst ys))) ha fun x u H1 Q e1 dx q => ?_
  cases x with
  | list ds =>
    obtain ⟨p, xs, rfl, k1, k2⟩ := dx.listH
    exact ⟨p, xs, rfl, .inl (SqL.of k1), fun z hz => q z _ _ hz (Ex.new hz) upd_same (k2.mono (ex_view_cons (Ex.new hz) hz))⟩
  | tuple ds =>
    obtain ⟨p, xs, rfl, k1, k2⟩ := dx.tupleH
    exact ⟨p, xs, rfl, .inr k1, fun z hz => q z _ _ hz (Ex.new hz) upd_same (k2.mono (ex_view_cons (Ex.new hz) hz))⟩
  | _ => exact (show False from q).elim

/-! ### isinstance -/
def tyD : D → Option String
  | .none => some "NoneType"
  | .bool _ => some "bool"
  | .int _ => some "int"
  | .str _ => some "str"
  | .list _ => some "list"
  | .tuple _ => some "tuple"
  | .dict _ => none
/-- the name x is what isinstance is asked about -/
structure TyIs (U : Ux) (X : Cx) (x : Str) (t : Ty) : Prop where
  val : ∃ (c : V) (cv : Value), (X.mg x = some cv ∨ (X.mg x = none ∧ bootBuiltins x = some cv ∧ x ≠ "__name__")) ∧ ClsV c cv ∧ (∀ d n k, tyD d = some n → isiD d t = .ok k → PySem.W.kitOne X.K (.type n) cv = some k) ∧
    ∀ c' C k, t = .cls k → U.ec c' = some C → ExcC X.K C ∧ PySem.W.kitOne X.K (.ref C) cv = some (below c' k)
theorem call_isiD {t : Ty} {cv : V} {cw : Value} (k1 : ClsV cv cw) (k2 : ∀ d n k, tyD d = some n → isiD d t = .ok k → PySem.W.kitOne X.K (.type n) cw = some k)
    (k3 : ∀ c' C k, t = .cls k → U.ec c' = some C → ExcC X.K C ∧ PySem.W.kitOne X.K (.ref C) cw = some (below c' k)) : CallR X (.builtin "isinstance") (fun vs H Q => ∃ x d k, vs = [x, cv] ∧ Dat U X.K (view H Z) x d ∧ isiD d t = .ok k ∧ Q (.bl k) H) := by
  intro pins s σ H vs us Q I r h
  obtain ⟨x, d, k, rfl, hd, hk, q⟩ := h
  have base : ∀ {n : String}, tyD d = some n → TyX X.K H x (.type n) → wpAny (model X.prog X.w) X.A (call (.builtin "isinstance") us) (EP X pins σ Q) X.xe s := fun {n} e ty =>
    call_isi pins s σ H _ us Q I r ⟨x, cv, .type n, cw, k, rfl, k1, ty, k2 d n k e hk, q⟩
  cases d with
  | none => cases hd.none_inv; exact base rfl (.base .non)
  | bool b => cases hd.bool_inv; exact base rfl (.base (.bl b))
  | int b => cases hd.int_inv; exact base rfl (.base (.int b))
  | str b => cases hd.str_inv; exact base rfl (.base (.str b))
  | list ds =>
    obtain ⟨p, xs, rfl, h1, _⟩ := hd.listH
    exact base rfl (.base (.lst h1))
  | tuple ds =>
    obtain ⟨p, xs, rfl, h1, _⟩ := hd.tupleH
    rcases h1 with h1 | ⟨o, its, n, h1, h2, _⟩
    · rcases h1 with h1 | ⟨o, h1⟩
      · exact base rfl (.base (.tup h1))
      · exact base rfl (.fTuple h1)
    · exact base rfl (.kTuple h1 h2)
  | dict kvs =>
    cases t with
    | cls m =>
      obtain ⟨c, h0, hk⟩ := bind_ok_inv (show (ofO (exnOf kvs)).bind _ = .ok k from hk)
      cases ok_inj hk
      cases exnOf_of (ofO_ok h0)
      have hd2 : ∃ a C, x = .ref a ∧ U.ec c = some C ∧ H a = some (ExT C a) := by
        generalize he : (PyData.dict [(.none, .int (c : Int))] : D) = d at hd
        cases hd with
        | exc hc h =>
          rename_i a C c'
          have e2 : (c' : Int) = (c : Int) := by
            injection he with he
            injection he with h1 h2
            injection h1 with h1 h3
            injection h3 with h3
            exact h3.symm
          have e3 : c' = c := by exact_mod_cast e2
          subst e3
          exact ⟨a, C, rfl, hc, view_ex H Z _ _ h⟩
        | _ => cases he
      obtain ⟨a, C, rfl, hc, ha⟩ := hd2
      obtain ⟨E, kk⟩ := k3 c C m rfl hc
      obtain ⟨u1, u2, rfl, r1, r2⟩ := vals2 r
      cases r1
      have e2 := k1.eq r2
      subst e2
      obtain ⟨⟨oe, vs, h1, h2, h3⟩, _⟩ := (show ObjOk X.prog X.w H s.heap a (ExT C a) from I.hok a _ ha)
      have J : PySem.W.InstAt s.heap a oe C none := by
        obtain ⟨oc, od, oda, osl⟩ := oe
        obtain ⟨g1, g2⟩ := h2
        dsimp only at g1 g2 h3
        subst g1 g2 h3
        exact ⟨h1, rfl, rfl, trivial⟩
      exact PySem.W.kia_one (PySem.W.handS_kitx_exc E.hg E.hk E.hs E.hd E.ha E.hn E.ht E.hm) I.kIn J kk (fun z => nomatch z) fun tk => ⟨.bl _, H, I.kept (t' := tk) fun _ _ z => z, rfl, q⟩
    | _ => cases hk
theorem y_isi {x : Str} {p2 : Pos} {t : Ty} (T : TyIs U X x t) (hg : Gl X "isinstance") (hm : X.mg "isinstance" = none) (hgx : Gl X x) (hdb : (x == ("__debug__" : Str)) = false) (n : nst a = true) (ha : Yl U W (RE U X.K Z) (Ew X a) σ H ra) :
    Yl U W (RE U X.K Z) (Ew X (.Call (.Name "isinstance" p) [a, .Name x p2] [] pos)) σ H (ra.bind fun x => (isiD x t).bind fun b => .ok (.bool b)) := by
  obtain ⟨c, cv, hv, k1, k2, k3⟩ := T.val
  have rel : RelV c cv := by cases k1 <;> rfl
  have hn : PE X (.Name x p2) (tC c) := by
    rcases hv with hv | ⟨h1, h2, h3⟩
    · exact pe_glob hgx hv rel hdb
    · exact pe_bltn hgx h1 h2 rel h3 hdb
  refine Yl.imp (fun _ _ _ q => ew_of (pe_callB (call_isiD (Z := Z) k1 k2 k3) hg hm (by decide +kernel) (pa_cons ew (pa_cons hn pa_nil) (star_cons n)) (by decide +kernel) (by decide +kernel) (star_cons n) rfl) q) ?_
  refine Yl.one (t1 := Ew X a) (tt := fun u H Q => ∃ x d k, [u, c] = [x, c] ∧ Dat U X.K (view H Z) x d ∧ isiD d t = .ok k ∧ Q (V.bl k) H) ha fun d u H1 e1 dx => Yl.val (.bind (nox_isi d t) fun _ => .ok _) fun z H3 Q hr e3 q => ?_
  obtain ⟨k, h1, h2⟩ := bind_ok_inv hr
  cases ok_inj h2
  exact ⟨u, d, k, rfl, dx.mono (ex_view e3 Z), h1, q _ _ (Ex.refl _) (.bl _)⟩

/-! ### methods -/
def Mt.nm : Mt → Str
  | .index => "index"
  | .count => "count"
theorem few_ok {env : PySem.Env} {cpos : Pos} {e : Expr} (h : nst e = true) : ((backTo cpos (starEach [e] env)).all (fun x => !x.1) && (backToKw cpos (keywordEach [] env)).all (fun x => x.1.isSome) && decide (([e] : List Expr).length + ([] : List Keyword).length + (if ([] : List Keyword).isEmpty then 0 else 1) < 30)) = true := by
  rw [star_few (es := [e]) (by simpa using h)]
  rfl
theorem y_mt {apos : Pos} (m : Mt) (hu : X.A.units + 64 < cLine) (ns : nsup a = true) (n : nst b = true) (hline : (apos.endLine == pos.line) = true) (ha : Yl U W (RE U X.K Z) (Ew X a) σ H ra) (hl : Yl U W (RL U X.K Z) (Aw X [b]) σ H rl) :
    Yl U W (RE U X.K Z) (Ew X (.Call (.Attribute a m.nm apos) [b] [] pos)) σ H (ra.bind fun x => match x with
      | .list xs => rl.bind fun ds => mt m (.list xs) ds
      | _ => .bad) := by
  have go : Yl U W (RE U X.K Z) (tBM X.K "list" (rMt U X.K Z (mt m)) (Ew X a) (Aw X [b])) σ H (ra.bind fun x => match x with
      | .list xs => rl.bind fun ds => mt m (.list xs) ds
      | _ => .bad) := by
    refine Yl.bind (t := Ew X a) (tb := fun x σ H1 Q => tyV X.K "list" x H1 ∧ Aw X [b] σ H1 fun xs H2 => rMt U X.K Z (mt m) x xs H2 Q) ha fun x u H1 _ e1 dx => ?_
    cases x with
    | list xs =>
      intro H2 e2 Q q
      obtain ⟨p, ys, rfl, h1, h2⟩ := dx.listH
      refine ⟨Or.inl ⟨rfl, _, SqL.of (e2 _ _ h1)⟩, ?_⟩
      refine (Yl.one (U := U) (W := W) (R := RE U X.K Z) (t1 := Aw X [b]) (tt := fun xs H2 Q => rMt U X.K Z (mt m) (.ref p) xs H2 Q) ((hl.mono e1).mono e2) fun ds vs H3 e3 dv => Yl.val (nox_mt m (.list xs) ds) fun z H4 Q hr e4 q => ?_) H2 (Ex.refl _) Q q
      exact ⟨.list xs, ds, z, (dx.mono (ex_view e2 Z)).mono (ex_view (e3.trans e4) Z), dv.mono (ex_view e4 Z), hr, q⟩
    | _ => exact Yl.bad
  cases m with
  | index => exact Yl.imp (fun _ _ _ q => ew_of (pe_bm PySem.F.plainAttrs_list PySem.F.slot_list_index PySem.F.type_list_index (mt_D (U := U) (Z := Z) hu .index) ew aw (attr_base ns) (few_ok n) hline (star_cons n) rfl) q) go
  | count => exact Yl.imp (fun _ _ _ q => ew_of (pe_bm PySem.F.plainAttrs_list PySem.F.slot_list_count PySem.F.type_list_count (mt_D (U := U) (Z := Z) hu .count) ew aw (attr_base ns) (few_ok n) hline (star_cons n) rfl) q) go

/-! ### methods of texts -/
def Ms.nm : Ms → Str
  | .split => "split"
  | .join => "join"
theorem nox_ms (m : Ms) (x : Str) (ds : List D) : Nox (msD m x ds) := by
  unfold msD
  split <;> first
    | exact .bad
    | exact .req (.ok _)
    | exact .bind .ofO fun _ => .req (.ok _)
theorem y_ms {apos : Pos} (m : Ms) (zt : Zt Z H) (ns : nsup a = true) (n : nst b = true) (hline : (apos.endLine == pos.line) = true) (ha : Yl U W (RE U X.K Z) (Ew X a) σ H ra) (hl : Yl U W (RL U X.K Z) (Aw X [b]) σ H rl) :
    Yl U W (RE U X.K Z) (Ew X (.Call (.Attribute a m.nm apos) [b] [] pos)) σ H (ra.bind fun x => match x with
      | .str s => rl.bind fun ds => msD m s ds
      | _ => .bad) := by
  have go : Yl U W (RE U X.K Z) (tBM X.K "str" (rMs U X.K Z (msD m)) (Ew X a) (Aw X [b])) σ H (ra.bind fun x => match x with
      | .str s => rl.bind fun ds => msD m s ds
      | _ => .bad) := by
    refine Yl.bind (t := Ew X a) (tb := fun x σ H1 Q => tyV X.K "str" x H1 ∧ Aw X [b] σ H1 fun xs H2 => rMs U X.K Z (msD m) x xs H2 Q) ha fun x u H1 _ e1 dx => ?_
    cases x with
    | str s =>
      intro H2 e2 Q q
      cases dx.str_inv
      refine ⟨rfl, ?_⟩
      refine (Yl.one (U := U) (W := W) (R := RE U X.K Z) (t1 := Aw X [b]) (tt := fun xs H2 Q => rMs U X.K Z (msD m) (.str s) xs H2 Q) ((hl.mono e1).mono e2) fun ds vs H3 e3 dv => Yl.val (nox_ms m s ds) fun z H4 Q hr e4 q => ?_) H2 (Ex.refl _) Q q
      exact ⟨((((zt.mono e1).mono e2).mono e3).mono e4), s, ds, z, rfl, dv.mono (ex_view e4 Z), hr, q⟩
    | _ => exact Yl.bad
  cases m with
  | split => exact Yl.imp (fun _ _ _ q => ew_of (pe_bm PySem.F.plainAttrs_str PySem.F.slot_str_split PySem.F.type_str_split (ms_D (U := U) (Z := Z) .split) ew aw (attr_base ns) (few_ok n) hline (star_cons n) rfl) q) go
  | join => exact Yl.imp (fun _ _ _ q => ew_of (pe_bm PySem.F.plainAttrs_str PySem.F.slot_str_join PySem.F.type_str_join (ms_D (U := U) (Z := Z) .join) ew aw (attr_base ns) (few_ok n) hline (star_cons n) rfl) q) go

/-! ### what is walked -/
def WalkJ (U : Ux) (K : PySem.W.Frag) (Z : List Addr) (J : It) (H : Hp) (ds : List D) : Prop := ∀ H' Z', Ex (view H Z) (view H' Z') →
  (∀ i, i < ds.length → J.go i H' ∧ ∀ x H'', J.yld i H' x H'' → H'' = H' ∧ ∃ d, ds[i]? = some d ∧ Dat U K (view H' Z') x d) ∧ J.stop ds.length H'
abbrev RI (U : Ux) (K : PySem.W.Frag) (Z : List Addr) : It → List D → Hp → Prop := fun J ds H => WalkJ U K Z J H ds
theorem walk_list {K : PySem.W.Frag} {J : It} {xs : List V} {ds : List D} {l : Addr} (h : view H Z l = some (.lst xs)) (hd : DatL U K (view H Z) xs ds) : WalkJ U K Z (Itl K l) H ds := by
  intro H' Z' e
  have h' : SqL K H' l xs := SqL.of (view_ex H' Z' _ _ (e _ _ h))
  have hl := hd.length
  refine ⟨fun i hi => ⟨⟨xs, xs[i], h', by simp [hl, hi]⟩, fun x H'' y => ?_⟩, ⟨xs, h', by omega⟩⟩
  obtain ⟨e1, y⟩ := y
  obtain ⟨d, h1, h2⟩ := hd.get' (y xs h')
  exact ⟨e1, d, h1, h2.mono e⟩
theorem walk_tup {K : PySem.W.Frag} {J : It} {xs : List V} {ds : List D} {l : Addr} (h : SqT K (view H Z) l xs) (hd : DatL U K (view H Z) xs ds) : WalkJ U K Z (Itt K l) H ds := by
  intro H' Z' e
  have h' : SqT K H' l xs := ex_t (view_ex H' Z') (ex_t e h)
  have hl := hd.length
  refine ⟨fun i hi => ⟨⟨xs, xs[i], h', by simp [hl, hi]⟩, fun x H'' y => ?_⟩, ⟨xs, h', by omega⟩⟩
  obtain ⟨e1, y⟩ := y
  obtain ⟨d, h1, h2⟩ := hd.get' (y xs h')
  exact ⟨e1, d, h1, h2.mono e⟩
theorem walk_str {K : PySem.W.Frag} {x : Str} : WalkJ U K Z (Its x) H (x.cps.toList.map fun c => .str ⟨#[c]⟩) := by
  intro H' Z' e
  rw [List.length_map, Array.length_toList]
  refine ⟨fun i hi => ⟨hi, fun v H'' y => ?_⟩, Nat.le_refl _⟩
  obtain ⟨e1, c, e2, e3⟩ := y
  refine ⟨e1, .str ⟨#[c]⟩, ?_, by rw [e3]; exact .str _⟩
  rw [List.getElem?_map, Array.getElem?_toList, e2]
  rfl
theorem rngD_get {m n : Int} {i : Nat} (h : i < (n - m).toNat) : (rngD m n)[i]? = some (.int (m + i)) := by
  unfold rngD
  rw [List.getElem?_map, List.getElem?_range h]
  rfl
theorem rngD_length (m n : Int) : (rngD m n).length = (n - m).toNat := by unfold rngD; rw [List.length_map, List.length_range]
theorem walk_rng {K : PySem.W.Frag} {m n : Int} : WalkJ U K Z (Itr m (n - m).toNat) H (rngD m n) := by
  intro H' Z' e
  rw [rngD_length]
  refine ⟨fun i hi => ⟨hi, fun x H'' y => ?_⟩, Nat.le_refl _⟩
  obtain ⟨e1, e2⟩ := y
  exact ⟨e1, _, rngD_get hi, by rw [e2]; exact .int _⟩
theorem y_rng1 {tg : Expr} (hg : Gl X "range") (hm : X.mg "range" = none) (n : nst a = true) (ha : Yl U W (RE U X.K Z) (Ew X a) σ H ra) :
    Yl U W (RI U X.K Z) (Iw X tg (.Call (.Name "range" p) [a] [] pos)) σ H (ra.bind fun x => (asInt x).bind fun n => req (decide (-1000000 ≤ n) && decide (n ≤ 1000000)) (.ok (rngD 0 n))) := by
  refine Yl.imp (t := fun σ H R => Ew X a σ H fun v H1 => ∃ j : Int, [v] = [.int j] ∧ -(2 ^ 62) ≤ j ∧ j < 2 ^ 62 ∧ R (Itr 0 j.toNat) H1) (fun _ _ _ q => iw_of (pi_range1 hg hm (pa_cons ew pa_nil (star_cons n)) (by rw [star_cons n]; rfl)) q) ?_
  refine Yl.one (t1 := Ew X a) (tt := fun v H1 R => ∃ j : Int, [v] = [.int j] ∧ -(2 ^ 62) ≤ j ∧ j < 2 ^ 62 ∧ R (Itr 0 j.toNat) H1) ha fun x u H1 e1 dx => Yl.val (.bind (nox_int x) fun _ => .req (.ok _)) fun z H3 Q hr e3 q => ?_
  obtain ⟨j, h1, h2⟩ := bind_ok_inv hr
  obtain ⟨h3, h4⟩ := req_ok h2
  cases ok_inj h4
  have h5 : -1000000 ≤ j ∧ j ≤ 1000000 := by simpa using h3
  cases x with
  | int i =>
    cases ok_inj h1
    cases dx.int_inv
    refine ⟨_, rfl, by omega, by omega, q _ _ (Ex.refl _) ?_⟩
    have w := walk_rng (U := U) (K := X.K) (Z := Z) (H := H3) (m := 0) (n := j)
    rwa [show (j - 0).toNat = j.toNat by omega] at w
  | _ => cases h1
theorem y_rng2 {tg : Expr} (hg : Gl X "range") (hm : X.mg "range" = none) (n : nst a = true) (n2 : nst b = true) (ha : Yl U W (RE U X.K Z) (Ew X a) σ H ra) (hb : Yl U W (RE U X.K Z) (Ew X b) σ H rb) :
    Yl U W (RI U X.K Z) (Iw X tg (.Call (.Name "range" p) [a, b] [] pos)) σ H (ra.bind fun x => (asInt x).bind fun m => rb.bind fun y => (asInt y).bind fun n =>
      req (decide (-1000000 ≤ m) && decide (m ≤ 1000000) && decide (-1000000 ≤ n) && decide (n ≤ 1000000)) (.ok (rngD m n))) := by
  refine Yl.imp (t := fun σ H R => Ew X a σ H fun v H1 => Ew X b σ H1 fun w H2 => ∃ i j : Int, [v, w] = [.int i, .int j] ∧ (-(2 ^ 62) ≤ i ∧ i < 2 ^ 62 ∧ -(2 ^ 62) ≤ j ∧ j < 2 ^ 62) ∧ R (Itr i (j - i).toNat) H2)
    (fun _ _ _ q => iw_of (pi_range2 hg hm (pa_cons ew (pa_cons ew pa_nil (star_cons n2)) (star_cons n)) (by rw [star_cons n, star_cons n2]; rfl) (by rw [star_cons n2]; rfl)) q) ?_
  refine Yl.bind (t := Ew X a) (tb := fun v σ H1 R => Ew X b σ H1 fun w H2 => ∃ i j : Int, [v, w] = [.int i, .int j] ∧ (-(2 ^ 62) ≤ i ∧ i < 2 ^ 62 ∧ -(2 ^ 62) ≤ j ∧ j < 2 ^ 62) ∧ R (Itr i (j - i).toNat) H2) ha fun x u H1 _ e1 dx => ?_
  cases x with
  | int i =>
    show Yl U W (RI U X.K Z) _ σ H1 (rb.bind fun y => (asInt y).bind fun n => req (decide (-1000000 ≤ i) && decide (i ≤ 1000000) && decide (-1000000 ≤ n) && decide (n ≤ 1000000)) (.ok (rngD i n)))
    refine Yl.one (t1 := Ew X b) (tt := fun w H2 R => ∃ i j : Int, [u, w] = [.int i, .int j] ∧ (-(2 ^ 62) ≤ i ∧ i < 2 ^ 62 ∧ -(2 ^ 62) ≤ j ∧ j < 2 ^ 62) ∧ R (Itr i (j - i).toNat) H2) (hb.mono e1) fun y w H2 e2 dy => Yl.val (.bind (nox_int y) fun _ => .req (.ok _)) fun z H3 Q hr e3 q => ?_
    obtain ⟨j, h1, h2⟩ := bind_ok_inv hr
    obtain ⟨h3, h4⟩ := req_ok h2
    cases ok_inj h4
    have h5 : ((-1000000 ≤ i ∧ i ≤ 1000000) ∧ -1000000 ≤ j) ∧ j ≤ 1000000 := by simpa using h3
    cases y with
    | int j' =>
      cases ok_inj h1
      cases dx.int_inv
      cases dy.int_inv
      exact ⟨_, _, rfl, ⟨by omega, by omega, by omega, by omega⟩, q _ _ (Ex.refl _) walk_rng⟩
    | _ => cases h1
  | _ => exact Yl.bad
theorem y_seq {tg : Expr} (ha : Yl U W (RE U X.K Z) (Ew X a) σ H ra) : Yl U W (RI U X.K Z) (Iw X tg a) σ H (ra.bind seqOf) := by
  intro H1 e1 Q q
  cases ra with
  | ok d =>
    cases d with
    | list ds =>
      refine iw_of (pi_list ew) (ha H1 e1 _ ?_)
      intro v H2 e2 dv
      obtain ⟨l, xs, rfl, h1, h2⟩ := dv.list_inv
      exact ⟨l, rfl, ⟨xs, SqL.of (view_ex H2 Z _ _ h1)⟩, q _ _ e2 (walk_list (J := Itl X.K l) h1 h2)⟩
    | tuple ds =>
      refine iw_of (pi_tup ew) (ha H1 e1 _ ?_)
      intro v H2 e2 dv
      obtain ⟨l, xs, rfl, h1, h2⟩ := dv.tuple_inv
      exact ⟨l, rfl, ⟨xs, ex_t (view_ex H2 Z) h1⟩, q _ _ e2 (walk_tup (J := Itt X.K l) h1 h2)⟩
    | str x =>
      cases hl : decide (x.length ≤ lim) with
      | false =>
        have q : FinG U W σ (RI U X.K Z) H1 Q (req (decide (x.length ≤ lim)) (.ok (x.cps.toList.map fun c => .str ⟨#[c]⟩))) := q
        rw [hl] at q
        exact (show False from q).elim
      | true =>
        have q : FinG U W σ (RI U X.K Z) H1 Q (req (decide (x.length ≤ lim)) (.ok (x.cps.toList.map fun c => .str ⟨#[c]⟩))) := q
        rw [hl] at q
        refine iw_of (pi_str ew) (ha H1 e1 _ ?_)
        intro v H2 e2 dv
        cases dv.str_inv
        exact ⟨x, rfl, q _ _ e2 walk_str⟩
    | _ => exact (show False from q).elim
  | exc c =>
    refine iw_of (pi_list ew) (ha H1 e1 _ q)
  | bad => exact (show False from q).elim
end
end Rwl

set_option Elab.async false
set_option linter.all false
set_option maxRecDepth 100000
set_option maxHeartbeats 2000000
/-! Rwl, part Gx: a comprehension whose turns may let an exception out. -/
namespace Rwl
open PySem PySem.Spec PyProof.Rows L2 Evl

section
variable {M : Model} {A : Around} {E : Value → Shared → Prop} {s : Shared} {Zp : Obj → Prop} {base : Heap} {env : PySem.Env} {outer : List PySem.Env} {L L' e : Addr}
theorem note_eq {a b : PySem.Env} (h : a.frame = b.frame) (x : Value) : noteFrame x a = noteFrame x b := by
  unfold noteFrame PySem.frameOf
  rw [h]
/-- noted in another's name: the frame is put ahead of it -/
theorem note_other {Q : Unit → Shared → Prop} (st : HandSPX.Steady Zp) (fr : A.frames = some (env :: outer)) (hf : env.frame = some L) (ne : L' ≠ L) (held : HandSPX.HeldZ base (env :: outer) e Zp L' s.heap)
    (k : ∀ g, HandSPX.HeldZ base (env :: outer) e Zp L g → s.heap.UpToSlots g → Q () { s with heap := g }) : wpAny M A (noteFrame (.ref e) env) Q E s := by
  obtain ⟨g1, g2, g3, oe, vs, T, oT, ts, ge, gz, gd, e1, gT0, gTe, gT, gdT, e3⟩ := held
  unfold noteFrame
  simp only [hf]
  refine wpAny_bind (wpAny_field ge gd e1 ?_)
  have t1 : (Value.ref T != Value.none) = true := by simp
  rw [if_pos t1]
  refine wpAny_bind (wpAny_field gT gdT e3 ?_)
  have t2 : ¬ ((rawInt L' == rawInt L) = true) := by
    simp only [rawInt, beq_iff_eq, Value.int.injEq, not_and]
    intro z
    exact absurd (Int.ofNat_inj.mp z) ne
  rw [if_neg t2]
  refine wpAny_bind (wpAny_setField gT gdT (Array.getElem?_eq_some_iff.mp e3).1 ?_)
  generalize hh : s.heap.update T (Obj.mapFields (·.setIfInBounds 3 Value.none)) = h1
  have oth : ∀ b, b ≠ T → h1.get? b = s.heap.get? b := fun b hb => by rw [← hh]; exact Heap.get?_update_other _ _ (Ne.symm hb)
  have notT : ∀ b o, s.heap.get? b = some o → (∀ vs, o.data ≠ .fields vs) → b ≠ T := fun b o q nf z => by
    rw [z, gT] at q
    cases q
    exact nf ts gdT
  refine HandSPX.wpAny_entryZ (s := { s with heap := h1 }) st fr (Heap.FunFrames.of_keeps (fun b o q nf => ⟨o, (oth b (notT b o q nf)).trans q, rfl⟩) g3) hf ((oth e (Ne.symm gTe)).trans ge)
    (fun b o q => (oth b (fun z => by rw [z, gT0] at q; cases q)).trans (g1 b o q)) g2 gd (Array.getElem?_eq_some_iff.mp e1).1 gz fun g n => ?_
  obtain ⟨n1, n2, n3, n4⟩ := n
  exact k g ⟨n1, g2, n2, n3⟩ fun b o q nf => n4 b o ((oth b (notT b o q nf)).trans q) nf
theorem frames_keep {h h' b' : Heap} : ∀ {l : List PySem.Env}, h.FunFrames base l → (∀ F ∈ frs l, ∀ o, h.get? F = some o → h'.get? F = some o) → (∀ F ∈ frs l, b'.get? F = none) → h'.FunFrames b' l
  | [], _, _, _ => trivial
  | x :: l, q, k, n => by
    obtain ⟨q1, ⟨F, o, q2, _, q4, q5⟩, q6⟩ := q
    have hm : F ∈ frs (x :: l) := List.mem_filterMap.mpr ⟨x, List.mem_cons_self, q2⟩
    have sub : ∀ G ∈ frs l, G ∈ frs (x :: l) := fun G hG => by
      obtain ⟨y, hy, z⟩ := List.mem_filterMap.mp hG
      exact List.mem_filterMap.mpr ⟨y, List.mem_cons_of_mem _ hy, z⟩
    exact ⟨q1, ⟨F, o, q2, n F hm, k F hm o q4, q5⟩, frames_keep q6 (fun G hG => k G (sub G hG)) fun G hG => n G (sub G hG)⟩
end

/-- the block, when what leaves its turns is wished for by W -/
abbrev blkW (X : Cx) (W : WX) (s : Shared) (H : Hp) (scope : Scope) (ce : PySem.Env) (fp : List Addr) : Cx := (X.blk s H scope ce fp).tr [] (XE (X.blk s H scope ce fp) W)
/-- a wish that knows the frame ahead of the block -/
abbrev Wc (W : WX) (σ : L2.St) : WX := fun cls d _ H => W cls d σ H
theorem blkW_takes {X : Cx} {W : WX} {s : Shared} {H : Hp} {scope : Scope} {ce : PySem.Env} {fp : List Addr} : Takes (blkW X W s H scope ce fp) W := by
  rintro u s' ⟨a, B, sI, pins, σ, H', cls, d, e, I, nb, up, sky, na, os, ag, w⟩
  exact ⟨a, B, sI, pins, σ, H', cls, d, e, ⟨I.ok.ofTry, I.os, I.bare, I.base, I.loc, I.cell, I.free, I.freeC, I.pin, I.hok, I.len⟩, nb, up, sky, na, os, ag, w⟩

section
variable {X : Cx} {pins : List (Addr × Obj)} {σ : L2.St} {H : Hp} {W : WX}
/-- what leaves a turn leaves the comprehension -/
theorem blk_out {s3 : Shared} {scope : Scope} {ce : PySem.Env} {fp : List Addr} {use : Option (Value → Sem Unit)} {Qf : Value → Shared → Prop} {acc : Value} (hst : X.stack = X.env :: X.outer) (hf : X.env.frame = some X.env.locals) (tk : Takes X W)
    (I : L2.Inv X pins σ H s3) (hfp : ∀ b ∈ fp, FpOk X pins H b ∧ b < s3.heap.objs.size) (hcl : ce.locals = s3.heap.objs.size) (hcf : ce.frame = X.env.frame) {u : Value} {s' : Shared} (x : XE (X.blk s3 H scope ce fp) (Wc W σ) u s') :
    notedBy (model X.prog X.w) X.A ce (fun e s => compEnds (model X.prog X.w) X.A X.xe use Qf acc ce (.error e) s) u s' := by
  obtain ⟨a, B, sI, pins', σ', H', cls, d, rfl, J, nb, up, sky, na, os, ag, w⟩ := x
  have hfr : X.A.frames = some (X.env :: X.outer) := by rw [I.ok.frames, hst]
  have nL : ce.locals ≠ X.env.locals := by rw [hcl]; exact Nat.ne_of_gt I.lt
  unfold notedBy
  rw [note_eq hcf]
  have sky : Sky B X.stack a (Zc cls d) ce.locals s'.heap := sky
  rw [hst] at sky
  have go : ∀ g, HandSPX.HeldZ B (X.env :: X.outer) a (Zc cls d) X.env.locals g → s'.heap.UpToSlots g → compEnds (model X.prog X.w) X.A X.xe use Qf acc ce (.error (.ref a)) { s' with heap := g } := fun g held up2 => by
    have fails : CompFails (model X.prog X.w) X.A X.xe ce (.ref a) { s' with heap := g } := by
      have J2 := J.landed (s' := { s' with heap := g }) nb held.1 (up.trans up2) os ag
      obtain ⟨m, hn, _⟩ := J2.loc
      refine ⟨m, hn, fun h' m' hn' sb => ?_⟩
      have JX : L2.Inv X pins σ H' sI := I.call' (ch := fp) J.os J.base J.hok J.bare fun b hb => ⟨(hfp b hb).1.2.2.2.1, (hfp b hb).1.2.1, (hfp b hb).1.2.2.2.2.1, (hfp b hb).1.2.2.2.2.2⟩
      have hC0 : H' ce.locals = none := J.free
      have fC : FpOk X pins H' ce.locals := I.fpOk (by rw [hcl]; exact Nat.le_refl _) hC0
      have nfr : ce.locals ∉ frs (X.env :: X.outer) := fun hm => by
        obtain ⟨y, hy, z⟩ := List.mem_filterMap.mp hm
        rcases List.mem_cons.mp hy with rfl | hy
        · rw [hf] at z
          exact nL (Option.some.inj z).symm
        · exact fC.2.2.1 (List.mem_filterMap.mpr ⟨y, hy, z⟩)
      have frNe : ∀ F ∈ frs (X.env :: X.outer), F ≠ ce.locals := fun F hF z => nfr (by rw [← z]; exact hF)
      have cls0 : ∃ o, sI.heap.get? ce.locals = some o := by
        obtain ⟨m0, ⟨o, es, ep, ho, r⟩, _⟩ := J.loc
        exact ⟨o, ho⟩
      have aC : a ≠ ce.locals := fun z => by
        obtain ⟨o, ho⟩ := cls0
        have q := nb ce.locals o ho (by show ce.locals ∉ frs X.stack; rw [hst]; exact nfr)
        have q2 := held.2.1
        rw [z, q] at q2
        cases q2
      -- without the block's own names
      generalize hs2 : ({ sI with heap := PySem.W.hideAll sI.heap [ce.locals] } : Shared) = sI2
      have hid : ∀ b o, sI2.heap.get? b = some o → sI.heap.get? b = some o ∧ b ≠ ce.locals := fun b o q => by
        rw [← hs2] at q
        refine ⟨PySem.W.of_hideAll _ q, fun z => ?_⟩
        have n := PySem.W.hideAll_none (h := sI.heap) [ce.locals] (b := ce.locals) (List.mem_singleton_self _)
        rw [z] at q
        exact absurd (show (PySem.W.hideAll sI.heap [ce.locals]).get? ce.locals = some o from q) (by rw [n]; exact fun z => nomatch z)
      have JX2 : L2.Inv X pins σ H' sI2 := by
        rw [← hs2]
        exact JX.turned (t' := sI.toks) (fun b o hb q => PySem.W.hideAll_get _ q (by simpa using hb)) fC.1 fC.2.1 fC.2.2.2.1 fC.2.2.2.2.1 fC.2.2.2.2.2
      have hidB : ∀ b o, (PySem.W.hideAll B [ce.locals]).get? b = some o → B.get? b = some o ∧ b ≠ ce.locals := fun b o q => by
        refine ⟨PySem.W.of_hideAll _ q, fun z => ?_⟩
        have n := PySem.W.hideAll_none (h := B) [ce.locals] (b := ce.locals) (List.mem_singleton_self _)
        rw [z, n] at q
        cases q
      have same : ∀ b, b ≠ ce.locals → h'.get? b = g.get? b := fun b hb => sb.2 b hb
      obtain ⟨k1, k2, k3, oe, vs, T, oT, ts, ge, gz, gd, e1, gT0, gTe, gT, gdT, e3⟩ := held
      have TC : T ≠ ce.locals := fun z => by
        obtain ⟨o, ho⟩ := cls0
        have q := nb ce.locals o ho (by show ce.locals ∉ frs X.stack; rw [hst]; exact nfr)
        rw [z, q] at gT0
        cases gT0
      have noneB : ∀ b, B.get? b = none → (PySem.W.hideAll B [ce.locals]).get? b = none := fun b q => by
        cases hq : (PySem.W.hideAll B [ce.locals]).get? b with
        | none => rfl
        | some o => rw [(hidB b o hq).1] at q; cases q
      have held2 : HandSPX.HeldZ (PySem.W.hideAll B [ce.locals]) (X.env :: X.outer) a (Zc cls d) X.env.locals h' := by
        refine ⟨fun b o q => ?_, noneB a k2, frames_keep k3 (fun F hF o q => (same F (frNe F hF)).trans q) (fun F hF => ?_), oe, vs, T, oT, ts, (same a aC).trans ge, gz, gd, e1, noneB T gT0, gTe, (same T TC).trans gT, gdT, e3⟩
        · obtain ⟨q1, q2⟩ := hidB b o q
          exact (same b q2).trans (k1 b o q1)
        · exact noneB F (k3.mem hF).1
      have fin : wpAny (model X.prog X.w) X.A (setFlight (.ref a) (some X.env.locals)) (fun _ s4 => wpAny (model X.prog X.w) X.A (throw (.ref a) : Sem Value) (fun _ _ => False) X.xe s4) X.xe { s' with heap := h' } := by
        refine HandSPX.setFlight_onZ held2 fun h4 held4 up4 => wpAny_throw (tk _ _ ?_)
        refine ⟨a, PySem.W.hideAll B [ce.locals], sI2, pins, σ, H', cls, d, rfl, JX2, fun b o q nf => ?_, fun b o q nf => ?_, .inr (.inr (by rw [hst]; exact held4)), na, os.trans (by rw [← hs2]), ag, w⟩
        · obtain ⟨q1, q2⟩ := hid b o q
          exact PySem.W.hideAll_get _ (nb b o q1 nf) (by simpa using q2)
        · obtain ⟨q1, q2⟩ := hid b o q
          obtain ⟨sl, r1⟩ := up b o q1 nf
          obtain ⟨sl2, r2⟩ := up2 b _ r1 nf
          obtain ⟨sl3, r3⟩ := up4 b _ ((same b q2).trans r2) nf
          exact ⟨sl3, r3⟩
      unfold PySem.passOn
      refine wpAny_bind (wpAny_field ((same a aC).trans ge) gd e1 ?_)
      have t1 : ¬ ((Value.ref T == Value.none) = true) := by simp
      rw [if_neg t1, hcf, hf]
      first
        | exact wpAny_bind (wpAny_pure (wpAny_bind fin))
        | exact wpAny_bind fin
    cases use <;> exact fails
  rcases sky with ⟨q1, q2, q3, oe, vs, q4, q5, q6, q7⟩ | fl | hh
  · exact HandSPX.look_newZ Zc.steady hfr q3 hf q4 q1 q2 q6 q7 q5 go
  · exact HandSPX.looks_onZ Zc.steady hfr hf fl go
  · exact note_other Zc.steady hfr hf nL hh go
/-- the comprehension's run: as the kit's, but what leaves a turn goes on -/
theorem lc_run {s : Shared} {Q : VK} {elt tg iter : Expr} {ifs : List Expr} {scope : Scope} {own : List (Str × Nat)} {pos pos' : Pos} {wi : TI} {gt : TG} {tt : TT} {te : TE} {use : Option (Value → Sem Unit)} {Qf : Value → Shared → Prop}
    (hcalm : X.calm = true) (hst : X.stack = X.env :: X.outer) (hf : X.env.frame = some X.env.locals) (tk : Takes X W) (nodup : X.N.Nodup) (I : L2.Inv X pins σ H s) (hi : PI X tg iter wi) (bo : BlkOk X.N X.env.scope scope own)
    (tgo : ∀ (s : Shared) (H : Hp) (C : Addr) (cl : List (Str × Addr)) (fp : List Addr), PG (blkW X (Wc W σ) s H scope (compEnvC scope cl C X.env) fp) tg gt)
    (tto : ∀ (s : Shared) (H : Hp) (C : Addr) (cl : List (Str × Addr)) (fp : List Addr), PTs (blkW X (Wc W σ) s H scope (compEnvC scope cl C X.env) fp) ifs tt)
    (teo : ∀ (s : Shared) (H : Hp) (C : Addr) (cl : List (Str × Addr)) (fp : List Addr), PE (blkW X (Wc W σ) s H scope (compEnvC scope cl C X.env) fp) elt te)
    (hfold : ∀ x, foldedSetIterable iter X.env x = pure x) (h : tLc wi gt tt te (own.map (·.2)) σ H Q)
    (fin : ∀ D ce s' m H', L2.Inv X pins σ H' s' → Q (.ref D) H' → s'.heap.Ns ce.locals m → FpOk X pins H' ce.locals → compEnds (model X.prog X.w) X.A X.xe use Qf (.ref D) ce (.ok .next) s') :
    wpAny (model X.prog X.w) X.A (comprehension (.ListComp elt [⟨tg, iter, ifs, 0⟩] scope pos) scope X.env pos' (newList []) false (eval iter X.env) use) Qf X.xe s := by
  have cells : ∀ y ∈ scope.names, y.2 = .free → ∃ c, X.env.cells.lookup y.1 = some c := fun y hy e => I.ok.has _ ((bo.free y hy e).imp id id)
  refine comprehension_at (use := use) rfl hfold (closure_ok cells) bo.kind (fun y hy e => (bo.uniq y hy).trans (congrArg some e)) ?_
  refine thn (hi.run pins s σ H _ I h) fun xv s1 hx => thn hx fun itv s2 h2 => ?_
  obtain ⟨it, fp, tn, J, H2, e, I2, T, st2, f2, q⟩ := h2
  cases e
  refine wpAny_newObj_type (newEnv_comp ?_) (Nat.zero_le _)
  generalize hD : s2.heap.objs.size = D
  obtain ⟨Wl, ⟨m0, w0⟩, turn⟩ := q D (I2.hok.fresh (Nat.le_of_eq hD))
  generalize hs3 : ({ s2 with heap := s2.heap.push { cls := .type "list", data := .seq ([] : List Value).toArray } } : Shared) = s3
  have h3 : s3.heap = s2.heap.push { cls := .type "list", data := .seq ([] : List Value).toArray } := by rw [← hs3]
  have I3 : L2.Inv X pins σ (upd H2 D (.lst [])) s3 := by
    rw [← hs3]
    refine I2.laid (t' := s2.toks) (fun b o e => Heap.get?_push_of_some _ e) (Nat.le_of_eq hD) ⟨Nat.zero_le _, [], 0, .nil, ?_⟩
    rw [← hD]
    exact Heap.get?_push_size _ rfl
  have f3 : ∀ b ∈ fp, FpOk X pins (upd H2 D (.lst [])) b ∧ b < s3.heap.objs.size := fun b hb => by
    obtain ⟨o, e, _⟩ := T.obj _ _ st2 b hb
    have lt2 := Heap.lt_size e
    refine ⟨⟨(upd_ne (by rw [← hD]; exact Nat.ne_of_lt lt2)).trans (f2 b hb).1, (f2 b hb).2⟩, ?_⟩
    rw [h3, Heap.size_push]
    exact Nat.lt_succ_of_lt lt2
  have st3 : tn 0 s3.heap := T.keep _ _ _ st2 fun b _ o e => (congrArg (fun h => h.get? b) h3).trans (Heap.get?_push_of_some _ e)
  have I4a := block_start I3 bo nodup f3
  have pg := tgo s3 (upd H2 D (.lst [])) s3.heap.objs.size (cellsFrom (s3.heap.objs.size + 1) scope.names (cloFrom X.env.cells scope.names [])) fp
  have pt := tto s3 (upd H2 D (.lst [])) s3.heap.objs.size (cellsFrom (s3.heap.objs.size + 1) scope.names (cloFrom X.env.cells scope.names [])) fp
  have pe := teo s3 (upd H2 D (.lst [])) s3.heap.objs.size (cellsFrom (s3.heap.objs.size + 1) scope.names (cloFrom X.env.cells scope.names [])) fp
  show codeAny _ _ (.compStart (.ListComp elt [⟨tg, iter, ifs, 0⟩] scope pos) 0 (.ref it) (.ref D) (compEnvC scope (cellsFrom (s3.heap.objs.size + 1) scope.names (cloFrom X.env.cells scope.names [])) s3.heap.objs.size X.env))
    (compEnds (model X.prog X.w) X.A X.xe use Qf (.ref D) (compEnvC scope (cellsFrom (s3.heap.objs.size + 1) scope.names (cloFrom X.env.cells scope.names [])) s3.heap.objs.size X.env)) { s3 with heap := pushCells (s3.heap.push { cls := .type "dict", data := .dict #[] }) scope.names }
  generalize hce : compEnvC scope (cellsFrom (s3.heap.objs.size + 1) scope.names (cloFrom X.env.cells scope.names [])) s3.heap.objs.size X.env = ce at I4a pg pt pe ⊢
  have cL : ce.locals = s3.heap.objs.size := by rw [← hce]; rfl
  have cF : ce.frame = X.env.frame := by rw [← hce]; rfl
  have nfp : ∀ b ∈ fp, (upd H2 D (.lst [])) b = none := fun b hb => (f3 b hb).1.1
  generalize hH3 : upd H2 D (.lst []) = H3 at I3 I4a pg pt pe w0 nfp f3
  generalize hs4 : ({ s3 with heap := pushCells (s3.heap.push { cls := .type "dict", data := .dict #[] }) scope.names } : Shared) = s4 at I4a ⊢
  have st4 : tn 0 s4.heap := T.keep _ _ _ st3 fun b _ o e => by rw [← hs4]; exact pushCells_keeps _ _ _ _ (Heap.get?_push_of_some _ e)
  have out : ∀ {u : Value} {s' : Shared}, XE (X.blk s3 H3 scope ce fp) (Wc W σ) u s' → notedBy (model X.prog X.w) X.A ce (fun e s => compEnds (model X.prog X.w) X.A X.xe use Qf (.ref D) ce (.error e) s) u s' := fun x =>
    blk_out hst hf tk I3 f3 cL cF x
  have I4 : L2.Inv (blkW X (Wc W σ) s3 H3 scope ce fp) [] (L2.wipe σ (own.map (·.2))) H3 s4 := I4a.toTry _
  clear I4a
  generalize hB : blkW X (Wc W σ) s3 H3 scope ce fp = B at I4 pg pt pe
  have b1 : B.prog = X.prog := by rw [← hB]
  have stat : ∀ {σ' : L2.St} {H' : Hp} {s' : Shared}, L2.Inv (blkW X (Wc W σ) s3 H3 scope ce fp) [] σ' H' s' → (∀ b ∈ fp, H' b = none) → ∀ b ∈ fp, FpOk (blkW X (Wc W σ) s3 H3 scope ce fp) [] H' b := fun {σ' H' s'} I' hn b hb =>
    ⟨hn b hb, (I'.ok.exf b hb).1, I'.ok.exfs b hb, Or.inl hb, fun x c e => (I'.ok.exf b hb).2 x c e, fun p hp => absurd (show p ∈ ([] : List (Addr × Obj)) ++ [] from hp) (by simp)⟩
  subst hB
  have loop : codeAny (model X.prog X.w) X.A (.compLoop (.ListComp elt [⟨tg, iter, ifs, 0⟩] scope pos) 0 (.ref it) (.ref D) ce) (compEnds (model X.prog X.w) X.A X.xe use Qf (.ref D) ce) s4 := by
    refine compLoop_any (fun n s' => ∃ i H', L2.Inv (blkW X (Wc W σ) s3 H3 scope ce fp) [] (L2.wipe σ (own.map (·.2))) H' s' ∧ tn i s'.heap ∧ (∀ b ∈ fp, H' b = none) ∧ Wl i n H') (fun n s5 hI => ?_) m0 ⟨0, H3, I4, st4, nfp, w0⟩
    obtain ⟨i, H5, I5, st5, n5, w5⟩ := hI
    rcases turn i n H5 w5 with ⟨stop, qq⟩ | ⟨go, Nx, hNx, step⟩
    · refine thnF (T.done (blkW X (Wc W σ) s3 H3 scope ce fp) rfl rfl rfl hcalm i [] s5 _ H5 (fun _ _ => False) I5 (stat I5 n5) st5 stop) fun r s6 hr6 => ?_
      obtain ⟨rfl, I6⟩ := hr6
      have I7 : L2.Inv X pins σ H5 s6 := I3.call' (ch := fp) I6.os I6.base I6.hok I6.bare fun b hb => ⟨(f3 b hb).1.2.2.2.1, (f3 b hb).1.2.1, (f3 b hb).1.2.2.2.2.1, (f3 b hb).1.2.2.2.2.2⟩
      obtain ⟨m, hn, _⟩ := I6.loc
      exact fin D ce s6 m H5 I7 qq hn (I3.fpOk (by rw [cL]; exact Nat.le_refl _) I6.free)
    · refine thnF (T.item (blkW X (Wc W σ) s3 H3 scope ce fp) rfl rfl rfl hcalm i [] s5 _ H5 (fun _ _ => False) I5 (stat I5 n5) st5 go) fun r s6 hr6 => ?_
      obtain ⟨u, rfl, h6⟩ := hr6
      refine thnF h6 fun _ s7 h7 => ?_
      obtain ⟨x, H7, I7, r7, y7, st7, n7⟩ := h7
      have I7p := I7.pinned (stat I7 n7) (T.obj _ _ st7)
      refine wpAny_mono (pg.run _ s7 _ H7 x u _ I7p r7 (step x H7 y7)) (fun _ s8 h8 => ?_) fun _ _ z => out z
      obtain ⟨σ8, H8, I8, hw8, q8⟩ := h8
      refine wpAny_mono (pt.run _ s8 σ8 H8 _ I8 q8) (fun b s9 h9 => ?_) fun _ _ z => out z
      obtain ⟨H9, I9, q9⟩ := h9
      have next : ∀ {s' : Shared} {H' : Hp}, L2.Inv (blkW X (Wc W σ) s3 H3 scope ce fp) ([] ++ pinsAt fp s7.heap) σ8 H' s' → Nx H' →
          ∃ m, m < n ∧ ∃ i H', L2.Inv (blkW X (Wc W σ) s3 H3 scope ce fp) [] (L2.wipe σ (own.map (·.2))) H' s' ∧ tn i s'.heap ∧ (∀ b ∈ fp, H' b = none) ∧ Wl i m H' := fun {s' H'} I' nx => by
        obtain ⟨m', hm, w'⟩ := hNx H' nx
        have pinned : ∀ b ∈ fp, ∀ o, s7.heap.get? b = some o → s'.heap.get? b = some o ∧ H' b = none := fun b hb o e =>
          ⟨(I'.pin (b, o) (List.mem_append_right _ (List.mem_append_right _ (mem_pinsAt hb e)))).1, (I'.pin (b, o) (List.mem_append_right _ (List.mem_append_right _ (mem_pinsAt hb e)))).2.1⟩
        have hl : (L2.wipe σ (own.map (·.2))).length = σ8.length := by rw [← hw8, L2.wipe_length]
        refine ⟨m', hm, i + 1, H', (I'.unpinned (pins := [])).weak hl (fun j v e => (L2.wipe_some (by rw [hw8]; exact e)).1), T.keep _ _ _ st7 fun b hb o e => (pinned b hb o e).1, fun b hb => ?_, w'⟩
        obtain ⟨o, e, _⟩ := T.obj _ _ st7 b hb
        exact (pinned b hb o e).2
      cases b with
      | false =>
        rw [if_neg Bool.false_ne_true] at q9 ⊢
        exact next I9 q9
      | true =>
        rw [if_pos rfl] at q9 ⊢
        refine wpAny_mono (pe.run _ s9 σ8 H9 _ I9 q9) (fun z s10 h10 => ?_) fun _ _ z => out z
        obtain ⟨yv, H10, I10, r10, acc, hD10, hz10, nx⟩ := h10
        exact app_ok (X := blkW X (Wc W σ) s3 H3 scope ce fp) I10 hD10 hz10 r10 fun s11 I11 => next I11 nx
  exact codeAny_compStart_list loop (T.self X.A 0 _ _ _ st4 loop)
/-- its reading: what the turns come to may know the frame ahead -/
def tLcX (wi : TI) (g : TG) (tt : L2.St → TT) (te : L2.St → TE) (vs : List Nat) : TE := fun σ H Q => tLc wi g (tt σ) (te σ) vs σ H Q
theorem pe_lcX {elt tg iter : Expr} {ifs : List Expr} {scope : Scope} {own : List (Str × Nat)} {pos : Pos} {wi : TI} {gt : TG} {tt : L2.St → TT} {te : L2.St → TE}
    (hcalm : X.calm = true) (hst : X.stack = X.env :: X.outer) (hf : X.env.frame = some X.env.locals) (tk : Takes X W) (nodup : X.N.Nodup) (hi : PI X tg iter wi) (bo : BlkOk X.N X.env.scope scope own)
    (tgo : ∀ (σ : L2.St) (s : Shared) (H : Hp) (C : Addr) (cl : List (Str × Addr)) (fp : List Addr), PG (blkW X (Wc W σ) s H scope (compEnvC scope cl C X.env) fp) tg gt)
    (tto : ∀ (σ : L2.St) (s : Shared) (H : Hp) (C : Addr) (cl : List (Str × Addr)) (fp : List Addr), PTs (blkW X (Wc W σ) s H scope (compEnvC scope cl C X.env) fp) ifs (tt σ))
    (teo : ∀ (σ : L2.St) (s : Shared) (H : Hp) (C : Addr) (cl : List (Str × Addr)) (fp : List Addr), PE (blkW X (Wc W σ) s H scope (compEnvC scope cl C X.env) fp) elt (te σ))
    (hfold : ∀ x, foldedSetIterable iter X.env x = pure x) : PE X (.ListComp elt [⟨tg, iter, ifs, 0⟩] scope pos) (tLcX wi gt tt te (own.map (·.2))) := by
  refine ⟨fun pins s σ H Q I h => ?_⟩
  rw [eval_ListComp]
  refine lc_run hcalm hst hf tk nodup I hi bo (tgo σ) (tto σ) (teo σ) hfold h fun D ce s' m H' I' q hn fo => ?_
  obtain ⟨p0, p1, p2, p3, p4, p5⟩ := fo
  exact ⟨m, hn, fun h'' sb => ⟨.ref D, H', I'.turned (t' := s'.toks) (fun b o hb e => (sb.2 b hb).trans e) p0 p1 p3 p4 p5, rfl, q⟩⟩
theorem ps_lcX {i : Nat} {y : Str} {py : Pos} {elt tg iter : Expr} {ifs : List Expr} {scope : Scope} {own : List (Str × Nat)} {pos spos : Pos} {wi : TI} {gt : TG} {tt : L2.St → TT} {te : L2.St → TE}
    (hcalm : X.calm = true) (hst : X.stack = X.env :: X.outer) (hf : X.env.frame = some X.env.locals) (tk : Takes X W) (nodup : X.N.Nodup) (hy : X.N[i]? = some y) (hyl : X.env.scope.names.lookup y = some .local)
    (hsw : swapsWith (.ListComp elt [⟨tg, iter, ifs, 0⟩] scope pos) (some (.Name y py)) spos.line X.env = pure true) (hi : PI X tg iter wi) (bo : BlkOk X.N X.env.scope scope own)
    (tgo : ∀ (σ : L2.St) (s : Shared) (H : Hp) (C : Addr) (cl : List (Str × Addr)) (fp : List Addr), PG (blkW X (Wc W σ) s H scope (compEnvC scope cl C X.env) fp) tg gt)
    (tto : ∀ (σ : L2.St) (s : Shared) (H : Hp) (C : Addr) (cl : List (Str × Addr)) (fp : List Addr), PTs (blkW X (Wc W σ) s H scope (compEnvC scope cl C X.env) fp) ifs (tt σ))
    (teo : ∀ (σ : L2.St) (s : Shared) (H : Hp) (C : Addr) (cl : List (Str × Addr)) (fp : List Addr), PE (blkW X (Wc W σ) s H scope (compEnvC scope cl C X.env) fp) elt (te σ))
    (hfold : ∀ x, foldedSetIterable iter X.env x = pure x) : PS X (.Assign [.Name y py] (.ListComp elt [⟨tg, iter, ifs, 0⟩] scope pos) spos) (tAsg (tLcX wi gt tt te (own.map (·.2))) (gName i)) := by
  refine ⟨fun pins s σ H D I h => ?_⟩
  rw [exec_Assign_Name_used _ _ _ _ hsw]
  refine wpAny_bind (wpAny_standAt (wpAny_bind ?_))
  have h : tLc wi gt (tt σ) (te σ) (own.map (·.2)) σ H (fun x H1 => gName i x σ H1 D.nx) := h
  refine wpAny_bind (thn (lc_run (Qf := fun _ s' => SP X pins D .next s') (use := some (assign (.Name y py) X.env)) hcalm hst hf tk nodup I hi bo (tgo σ) (tto σ) (teo σ) hfold h fun L ce s' m H' I' q hn fo => ?_) fun _ s' hq => wpAny_pure (wpAny_pure hq))
  show wpAny (model X.prog X.w) X.A (assign (.Name y py) X.env (.ref L)) _ X.xe s'
  obtain ⟨p0, p1, p2, p3, p4, p5⟩ := fo
  refine wpAny_assign_Name (store_ok2 (v := V.ref L) I' nodup hy (.inl hyl) rfl (fun s2 I2 k2 => ?_) (.inr hyl))
  obtain ⟨a, sb, ha⟩ := k2
  have neq : ce.locals ≠ a := by
    rcases ha with z | z
    · rw [z]; exact p1
    · exact fun e => p4 y a z e.symm
  exact ⟨m, hn.sameBut sb neq, fun h3 sb3 => ⟨_, H', I2.turned (t' := s2.toks) (fun b o hb e => (sb3.2 b hb).trans e) p0 p1 p3 p4 p5, q⟩⟩
end
end Rwl

set_option Elab.async false
set_option linter.all false
set_option maxRecDepth 100000
set_option maxHeartbeats 1000000
/-! Rwl, part H: targets, comprehensions, try. -/
namespace Rwl
open PySem PySem.Spec PyProof.Rows L2 Evl

/-! ### targets -/
def gNames : List Nat → TGs
  | [] => gNil
  | i :: is => gCons (gName i) (gNames is)
def Tg.g (K : PySem.W.Frag) (t : Tg) : TG := match t.many with
  | false => match t.is with
    | [i] => gName i
    | _ => fun _ _ _ _ => False
  | true => gTup K t.is.length (gNames t.is)
theorem wipe_get (σ : L2.St) (j : Nat) : ∀ vs : List Nat, (L2.wipe σ vs)[j]? = if j ∈ vs ∧ j < σ.length then some none else σ[j]?
  | [] => by simp [L2.wipe]
  | v :: vs => by
    have ih := wipe_get σ j vs
    have hl := L2.wipe_length σ vs
    show ((L2.wipe σ vs).set v none)[j]? = _
    rw [List.getElem?_set, hl]
    by_cases hv : v = j
    · subst hv
      rw [if_pos rfl]
      by_cases hj : v < σ.length
      · rw [if_pos hj, if_pos ⟨List.mem_cons_self, hj⟩]
      · rw [if_neg hj, if_neg (fun z => hj z.2), List.getElem?_eq_none (by omega)]
    · rw [if_neg hv, ih]
      by_cases hj : j ∈ vs ∧ j < σ.length
      · rw [if_pos hj, if_pos ⟨List.mem_cons_of_mem _ hj.1, hj.2⟩]
      · rw [if_neg hj, if_neg (fun z => hj ⟨(List.mem_cons.mp z.1).resolve_left (fun e => hv e.symm), z.2⟩)]
theorem wipe_set {σ : L2.St} {i : Nat} {x : Option V} {vs : List Nat} (h : i ∈ vs) : L2.wipe (σ.set i x) vs = L2.wipe σ vs := by
  apply List.ext_getElem?
  intro j
  rw [wipe_get, wipe_get, List.length_set]
  by_cases hj : j ∈ vs ∧ j < σ.length
  · rw [if_pos hj, if_pos hj]
  · rw [if_neg hj, if_neg hj]
    by_cases e : i = j
    · subst e
      have hn : ¬ i < σ.length := fun z => hj ⟨h, z⟩
      rw [List.getElem?_eq_none (by rw [List.length_set]; omega), List.getElem?_eq_none (by omega)]
    · rw [List.getElem?_set_ne e]
theorem wipe_wipe (σ : L2.St) (vs : List Nat) : L2.wipe (L2.wipe σ vs) vs = L2.wipe σ vs := by
  apply List.ext_getElem?
  intro j
  rw [wipe_get, wipe_get, L2.wipe_length]
  by_cases hj : j ∈ vs ∧ j < σ.length
  · rw [if_pos hj, if_pos hj]
  · rw [if_neg hj]
section
variable {U : Ux} {K : PySem.W.Frag} {Y Z : List Addr} {H : Hp} {vs : List V} {ds : List D} {Q : L2.St → Hp → Prop}
theorem g_names (own : List Nat) : ∀ {is : List Nat} {vs : List V} {ds : List D} {σ : L2.St} {env env' : Env}, EnvOk U K Y Z H σ env → DatL U K (view H Z) vs ds → bindT env is ds = .ok env' → (∀ i ∈ is, i ∈ own ∨ own = []) →
    (∀ σ', EnvOk U K Y Z H σ' env' → (own ≠ [] → L2.wipe σ' own = L2.wipe σ own) → Q σ' H) → gNames is vs σ H Q
  | [], _, _, _, _, _, h, hd, he, _, k => by
    cases hd with
    | nil =>
      cases ok_inj he
      exact ⟨rfl, k _ h fun _ => rfl⟩
    | cons _ _ => cases he
  | i :: is, _, _, _, _, _, h, hd, he, ho, k => by
    cases hd with
    | nil => cases he
    | cons h1 h2 =>
      refine ⟨_, _, rfl, ?_⟩
      refine g_names own (h.set i h1) h2 he (fun j hj => ho j (List.mem_cons_of_mem _ hj)) fun σ' h' hw => k σ' h' fun hn => ?_
      rw [hw hn]
      exact wipe_set ((ho i List.mem_cons_self).resolve_right hn)
theorem g_run (own : List Nat) {t : Tg} {v : V} {d : D} {σ : L2.St} {env env' : Env} (h : EnvOk U K Y Z H σ env) (hd : Dat U K (view H Z) v d) (he : t.run env d = .ok env') (ho : ∀ i ∈ t.is, i ∈ own ∨ own = [])
    (k : ∀ σ', EnvOk U K Y Z H σ' env' → (own ≠ [] → L2.wipe σ' own = L2.wipe σ own) → Q σ' H) : t.g K v σ H Q := by
  obtain ⟨m, is⟩ := t
  cases m with
  | false =>
    match is, he, ho with
    | [i], he, ho =>
      cases ok_inj he
      exact k _ (h.set i hd) fun hn => wipe_set ((ho i List.mem_cons_self).resolve_right hn)
  | true =>
    cases d with
    | tuple ds =>
      obtain ⟨a, xs, rfl, h1, h2⟩ := hd.tupleH
      have hl : ds.length = is.length := by
        have : ∀ {is : List Nat} {ds : List D} {env env' : Env}, bindT env is ds = .ok env' → ds.length = is.length := by
          intro is
          induction is with
          | nil => intro ds env env' e; cases ds with
            | nil => rfl
            | cons _ _ => cases e
          | cons i is ih => intro ds env env' e; cases ds with
            | nil => cases e
            | cons d ds => exact congrArg (· + 1) (ih e)
        exact this he
      exact ⟨a, xs, rfl, h1, by rw [h2.length]; exact hl, g_names own h h2 he ho k⟩
    | _ => cases he
end

/-! ### comprehensions -/
/-- a turn's element, with what leaves it -/
def Ebl (X : Cx) (W : WX) (scope : Scope) (e : Expr) (σ : L2.St) : TE := fun σ2 H Q => ∀ s H0 C cl fp, Ew (blkW X (Wc W σ) s H0 scope (compEnvC scope cl C X.env) fp) e σ2 H Q
/-- tests: none, or one -/
def Pw (X : Cx) (ifs : List Expr) : TT := fun σ H Q => ∀ pins s, L2.Inv X pins σ H s → wpAny (model X.prog X.w) X.A (forIn ifs true fun c r => if r = true then do let ok ← isTrue c X.env (eval c X.env); pure (ForInStep.yield ok) else pure (ForInStep.yield r)) (TP X pins σ Q) X.xe s
theorem pw {X : Cx} {ifs : List Expr} : PTs X ifs (Pw X ifs) := ⟨fun pins s _ _ _ I h => h pins s I⟩
theorem pw_of {X : Cx} {ifs : List Expr} {t : TT} {σ : L2.St} {H : Hp} {Q : Bool → Hp → Prop} (p : PTs X ifs t) (h : t σ H Q) : Pw X ifs σ H Q := fun pins s I => p.run pins s σ H Q I h
def Pbl (X : Cx) (W : WX) (scope : Scope) (ifs : List Expr) (σ : L2.St) : TT := fun σ2 H Q => ∀ s H0 C cl fp, Pw (blkW X (Wc W σ) s H0 scope (compEnvC scope cl C X.env) fp) ifs σ2 H Q
/-- what one datum of the walked list gives -/
def lcOne (env : Env) (vs : List Nat) (t : Tg) (c e : E) (d : D) : Res (Option D) := (t.run (env.wipe vs) d).bind fun env' => (evP env' c).bind fun k => match k with
  | true => (evE env' e).bind fun y => .ok (some y)
  | false => .ok none
section
variable {U : Ux} {W : WX} {X : Cx} {Y Z : List Addr} {σ : L2.St} {H : Hp}
theorem y_P0 {W : WX} : Yl U W RQ (Pw X []) σ H (.ok true) := Yl.imp (fun _ _ _ q => pw_of pts_nil q) (Yl.ret (R := RQ) (b := true) fun _ _ => rfl)
theorem y_P1 {W : WX} {c : Expr} {r : Res Bool} (h : Yl U W RQ (Tw X c) σ H r) : Yl U W RQ (Pw X [c]) σ H r := Yl.imp (fun _ _ _ q => pw_of (pts_one tw) q) h
theorem bindT_nox {is : List Nat} : ∀ {ds : List D} {env : Env}, Nox (bindT env is ds) := by
  induction is with
  | nil => intro ds env; cases ds with
    | nil => exact .ok _
    | cons _ _ => exact .bad
  | cons i is ih => intro ds env; cases ds with
    | nil => exact .bad
    | cons d ds => exact ih
theorem tg_nox {tg : Tg} {env : Env} {d : D} : Nox (tg.run env d) := by
  obtain ⟨m, is⟩ := tg
  cases m with
  | false => exact bindT_nox
  | true => cases d <;> first | exact bindT_nox | exact .bad
/-- what is wanted when ys is there and the rest of the list is to be walked -/
def LcG (U : Ux) (W : WX) (K : PySem.W.Frag) (Z : List Addr) (σ : L2.St) (H1 : Hp) (Q : VK) (f : D → Res (Option D)) (ys rest : List D) : Prop := FinF U W K Z σ H1 Q ((lcRun f rest).bind fun zs => .ok (.list (ys ++ zs)))
theorem LcG.step {K : PySem.W.Frag} {H1 : Hp} {Q : VK} {f : D → Res (Option D)} {ys rest : List D} {d : D} {o : Option D} (h : LcG U W K Z σ H1 Q f ys (d :: rest)) (e : f d = .ok o) : LcG U W K Z σ H1 Q f (ys ++ o.toList) rest := by
  have h : FinF U W K Z σ H1 Q (((f d).bind fun o => (lcRun f rest).bind fun zs => .ok (o.toList ++ zs)).bind fun zs => .ok (.list (ys ++ zs))) := h
  rw [e] at h
  show FinF U W K Z σ H1 Q ((lcRun f rest).bind fun zs => .ok (.list (ys ++ o.toList ++ zs)))
  cases hr : lcRun f rest with
  | ok zs =>
    rw [hr] at h
    have h : FinF U W K Z σ H1 Q (.ok (.list (ys ++ (o.toList ++ zs)))) := h
    rw [← List.append_assoc] at h
    exact h
  | exc c => rw [hr] at h; exact h
  | bad => rw [hr] at h; exact h
theorem LcG.leave {K : PySem.W.Frag} {H1 : Hp} {Q : VK} {f : D → Res (Option D)} {ys rest : List D} {d : D} {c : Nat} (h : LcG U W K Z σ H1 Q f ys (d :: rest)) (e : f d = .exc c) : ∃ C, U.ec c = some C ∧ ∀ H', Ex H1 H' → W (.ref C) none σ H' := by
  have h : FinF U W K Z σ H1 Q (((f d).bind fun o => (lcRun f rest).bind fun zs => .ok (o.toList ++ zs)).bind fun zs => .ok (.list (ys ++ zs))) := h
  rw [e] at h
  exact h
theorem LcG.not {K : PySem.W.Frag} {H1 : Hp} {Q : VK} {f : D → Res (Option D)} {ys rest : List D} {d : D} (h : LcG U W K Z σ H1 Q f ys (d :: rest)) (e : f d = .bad) : False := by
  have h : FinF U W K Z σ H1 Q (((f d).bind fun o => (lcRun f rest).bind fun zs => .ok (o.toList ++ zs)).bind fun zs => .ok (.list (ys ++ zs))) := h
  rw [e] at h
  exact h
/-- the reading of a comprehension; what is wanted: a fresh list -/
theorem f_lcT {scope : Scope} {own : List (Str × Nat)} {tg iter elt : Expr} {ifs : List Expr} {t : Tg} {env : Env} {c e : E} {ri : Res (List D)} (hE : EnvOk U X.K Y Z H σ env)
    (hi : Yl U W (RI U X.K Z) (Iw X tg iter) σ H ri) (hne : own.map (·.2) ≠ []) (sub : ∀ i ∈ t.is, i ∈ own.map (·.2))
    (hc : ∀ σ' H' Z' env', EnvOk U X.K Y Z' H' σ' env' → Yl U (Wc W σ) RQ (Pbl X W scope ifs σ) σ' H' (evP env' c))
    (he : ∀ σ' H' Z' env', EnvOk U X.K Y Z' H' σ' env' → Yl U (Wc W σ) (RE U X.K Z') (Ebl X W scope elt σ) σ' H' (evE env' e)) :
    Fr U W X.K Z (tLcX (Iw X tg iter) (t.g X.K) (Pbl X W scope ifs) (Ebl X W scope elt) (own.map (·.2))) σ H (ri.bind fun ds => req (decide (ds.length ≤ lim)) ((lcRun (lcOne env (own.map (·.2)) t c e) ds).bind fun ys => .ok (.list ys))) := by
  generalize hvs : own.map (·.2) = vs at sub hne ⊢
  generalize hf : lcOne env vs t c e = f
  intro H0 e0 Q0 q0
  refine (Fr.one (X := X) (U := U) (W := W) (Z := Z) (t1 := Iw X tg iter) (tt := fun J H1 Q => ∀ D, H1 D = none → ∃ W : Nat → Nat → Hp → Prop, (∃ m, W 0 m (upd H1 D (.lst []))) ∧ ∀ i m H, W i m H →
    (J.stop i H ∧ Q (V.ref D) H) ∨ (J.go i H ∧ ∃ Nx : Hp → Prop, (∀ H', Nx H' → ∃ m', m' < m ∧ W (i + 1) m' H') ∧ ∀ x H', J.yld i H x H' → t.g X.K x (L2.wipe σ vs) H' fun σ2 H2 => L2.wipe σ2 vs = L2.wipe σ vs ∧ Pbl X _ scope ifs σ σ2 H2 fun b H3 =>
      if b = true then Ebl X _ scope elt σ σ2 H3 fun y H4 => ∃ acc, H4 D = some (.lst acc) ∧ acc.length < sizeLine ∧ Nx (upd H4 D (.lst (acc ++ [y]))) else Nx H3)) hi fun ds J H1 Q e1 wk q => ?_) H0 e0 Q0 q0
  intro L hD
  cases hlen : decide (ds.length ≤ lim) with
  | false => rw [hlen] at q; exact (show False from q).elim
  | true =>
    rw [hlen] at q
    have hlim := of_decide_eq_true hlen
    have q : LcG U W X.K Z σ H1 Q f [] ds := q
    -- the state between the turns
    refine ⟨fun i m H' => m = ds.length - i ∧ i ≤ ds.length ∧ Ex H1 H' ∧ ∃ acc ys, H' L = some (.lst acc) ∧ DatL U X.K (view H' (L :: Z)) acc ys ∧ LcG U W X.K Z σ H1 Q f ys (ds.drop i) ∧ ys.length ≤ i,
      ⟨ds.length, by simp, Nat.zero_le _, Ex.new hD, [], [], upd_same, .nil, by rw [List.drop_zero]; exact q, Nat.le_refl _⟩, ?_⟩
    rintro i m H' ⟨rfl, hil, ex, acc, ys, hacc, hdl, hz, hyl⟩
    have zt1 : Zt Z H1 := hE.zt.mono e1
    have vw : Ex (view H1 Z) (view H' (L :: Z)) := ex_view_cons ex hD
    obtain ⟨walk, stop⟩ := wk H' (L :: Z) vw
    by_cases hlt : i < ds.length
    · obtain ⟨go, yl⟩ := walk i hlt
      refine .inr ⟨go, fun H'' => Ex H1 H'' ∧ ∃ acc ys, H'' L = some (.lst acc) ∧ DatL U X.K (view H'' (L :: Z)) acc ys ∧ LcG U W X.K Z σ H1 Q f ys (ds.drop (i + 1)) ∧ ys.length ≤ i + 1, ?_, ?_⟩
      · rintro H'' ⟨ex', acc', ys', r1, r2, r3, r5⟩
        exact ⟨ds.length - (i + 1), by omega, rfl, hlt, ex', acc', ys', r1, r2, r3, r5⟩
      · intro x H'' hy
        obtain ⟨rfl, d, hd, dx⟩ := yl x H'' hy
        have hdrop : ds.drop i = d :: ds.drop (i + 1) := by
          rw [List.drop_eq_getElem_cons hlt]
          have e2 : ds[i] = d := by
            rw [List.getElem?_eq_getElem hlt] at hd
            exact Option.some.inj hd
          rw [e2]
        rw [hdrop] at hz
        have hEH : EnvOk U X.K Y (L :: Z) H'' σ env := (hE.mono e1).hide ex hD hacc
        have hEw := hEH.wipe vs
        cases ht : t.run (env.wipe vs) d with
        | exc c' => exact absurd ht (tg_nox c')
        | bad => exact (hz.not (by rw [← hf]; unfold lcOne; rw [ht]; rfl)).elim
        | ok env' =>
          have hfd : f d = (evP env' c).bind fun k => match k with
            | true => (evE env' e).bind fun y => .ok (some y)
            | false => .ok none := by rw [← hf]; unfold lcOne; rw [ht]; rfl
          refine g_run vs hEw dx ht (fun j hj => .inl (sub j hj)) fun σ' hE' hw => ?_
          have hw' : L2.wipe σ' vs = L2.wipe σ vs := by rw [hw hne, wipe_wipe]
          refine ⟨hw', ?_⟩
          have hcc := hc σ' H'' (L :: Z) env' hE'
          refine hcc H'' (Ex.refl _) _ ?_
          cases hk : evP env' c with
          | bad => exact (hz.not (by rw [hfd, hk]; rfl)).elim
          | exc c' =>
            obtain ⟨C, l1, l2⟩ := hz.leave (c := c') (by rw [hfd, hk]; rfl)
            exact ⟨C, l1, fun H3 e3 => l2 H3 (ex.trans e3)⟩
          | ok k =>
            rw [hk, bind_ok] at hfd
            rintro b H3 e3 rfl
            cases b with
            | true =>
              show Ebl X W scope elt σ σ' H3 _
              have hee := he σ' H3 (L :: Z) env' (hE'.mono e3)
              refine hee H3 (Ex.refl _) _ ?_
              cases hy : evE env' e with
              | bad => exact (hz.not (by rw [hfd]; dsimp only; rw [hy]; rfl)).elim
              | exc c' =>
                obtain ⟨C, l1, l2⟩ := hz.leave (c := c') (by rw [hfd]; dsimp only; rw [hy]; rfl)
                exact ⟨C, l1, fun H4 e4 => l2 H4 ((ex.trans e3).trans e4)⟩
              | ok y =>
                have hnx := hz.step (o := some y) (by rw [hfd]; dsimp only; rw [hy]; rfl)
                intro v H4 e4 dv
                have e34 := e3.trans e4
                refine ⟨acc, e34 _ _ hacc, by rw [hdl.length]; exact lim_lt (by omega), Ex.mut (ex.trans e34) hD, acc ++ [v], ys ++ [y], upd_same, ?_, hnx, ?_⟩
                · rw [view_upd List.mem_cons_self]
                  exact (hdl.mono (ex_view e34 (L :: Z))).append (.one dv)
                · rw [List.length_append, List.length_singleton]; omega
            | false =>
              have hnx := hz.step (o := none) hfd
              exact ⟨ex.trans e3, acc, ys, e3 _ _ hacc, hdl.mono (ex_view e3 (L :: Z)), by rw [show ys ++ (none : Option D).toList = ys from List.append_nil ys] at hnx; exact hnx, by omega⟩
    · have hi' : i = ds.length := by omega
      subst hi'
      rw [List.drop_length] at hz
      have hz : FinF U W X.K Z σ H1 Q (.ok (.list (ys ++ []))) := hz
      rw [List.append_nil] at hz
      exact .inl ⟨stop, hz L acc H' hD ex hacc hdl⟩
end
end Rwl

set_option Elab.async false
set_option linter.all false
set_option maxRecDepth 100000
set_option maxHeartbeats 1000000
/-! Rwl, part I: a comprehension as an expression and as a stored one; an exception that is caught and kept. -/
namespace Rwl
open PySem PySem.Spec PyProof.Rows L2 Evl
section
variable {U : Ux} {W : WX} {X : Cx} {Y Z : List Addr} {σ : L2.St} {H : Hp}
/-! ### comprehensions -/
theorem ebl {scope : Scope} {e : Expr} (σ : L2.St) (s : Shared) (H0 : Hp) (C : Addr) (cl : List (Str × Addr)) (fp : List Addr) : PE (blkW X (Wc W σ) s H0 scope (compEnvC scope cl C X.env) fp) e (Ebl X W scope e σ) :=
  ⟨fun pins s' _ _ _ I h => h s H0 C cl fp pins s' I⟩
theorem pbl {scope : Scope} {ifs : List Expr} (σ : L2.St) (s : Shared) (H0 : Hp) (C : Addr) (cl : List (Str × Addr)) (fp : List Addr) : PTs (blkW X (Wc W σ) s H0 scope (compEnvC scope cl C X.env) fp) ifs (Pbl X W scope ifs σ) :=
  ⟨fun pins s' _ _ _ I h => h s H0 C cl fp pins s' I⟩
/-- the reading of the comprehension -/
def Lw (X : Cx) (W : WX) (scope : Scope) (own : List (Str × Nat)) (t : Tg) (tg iter elt : Expr) (ifs : List Expr) : TE := tLcX (Iw X tg iter) (t.g X.K) (Pbl X W scope ifs) (Ebl X W scope elt) (own.map (·.2))
theorem pe_lcw {elt tg iter : Expr} {ifs : List Expr} {scope : Scope} {own : List (Str × Nat)} {pos : Pos} {t : Tg} (hc : X.calm = true) (hst : X.stack = X.env :: X.outer) (hf : X.env.frame = some X.env.locals) (tk : Takes X W) (hN : X.N.Nodup) (ok : BlkOk X.N X.env.scope scope own)
    (hg : ∀ (σ : L2.St) (s : Shared) (H : Hp) (C : Addr) (cl : List (Str × Addr)) (fp : List Addr), PG (blkW X (Wc W σ) s H scope (compEnvC scope cl C X.env) fp) tg (t.g X.K)) (hs : nset iter = true) :
    PE X (.ListComp elt [⟨tg, iter, ifs, 0⟩] scope pos) (Lw X W scope own t tg iter elt ifs) :=
  pe_lcX hc hst hf tk hN iw ok hg pbl ebl (folded_no hs)
theorem ps_lcw {i : Nat} {y : Str} {py spos : Pos} {elt tg iter : Expr} {ifs : List Expr} {scope : Scope} {own : List (Str × Nat)} {pos : Pos} {t : Tg} (hc : X.calm = true) (hst : X.stack = X.env :: X.outer) (hf : X.env.frame = some X.env.locals) (tk : Takes X W) (hN : X.N.Nodup)
    (hk : X.env.scope.kind = .function) (hy : X.N[i]? = some y) (hyl : X.env.scope.names.lookup y = some .local) (hl : (py.line == pos.line) = true) (ha : (scope.names.any fun (n, k) => n == y && (k == .local || k == .cell)) = false) (ok : BlkOk X.N X.env.scope scope own)
    (hg : ∀ (σ : L2.St) (s : Shared) (H : Hp) (C : Addr) (cl : List (Str × Addr)) (fp : List Addr), PG (blkW X (Wc W σ) s H scope (compEnvC scope cl C X.env) fp) tg (t.g X.K)) (hs : nset iter = true) :
    PS X (.Assign [.Name y py] (.ListComp elt [⟨tg, iter, ifs, 0⟩] scope pos) spos) (tAsg (Lw X W scope own t tg iter elt ifs) (gName i)) :=
  ps_lcX hc hst hf tk hN hy hyl (sw_true hk hyl hl ha) iw ok hg pbl ebl (folded_no hs)

/-! ### an exception is kept -/
theorem inv_track {pins : List (Addr × Obj)} {s : Shared} {a : Addr} {o : HO} (I : L2.Inv X pins σ H s) (na : H a = none) (old : ∀ o, X.s_0.heap.get? a ≠ some o) (nL : a ≠ X.env.locals) (nC : ∀ x c, X.env.cells.lookup x = some c → c ≠ a) (np : ∀ p ∈ X.pn ++ pins, p.1 ≠ a)
    (new : ObjOk X.prog X.w (upd H a o) s.heap a o) : L2.Inv X pins σ (upd H a o) s := by
  have b0 := I.base
  refine ⟨I.ok, I.os, I.bare, ⟨b0.keep, b0.slot, fun b u e n hx => ?_, b0.there, fun b xs e => ?_, fun b u xs e => ?_, fun b ps e => ?_⟩, I.loc, I.cell, ?_, fun x c e => ?_, fun p hp => ?_, fun b u e => ?_, I.len⟩
  · rw [upd_ne (fun z => old u (by rw [← z]; exact e))]
    exact b0.free b u e n hx
  · have e1 := b0.tups b xs e
    rw [upd_ne (ne_of_none e1 na)]
    exact e1
  · have e1 := b0.frzs b u xs e
    rw [upd_ne (ne_of_none e1 na)]
    exact e1
  · obtain ⟨m, e1⟩ := b0.tbls b ps e
    exact ⟨m, by rw [upd_ne (ne_of_none e1 na)]; exact e1⟩
  · rw [upd_ne (Ne.symm nL)]; exact I.free
  · rw [upd_ne (nC x c e)]; exact I.freeC x c e
  · obtain ⟨h1, h2, h3⟩ := I.pin p hp
    exact ⟨h1, by rw [upd_ne (np p hp)]; exact h2, h3⟩
  · by_cases hb : b = a
    · subst hb; rw [upd_same] at e; cases e; exact new
    · rw [upd_ne hb] at e
      exact (I.hok b u e).stay (fun c v _ q => q) (fun c q => by rw [upd_ne (ne_of_none q na)]; exact q) fun c xs q => by rw [upd_ne (ne_of_none q na)]; exact q
/-- the context of the clause -/
theorem inv_suite {pins : List (Addr × Obj)} {s : Shared} {a : Addr} (I : L2.Inv X pins σ H s) : L2.Inv (X.suite a (X.pn ++ pins)) [] σ H s :=
  ⟨I.ok.suite _ _, I.os, I.bare, I.base, I.loc, I.cell, I.free, I.freeC, fun p hp => I.pin p (by rw [List.append_nil] at hp; exact hp), I.hok, I.len⟩
theorem inv_unsuite {pins pn' : List (Addr × Obj)} {s : Shared} {a : Addr} (I : L2.Inv (X.suite a (X.pn ++ pins)) pn' σ H s) (ok : X.Ok) : L2.Inv X pins σ H s :=
  ⟨ok, I.os, I.bare, I.base, I.loc, I.cell, I.free, I.freeC, fun p hp => I.pin p (List.mem_append_left _ hp), I.hok, I.len⟩
/-- what the clause 'except x as n: k = n' wishes: slot j is k's, i is n's -/
def wKeep (K : PySem.W.Frag) (c : Value) (i j : Nat) (Wout : WX) (D : Ends) : WX := fun cls d σ H =>
  ∃ b, PySem.W.exmOne K cls c = some b ∧ (b = true → ∃ C, cls = .ref C ∧ d = none ∧ ∀ a, H a = none → D.nx (((σ.set i (some (.ref a))).set j (some (.ref a))).set i none) (upd H a (ExT C a))) ∧ (b = false → Wout cls d σ H)
theorem ps_try_keep {x n m : Str} {c : Value} {i j : Nat} {body : List Stmt} {np kp ep sp pos pos' : Pos} {tb : WX → TS} {Wout : WX} (hs : X.stack = X.env :: X.outer) (hf : X.env.frame = some X.env.locals) (hex : X.ex = []) (hN : X.N.Nodup) (hi : X.N[i]? = some n) (hln : X.env.kindOf n = some .local)
    (hj : X.N[j]? = some m) (hlm : X.env.scope.names.lookup m = some .local) (hlt : i < X.N.length) (hc : Names X x c) (tk : Takes X Wout) (nd : (n == ("__debug__" : Str)) = false) (ncd : (n == ("__classdict__" : Str)) = false)
    (hb : ∀ (W : WX) (pn : List (Addr × Obj)) (xe : Value → Shared → Prop), Takes (X.tr pn xe) W → PassesOwn (model X.prog X.w) X.A X.env xe → PSs (X.tr pn xe) body (tb W)) :
    PS X (.Try body [.ExceptHandler (some (.Name x np)) (some n) [.Assign [.Name m kp] (.Name n ep) sp] pos'] [] [] pos) (fun D σ H => tb (wKeep X.K c i j Wout D) D σ H) := by
  refine ⟨fun pins s σ H D I h => ?_⟩
  have ok := I.ok
  have hfr : X.A.frames = some (X.env :: X.outer) := by rw [ok.frames, hs]
  have hloc : Loc X.env.scope n := .inl hln
  refine wpAny_Try_except ?_
  refine wpAny_mono ((hb (wKeep X.K c i j Wout D) (X.pn ++ pins) (fun e s₁ => wpAny (model X.prog X.w) X.A (noteFrame e X.env) (fun _ s₂ => wpAny (model X.prog X.w) X.A (setFlight e none) (fun _ s₃ =>
    wpAny (model X.prog X.w) X.A (handleBy e X.env [.ExceptHandler (some (.Name x np)) (some n) [.Assign [.Name m kp] (.Name n ep) sp] pos']) (SP X pins D) X.xe s₃) X.xe s₂) X.xe s₁) (fun u s' xx => ?_) PassesOwn.looking).run [] s σ H D (I.toTry _) h) (fun f s1 hsp => ?_) (fun e s1 he => he)
  · -- the catch
    obtain ⟨a, B, sI, pins', σ', H', cls, d, rfl, J', nb, up, sky, na, os, ag, b, hb1, hyes, hno⟩ := xx
    have J : L2.Inv X pins σ' H' sI := J'.ofTry ok
    have sky' : Sky B (X.env :: X.outer) a (Zc cls d) X.env.locals s'.heap := by rw [← hs]; exact sky
    show wpAny (model X.prog X.w) X.A (noteFrame (.ref a) X.env) _ _ _
    refine Sky.land Zc.steady hfr hf sky' fun h3 fl3 up3 => ?_
    have J3 : L2.Inv X pins σ' H' { s' with heap := h3 } := J.landed nb fl3.1 (up.trans up3) os ag
    obtain ⟨oe3, vs3, he3, hz3, hd3⟩ := fl3.there
    have notFr : ∀ {h : Heap} {o : Obj} {vs : Array Value}, h.FunFrames B (X.env :: X.outer) → h.get? a = some o → o.data = .fields vs → a ∉ frs (X.env :: X.outer) := fun {h o vs} ff e dd hm => by
      obtain ⟨_, o', e', hnf⟩ := ff.mem hm
      rw [e] at e'; cases e'
      exact hnf _ dd
    have nfr := notFr fl3.2.2.1 he3 hd3
    have nL : a ≠ X.env.locals := fun z => nfr (List.mem_filterMap.mpr ⟨X.env, List.mem_cons_self, by rw [hf, z]⟩)
    have nF : a ∉ X.fs := fun hm => by
      obtain ⟨e, he, q⟩ := List.mem_filterMap.mp hm
      exact nfr (List.mem_filterMap.mpr ⟨e, List.mem_cons_of_mem _ he, q⟩)
    have nB : B.get? a = none := fl3.2.1
    have nI : ∀ o, sI.heap.get? a ≠ some o := fun o e => by
      have z := nb a o e (by rw [hs]; exact nfr)
      rw [nB] at z; cases z
    have old : ∀ o, X.s_0.heap.get? a ≠ some o := fun o e => by
      obtain ⟨o', e'⟩ := J.base.there a o e (by rw [hex]; simp)
      exact nI o' e'
    have npa : ∀ p ∈ X.pn ++ pins, p.1 ≠ a := fun p hp z => nI p.2 (by rw [← z]; exact (J.pin p hp).1)
    have nC : ∀ x c, X.env.cells.lookup x = some c → c ≠ a := fun x c e z => by
      obtain ⟨v, oc, q, _⟩ := J.cell x c e
      exact nI oc (by rw [← z]; exact q)
    have S3 := J3.suite he3 hd3 na nL nF
    refine wpAny_handleBy_cons (codeAny_handlers_test ?_) (by intro q; cases q)
    have LT : PySem.W.Looks (model X.prog X.w) h3 (typeOf (.ref a)) cls := fun A Q E s k q => wpAny_typeOf_ref (k _ _ he3) (by rw [hz3.1]; exact q)
    have LM := PySem.W.exm_one (M := model X.prog X.w) (J3.kIn) LT hb1
    have test : ∀ {Q : Value → Shared → Prop} {E : Value → Shared → Prop}, Q c { s' with heap := h3 } → wpAny (model X.prog X.w) (X.A.mark (some (.ref a))) (eval (.Name x np) X.env) Q E { s' with heap := h3 } := fun {Q E} q => by
      obtain ⟨hg, hdbg, hm | ⟨hm, hv, hnn⟩⟩ := hc
      · exact ld_glob (X := X.suite a ((a, oe3) :: (X.pn ++ pins))) S3 hg hm q hdbg
      · exact ld_blt (X := X.suite a ((a, oe3) :: (X.pn ++ pins))) S3 hg hm hv q hnn hdbg
    refine test (LM.here ?_)
    cases b with
    | true =>
      obtain ⟨C, rfl, rfl, hq⟩ := hyes rfl
      refine codeAny_handlers_suite_as ?_
      refine HandSPX.lands_againZ fl3 fun h4 fl4 up4 => ?_
      have J4 : L2.Inv X pins σ' H' { s' with heap := h4 } := J.landed nb fl4.1 ((up.trans up3).trans up4) os ag
      obtain ⟨oe4, vs4, he4, hz4, hd4⟩ := fl4.there
      have T4 : L2.Inv X pins σ' (upd H' a (ExT C a)) { s' with heap := h4 } := inv_track J4 na old nL nC npa
        ⟨⟨oe4, vs4, he4, hz4, hd4⟩, ⟨oe4, he4⟩, fun h1 h2 ⟨oe, vs, q1, q2, q3⟩ k => ⟨oe, vs, k _ q1, q2, q3⟩⟩
      have S4 := inv_suite (a := a) T4
      refine store_ok (X := X.suite a (X.pn ++ pins)) (v := .ref a) S4 hN hi hloc rfl (fun s5 S5 => ?_) (.inr hln)
      have su : PSs (X.suite a (X.pn ++ pins)) [.Assign [.Name m kp] (.Name n ep) sp] (tAsg (tVar i) (gName j)) :=
        pss_one (ps_set (X := X.suite a (X.pn ++ pins)) hN hj (.inl hlm) (pe_var hi (.inl hln) nd ncd) rfl (.inr hlm))
      refine wpAny_mono (su.run [] s5 _ _ { nx := fun σ' H' => D.nx (σ'.set i none) H', rt := D.rt, bk := fun σ' H' => D.bk (σ'.set i none) H', ct := fun σ' H' => D.ct (σ'.set i none) H' } S5 ⟨.ref a, ?_, hq a na⟩) (fun f s6 hsp => ?_) (fun _ _ z => False.elim z)
      · rw [List.getElem?_set_self (by rw [J.len]; exact hlt)]
      have end_ : ∀ {σ6 : L2.St} {H6 : Hp} {Q : Shared → Prop}, L2.Inv (X.suite a (X.pn ++ pins)) [] σ6 H6 s6 → (∀ s7, L2.Inv X pins (σ6.set i none) H6 s7 → Q s7) →
          wpAny (model X.prog X.w) X.A (do bindName X.env n .none; unbindBehindTheSuite X.env n pos') (fun _ s7 => Q s7) X.xe s6 := fun {σ6 H6 Q} S6 hq => gone_ok (inv_unsuite S6 ok) hN hi hln hq
      cases f with
      | next =>
        obtain ⟨σ6, H6, S6, q6⟩ := hsp
        exact end_ S6 fun s7 J7 => ⟨_, _, J7, q6⟩
      | brk =>
        obtain ⟨σ6, H6, S6, q6⟩ := hsp
        exact end_ S6 fun s7 J7 => ⟨_, _, J7, q6⟩
      | cont =>
        obtain ⟨σ6, H6, S6, q6⟩ := hsp
        exact end_ S6 fun s7 J7 => ⟨_, _, J7, q6⟩
      | ret u =>
        obtain ⟨v6, σ6, H6, S6, r6, q6⟩ := hsp
        exact end_ S6 fun s7 J7 => ⟨_, _, _, J7, r6, q6⟩
    | false =>
      show wpAny _ X.A (handleBy (.ref a) X.env []) _ _ _
      refine wpAny_handleBy_nil ?_
      obtain ⟨k1, k2, k3, oe, vs, T, oT, ts', he, hz, hd, h1, hr⟩ := id fl3
      unfold PySem.passOn
      refine wpAny_bind (wpAny_field he hd h1 ?_)
      rw [if_neg (show ¬ ((Value.ref T == Value.none) = true) from by simp)]
      have fin : wpAny (model X.prog X.w) X.A (setFlight (.ref a) X.env.frame) (fun _ s4 => wpAny (model X.prog X.w) X.A (throw (.ref a) : Sem Flow) (SP X pins D) X.xe s4) X.xe { s' with heap := h3 } := by
        rw [hf]
        refine HandSPX.setFlight_upZ fl3 fun h4 hh4 up4 => wpAny_throw (tk _ _ ?_)
        exact ⟨a, B, sI, pins, σ', H', cls, d, rfl, J, nb, (up.trans up3).trans up4, .inr (.inr (by rw [hs]; exact hh4)), na, os, ag, hno rfl⟩
      first
        | exact wpAny_bind (wpAny_pure (wpAny_bind fin))
        | exact wpAny_bind fin
  · cases f with
    | next =>
      obtain ⟨σ', H', J', q⟩ := hsp
      exact wpAny_execs_nil ⟨σ', H', J'.ofTry ok, q⟩
    | brk =>
      obtain ⟨σ', H', J', q⟩ := hsp
      exact ⟨σ', H', J'.ofTry ok, q⟩
    | cont =>
      obtain ⟨σ', H', J', q⟩ := hsp
      exact ⟨σ', H', J'.ofTry ok, q⟩
    | ret u =>
      obtain ⟨v, σ', H', J', r, q⟩ := hsp
      exact ⟨v, σ', H', J'.ofTry ok, r, q⟩
end
end Rwl

set_option Elab.async false
set_option linter.all false
set_option maxRecDepth 100000
set_option maxHeartbeats 1000000
/-! Rwl, part J: what statements come to; one rule for each. -/
namespace Rwl
open PySem PySem.Spec PyProof.Rows L2 Evl

/-! ### what is kept since the beginning -/
def sv (H : Hp) (Z Y : List Addr) : Hp := fun a => if a ∈ Z ∧ a ∉ Y then none else H a
abbrev Kp (Hb : Hp) (Y Z : List Addr) (H : Hp) : Prop := Ex Hb (sv H Z Y)
section
variable {Hb H H' : Hp} {Y Z Z' : List Addr} {p : Addr} {o : HO}
theorem sv_some {a : Addr} (h : sv H Z Y a = some o) : ¬ (a ∈ Z ∧ a ∉ Y) ∧ H a = some o := by
  unfold sv at h
  split at h
  · cases h
  · rename_i n; exact ⟨n, h⟩
theorem sv_of {a : Addr} (n : ¬ (a ∈ Z ∧ a ∉ Y)) (h : H a = some o) : sv H Z Y a = some o := by
  unfold sv
  rw [if_neg n]
  exact h
theorem Kp.start : Kp H Y Y H := fun a o h => sv_of (fun z => z.2 z.1) h
theorem Kp.mono (k : Kp Hb Y Z H) (e : Ex H H') : Kp Hb Y Z H' := fun a o h => by
  obtain ⟨n, q⟩ := sv_some (k a o h)
  exact sv_of n (e _ _ q)
theorem Kp.new (k : Kp Hb Y Z H) (hp : H p = none) (e : Ex H H') : Kp Hb Y (p :: Z) H' := fun a o h => by
  obtain ⟨n, q⟩ := sv_some (k a o h)
  refine sv_of (fun z => ?_) (e _ _ q)
  rcases List.mem_cons.mp z.1 with r | r
  · rw [r, hp] at q; cases q
  · exact n ⟨r, z.2⟩
theorem Kp.write (k : Kp Hb Y Z H) (hz : p ∈ Z ∧ p ∉ Y) : Kp Hb Y Z (upd H p o) := fun a u h => by
  obtain ⟨n, q⟩ := sv_some (k a u h)
  refine sv_of n ?_
  rw [upd_ne (fun e => n (by rw [e]; exact hz))]
  exact q
theorem Kp.frz (k : Kp Hb Y Z H) : Kp Hb Y Y H := fun a o h => sv_of (fun z => z.2 z.1) (sv_some (k a o h)).2
theorem Kp.ex (k : Kp Hb Y Z H) : Ex Hb H := fun a o h => (sv_some (k a o h)).2
theorem Kp.trans (k : Kp Hb Y Z H) (k' : Kp (sv H Z Y) Y Z' H') : Kp Hb Y Z' H' := fun a o h => k' a o (k a o h)
theorem Kp.view (k : Kp (sv H Z Y) Y Z' H') (sub : ∀ z ∈ Y, z ∈ Z) : Ex (view H Z) (Rwl.view H' Z') := fun a o h => by
  have hz : a ∉ Z := fun z => by rw [view_in z] at h; cases h
  rw [view_out hz] at h
  obtain ⟨n, q⟩ := sv_some (k a o (sv_of (fun z => hz z.1) h))
  have hz' : a ∉ Z' := fun z => n ⟨z, fun y => hz (sub _ y)⟩
  rw [view_out hz']
  exact q
end

/-! ### what is wanted behind a statement -/
def Cnt (U : Ux) (W : WX) (K : PySem.W.Frag) (Y : List Addr) (Hb : Hp) (D : Ends) : Out → Prop
  | .nx env => ∀ σ Z H, Kp Hb Y Z H → EnvOk U K Y Z H σ env → D.nx σ H
  | .brk env => ∀ σ Z H, Kp Hb Y Z H → EnvOk U K Y Z H σ env → D.bk σ H
  | .ret d => ∀ v H, Ex Hb H → Dat U K (view H Y) v d → D.rt v H
  | .exc c env => ∃ C, U.ec c = some C ∧ ∀ σ Z H, Kp Hb Y Z H → EnvOk U K Y Z H σ env → W (.ref C) none σ H
  | .bad => False
  | .retf xs => ∀ p ws H, Hb p = none → Ex Hb H → H p = some (.lst ws) → DatL U K (view H (p :: Y)) ws xs → D.rt (.ref p) H
  | .retm d env => ∀ v σ Z H, scal d = true → Kp Hb Y Z H → EnvOk U K Y Z H σ env → Dat U K H v d → D.rt v H
def Ys (U : Ux) (W : WX) (K : PySem.W.Frag) (Y : List Addr) (t : TS) (f : Env → Out) : Prop :=
  ∀ Hb D σ Z H env, Kp Hb Y Z H → EnvOk U K Y Z H σ env → Cnt U W K Y Hb D (f env) → t D σ H
def Ye (U : Ux) (W : WX) (K : PySem.W.Frag) (Y : List Addr) (t : TE) (f : Env → Res D) : Prop :=
  ∀ σ Z H env, EnvOk U K Y Z H σ env → Yl U W (RE U K Z) t σ H (f env)
def Sw (X : Cx) (st : Stmt) : TS := fun D σ H => ∀ pins s, L2.Inv X pins σ H s → wpAny (model X.prog X.w) X.A (exec st X.env) (SP X pins D) X.xe s
def Bs (X : Cx) (st : List Stmt) : TS := fun D σ H => ∀ pins s, L2.Inv X pins σ H s → wpAny (model X.prog X.w) X.A (execs st X.env) (SP X pins D) X.xe s
theorem sw {X : Cx} {st : Stmt} : PS X st (Sw X st) := ⟨fun pins s _ _ _ I h => h pins s I⟩
theorem bs {X : Cx} {st : List Stmt} : PSs X st (Bs X st) := ⟨fun pins s _ _ _ I h => h pins s I⟩

section
variable {U : Ux} {W : WX} {X : Cx} {K : PySem.W.Frag} {Y Z : List Addr} {σ : L2.St} {H Hb : Hp} {Dd : Ends} {env : Env} {s1 : Stmt} {ss : List Stmt} {t u : TS} {te tk : TE} {f g : Env → Out} {fe fk : Env → Res D}
theorem Ys.one (p : PS X s1 t) (h : Ys U W X.K Y t f) : Ys U W X.K Y (Sw X s1) f := fun Hb D σ Z H env k hE c pins s I => p.run pins s σ H D I (h Hb D σ Z H env k hE c)
theorem Ys.all (p : PSs X ss t) (h : Ys U W X.K Y t f) : Ys U W X.K Y (Bs X ss) f := fun Hb D σ Z H env k hE c pins s I => p.run pins s σ H D I (h Hb D σ Z H env k hE c)
theorem none_back {H H' : Hp} {p : Addr} (e : Ex H H') (h : H' p = none) : H p = none := by
  cases q : H p with
  | none => rfl
  | some o => rw [e _ _ q] at h; cases h
theorem Cnt.mono {Hb' : Hp} {o : Out} (e : Ex Hb Hb') (h : Cnt U W K Y Hb Dd o) : Cnt U W K Y Hb' Dd o := by
  cases o with
  | nx env => exact fun σ Z H k => h σ Z H (e.trans k)
  | brk env => exact fun σ Z H k => h σ Z H (e.trans k)
  | ret d => exact fun v H k => h v H (e.trans k)
  | exc c env => obtain ⟨C, h1, h2⟩ := h; exact ⟨C, h1, fun σ Z H k => h2 σ Z H (e.trans k)⟩
  | bad => exact h
  | retf xs => exact fun p ws H hp k => h p ws H (none_back e hp) (e.trans k)
  | retm d env => exact fun v σ Z H hs k => h v σ Z H hs (e.trans k)
theorem fin_out {α β : Type} {R : β → α → Hp → Prop} {r : Res α} {fo : α → Out} {Q : β → Hp → Prop} (k : Kp Hb Y Z H) (hE : EnvOk U K Y Z H σ env) (h : Cnt U W K Y Hb Dd (r.out env fo))
    (g : ∀ a b H', Ex H H' → R b a H' → Cnt U W K Y Hb Dd (fo a) → Q b H') : FinG U W σ R H Q r := by
  cases r with
  | ok a => exact fun b H' e rb => g a b H' e rb h
  | exc c => obtain ⟨C, h1, h2⟩ := h; exact ⟨C, h1, fun H' e => h2 σ Z H' (k.mono e) (hE.mono e)⟩
  | bad => exact h
theorem get_own {i : Nat} {xs : List D} (h : env.get i = .own xs) : env[i]? = some (.own xs) := by
  unfold Env.get at h
  cases e : env[i]? with
  | none => rw [e] at h; cases h
  | some s => rw [e] at h; exact congrArg some h
theorem get_dct {i : Nat} {xs : List (Int × D)} (h : env.get i = .dct xs) : env[i]? = some (.dct xs) := by
  unfold Env.get at h
  cases e : env[i]? with
  | none => rw [e] at h; cases h
  | some s => rw [e] at h; exact congrArg some h
/-- a value that is kept -/
theorem y_V {e : E} (h : Ye U W K Y te fun env => evE env e) : Ye U W K Y te fun env => evV env e := fun σ Z H env hE => by
  have h1 : Yl U W (RE U K Y) te σ H (evE env.frz e) := h σ Y H env.frz hE.frz
  have h2 : Yl U W (RE U K Z) te σ H (evE env e) := h σ Z H env hE
  show Yl U W (RE U K Z) te σ H (evV env e)
  unfold evV
  cases hr : evE env.frz e with
  | ok d =>
    rw [hr] at h1
    cases hs : scal d with
    | true =>
      dsimp only
      rw [hs]
      intro H1 e1 Q q
      exact h1 H1 e1 Q fun b H2 e2 r => q b H2 e2 (r.scal hs _)
    | false =>
      dsimp only
      rw [hs]
      exact h2
  | exc c =>
    rw [hr] at h1
    intro H1 e1 Q q
    exact h1 H1 e1 Q q
  | bad => exact h2
theorem view_le {H : Hp} (sub : ∀ z ∈ Y, z ∈ Z) : Ex (view H Z) (view H Y) := fun a o h => by
  have hz : a ∉ Z := fun z => by rw [view_in z] at h; cases h
  rw [view_out hz] at h
  rw [view_out (fun y => hz (sub _ y))]
  exact h
/-- a value that leaves -/
theorem y_R {e : E} (h : Ye U W K Y te fun env => evE env e) (hE : EnvOk U K Y Z H σ env) : Yl U W (RE U K Y) te σ H (evR env e) := by
  have h1 : Yl U W (RE U K Y) te σ H (evE env.frz e) := h σ Y H env.frz hE.frz
  have h2 : Yl U W (RE U K Z) te σ H (evE env e) := h σ Z H env hE
  unfold evR
  cases hr : evE env.frz e with
  | ok d => rw [hr] at h1; exact h1
  | exc c => rw [hr] at h1; exact h1
  | bad => exact h2.rel fun b a H1 _ r => r.mono (view_le hE.sub)
theorem y_B {e : E} {tc : TT} (hc : ∀ σ Z H env, EnvOk U K Y Z H σ env → Yl U W RQ tc σ H (evT env e)) (hE : EnvOk U K Y Z H σ env) : Yl U W RQ tc σ H (evB env e) := by
  have h1 := hc σ Y H env.frz hE.frz
  have h2 := hc σ Z H env hE
  unfold evB
  cases hr : evT env.frz e with
  | ok d => rw [hr] at h1; exact h1
  | exc c => rw [hr] at h1; exact h1
  | bad => exact h2

/-! ### the rules -/
theorem s_seq {D0 : Unit} (ht : Ys U W K Y t f) (hu : Ys U W K Y u g) : Ys U W K Y (tSeq t u) fun env => (f env).seq g := fun Hb D σ Z H env k hE c => by
  refine ht Hb { D with nx := u D } σ Z H env k hE ?_
  cases hf : f env with
  | nx env' =>
    have c : Cnt U W K Y Hb D ((f env).seq g) := c
    rw [hf] at c
    exact fun σ' Z' H' k' hE' => hu Hb D σ' Z' H' env' k' hE' c
  | brk env' => have c : Cnt U W K Y Hb D ((f env).seq g) := c; rw [hf] at c; exact c
  | ret d => have c : Cnt U W K Y Hb D ((f env).seq g) := c; rw [hf] at c; exact c
  | exc c' env' => have c : Cnt U W K Y Hb D ((f env).seq g) := c; rw [hf] at c; exact c
  | bad => have c : Cnt U W K Y Hb D ((f env).seq g) := c; rw [hf] at c; exact c
  | retf xs => have c : Cnt U W K Y Hb D ((f env).seq g) := c; rw [hf] at c; exact c
  | retm d env' => have c : Cnt U W K Y Hb D ((f env).seq g) := c; rw [hf] at c; exact c
theorem s_nx : Ys U W K Y tNext fun env => .nx env := fun Hb D σ Z H env k hE c => c σ Z H k hE
theorem s_brk : Ys U W K Y tBreak fun env => .brk env := fun Hb D σ Z H env k hE c => c σ Z H k hE
theorem s_frz (h : Ys U W K Y t f) : Ys U W K Y t fun env => f env.frz := fun Hb D σ Z H env k hE c => h Hb D σ Y H env.frz k.frz hE.frz c
theorem s_asg {i : Nat} (h : Ye U W K Y te fe) : Ys U W K Y (tAsg te (gName i)) fun env => (fe env).out env fun d => .nx (env.set i (.dat d)) := fun Hb D σ Z H env k hE c =>
  h σ Z H env hE H (Ex.refl H) _ (fin_out k hE c fun d v H' e rb c' => c' _ _ _ (k.mono e) ((hE.mono e).set i rb))
theorem out_run {α : Type} {r : Res α} {fo : α → Out} (n : Nox r) (h : Cnt U W K Y Hb Dd (r.out env fo)) : ∃ a, r = .ok a ∧ Cnt U W K Y Hb Dd (fo a) := by
  cases r with
  | ok a => exact ⟨a, rfl, h⟩
  | exc c => exact absurd rfl (n c)
  | bad => exact h.elim
theorem s_asgT {is : List Nat} (h : Ye U W K Y te fe) : Ys U W K Y (tAsg te ((⟨true, is⟩ : Tg).g K)) fun env => (fe env).out env fun d => match d with
    | .tuple ds => (bindT env is ds).out env .nx
    | _ => .bad := fun Hb D σ Z H env k hE c =>
  h σ Z H env hE H (Ex.refl H) _ (fin_out k hE c fun d v H' e rb c' => by
    cases d with
    | tuple ds =>
      obtain ⟨env', h1, h2⟩ := out_run bindT_nox c'
      exact g_run [] (hE.mono e) rb (show (⟨true, is⟩ : Tg).run env (.tuple ds) = .ok env' from h1) (fun _ _ => .inr rfl) fun σ' hE' _ => h2 _ _ _ (k.mono e) hE'
    | _ => exact c'.elim)
theorem own_new {p : Addr} {vs : List V} {xs : List D} {i : Nat} (k : Kp Hb Y Z H) (hE : EnvOk U K Y Z H σ env) {H' : Hp} (hp : H p = none) (e : Ex H H') (hl : H' p = some (.lst vs)) (hd : DatL U K (view H' (p :: Z)) vs xs) :
    Kp Hb Y (p :: Z) H' ∧ EnvOk U K Y (p :: Z) H' (σ.set i (some (.ref p))) (env.set i (.own xs)) :=
  ⟨k.new hp e, hE.putNew e hp hl i _ fun ow o => ⟨p, vs, rfl, o, hl, hd⟩⟩
theorem s_new {i : Nat} (h : ∀ σ Z H env, EnvOk U K Y Z H σ env → Fr U W K Z te σ H (fe env)) : Ys U W K Y (tAsg te (gName i)) fun env => (fe env).out env fun d => match d with
    | .list xs => .nx (env.set i (.own xs))
    | _ => .bad := fun Hb D σ Z H env k hE c => by
  refine h σ Z H env hE H (Ex.refl H) _ ?_
  have c : Cnt U W K Y Hb D ((fe env).out env fun d => match d with
    | .list xs => .nx (env.set i (.own xs))
    | _ => .bad) := c
  cases hr : fe env with
  | ok d =>
    rw [hr] at c
    cases d with
    | list xs => exact fun p vs H' hp e hl hd => c _ _ _ (own_new (i := i) k hE hp e hl hd).1 (own_new (i := i) k hE hp e hl hd).2
    | _ => exact c.elim
  | exc c' =>
    rw [hr] at c
    obtain ⟨C, h1, h2⟩ := c
    exact ⟨C, h1, fun H' e => h2 σ Z H' (k.mono e) (hE.mono e)⟩
  | bad => rw [hr] at c; exact c.elim
theorem s_newd {i : Nat} : Ys U W K Y (tAsg tDNewK (gName i)) fun env => .nx (env.set i (.dct [])) := fun Hb D σ Z H env k hE c => by
  intro p hp
  exact c _ (p :: Z) _ (k.new hp (Ex.new hp)) (hE.putNew (Ex.new hp) hp upd_same i _ fun ow o => ⟨p, [], rfl, o, upd_same, .nil⟩)
theorem own_at {i : Nat} {xs : List D} (hE : EnvOk U K Y Z H σ env) (h : env.get i = .own xs) : ∃ p vs, σ[i]? = some (some (.ref p)) ∧ (p ∈ Z ∧ p ∉ Y) ∧ H p = some (.lst vs) ∧ DatL U K (view H Z) vs xs := by
  obtain ⟨ow, q⟩ := hE.at_
  obtain ⟨p, vs, h1, h2, h3, h4⟩ := q i _ (get_own h)
  exact ⟨p, vs, h1, ⟨h2.z, h2.y⟩, h3, h4⟩
theorem dct_at {i : Nat} {xs : List (Int × D)} (hE : EnvOk U K Y Z H σ env) (h : env.get i = .dct xs) : ∃ p vs, σ[i]? = some (some (.ref p)) ∧ (p ∈ Z ∧ p ∉ Y) ∧ H p = some (.dK vs) ∧ DatK U K (view H Z) vs xs := by
  obtain ⟨ow, q⟩ := hE.at_
  obtain ⟨p, vs, h1, h2, h3, h4⟩ := q i _ (get_dct h)
  exact ⟨p, vs, h1, ⟨h2.z, h2.y⟩, h3, h4⟩
/-- an own list is changed -/
theorem own_write {i : Nat} {xs ys : List D} {p : Addr} {ws : List V} (k : Kp Hb Y Z H) (hE : EnvOk U K Y Z H σ env) (h : env.get i = .own xs) (hp : σ[i]? = some (some (.ref p))) (hz : p ∈ Z ∧ p ∉ Y) (hd : DatL U K (view H Z) ws ys) :
    Kp Hb Y Z (upd H p (.lst ws)) ∧ EnvOk U K Y Z (upd H p (.lst ws)) σ (env.set i (.own ys)) := by
  obtain ⟨ow, q⟩ := hE.at_
  obtain ⟨p', vs, h1, h2, h3, h4⟩ := q i _ (get_own h)
  rw [hp] at h1
  cases h1
  exact ⟨k.write hz, hE.write q i h2 ⟨p, ws, hp, h2, upd_same, by rw [view_upd hz.1]; exact hd⟩⟩
theorem dct_write {i : Nat} {xs ys : List (Int × D)} {p : Addr} {ws : List (Key × V)} (k : Kp Hb Y Z H) (hE : EnvOk U K Y Z H σ env) (h : env.get i = .dct xs) (hp : σ[i]? = some (some (.ref p))) (hz : p ∈ Z ∧ p ∉ Y) (hd : DatK U K (view H Z) ws ys) :
    Kp Hb Y Z (upd H p (.dK ws)) ∧ EnvOk U K Y Z (upd H p (.dK ws)) σ (env.set i (.dct ys)) := by
  obtain ⟨ow, q⟩ := hE.at_
  obtain ⟨p', vs, h1, h2, h3, h4⟩ := q i _ (get_dct h)
  rw [hp] at h1
  cases h1
  exact ⟨k.write hz, hE.write q i h2 ⟨p, ws, hp, h2, upd_same, by rw [view_upd hz.1]; exact hd⟩⟩
theorem s_app {i : Nat} (h : Ye U W K Y te fe) : Ys U W K Y (tDrop (tBM K "list" rAppend (tVar i) (tCons te tNil))) fun env => match env.get i with
    | .own xs => (fe env).out env fun d => match decide (xs.length < lim) with
      | true => .nx (env.set i (.own (xs ++ [d])))
      | false => .bad
    | _ => .bad := fun Hb D σ Z H env k hE c => by
  cases hg : env.get i with
  | own xs =>
    have c : Cnt U W K Y Hb D (match env.get i with
      | .own xs => (fe env).out env fun d => match decide (xs.length < lim) with
        | true => .nx (env.set i (.own (xs ++ [d])))
        | false => .bad
      | _ => .bad) := c
    rw [hg] at c
    obtain ⟨p, vs, h1, h2, h3, h4⟩ := own_at hE hg
    refine ⟨_, h1, .inl ⟨rfl, vs, SqL.of h3⟩, ?_⟩
    refine h σ Z H env hE H (Ex.refl H) _ (fin_out k hE c fun d v H' e rb c' => ?_)
    cases hl : decide (xs.length < lim) with
    | true =>
      rw [hl] at c'
      refine ⟨p, vs, v, rfl, rfl, e _ _ h3, ?_, ?_⟩
      · rw [h4.length]; exact lim_lt (of_decide_eq_true hl)
      · obtain ⟨q1, q2⟩ := own_write (k.mono e) (hE.mono e) hg h1 h2 ((h4.mono (ex_view e Z)).append (.one rb))
        exact c' _ _ _ q1 q2
    | false => rw [hl] at c'; exact c'.elim
  | _ =>
    have c : Cnt U W K Y Hb D (match env.get i with
      | .own xs => (fe env).out env fun d => match decide (xs.length < lim) with
        | true => .nx (env.set i (.own (xs ++ [d])))
        | false => .bad
      | _ => .bad) := c
    rw [hg] at c
    exact c.elim
theorem s_ext {i : Nat} (h : Ye U W K Y te fe) : Ys U W K Y (tDrop (tBM K "list" rExtend (tVar i) (tCons te tNil))) fun env => match env.get i with
    | .own xs => (fe env).out env fun d => match d with
      | .list ys => match decide (xs.length + ys.length < lim) with
        | true => .nx (env.set i (.own (xs ++ ys)))
        | false => .bad
      | _ => .bad
    | _ => .bad := fun Hb D σ Z H env k hE c => by
  cases hg : env.get i with
  | own xs =>
    have c : Cnt U W K Y Hb D (match env.get i with
      | .own xs => (fe env).out env fun d => match d with
        | .list ys => match decide (xs.length + ys.length < lim) with
          | true => .nx (env.set i (.own (xs ++ ys)))
          | false => .bad
        | _ => .bad
      | _ => .bad) := c
    rw [hg] at c
    obtain ⟨p, vs, h1, h2, h3, h4⟩ := own_at hE hg
    refine ⟨_, h1, .inl ⟨rfl, vs, SqL.of h3⟩, ?_⟩
    refine h σ Z H env hE H (Ex.refl H) _ (fin_out k hE c fun d v H' e rb c' => ?_)
    cases d with
    | list ys =>
      obtain ⟨q, ws, rfl, r1, r2⟩ := rb.list_inv
      cases hl : decide (xs.length + ys.length < lim) with
      | true =>
        dsimp only at c'
        rw [hl] at c'
        have hlt := of_decide_eq_true hl
        refine ⟨p, q, vs, ws, rfl, rfl, e _ _ h3, view_ex H' Z _ _ r1, ?_, ?_⟩
        · rw [h4.length, r2.length]
          unfold lim at hlt
          unfold sizeLine
          omega
        · obtain ⟨q1, q2⟩ := own_write (k.mono e) (hE.mono e) hg h1 h2 ((h4.mono (ex_view e Z)).append r2)
          exact c' _ _ _ q1 q2
      | false => dsimp only at c'; rw [hl] at c'; exact c'.elim
    | _ => exact c'.elim
  | _ =>
    have c : Cnt U W K Y Hb D (match env.get i with
      | .own xs => (fe env).out env fun d => match d with
        | .list ys => match decide (xs.length + ys.length < lim) with
          | true => .nx (env.set i (.own (xs ++ ys)))
          | false => .bad
        | _ => .bad
      | _ => .bad) := c
    rw [hg] at c
    exact c.elim
theorem ixN_of {n : Nat} {j : Int} (h : (decide (0 ≤ j) && decide (j < n)) = true) : ixN n j = some j.toNat := by
  have h' : 0 ≤ j ∧ j < n := by simpa using h
  unfold ixN
  rw [if_pos h'.1, if_pos h'.2]
theorem s_seti {i : Nat} (h : Ye U W K Y te fe) (hk : Ye U W K Y tk fk) : Ys U W K Y (tAsg te (gSub (tVar i) tk rSetL)) fun env => match env.get i with
    | .own xs => (fe env).out env fun d => (fk env).out env fun y => match y with
      | .int j => match decide (0 ≤ j) && decide (j < xs.length) with
        | true => .nx (env.set i (.own (xs.set j.toNat d)))
        | false => .bad
      | _ => .bad
    | _ => .bad := fun Hb D σ Z H env k hE c => by
  have c : Cnt U W K Y Hb D (match env.get i with
    | .own xs => (fe env).out env fun d => (fk env).out env fun y => match y with
      | .int j => match decide (0 ≤ j) && decide (j < xs.length) with
        | true => .nx (env.set i (.own (xs.set j.toNat d)))
        | false => .bad
      | _ => .bad
    | _ => .bad) := c
  cases hg : env.get i with
  | own xs =>
    rw [hg] at c
    obtain ⟨p, vs, h1, h2, h3, h4⟩ := own_at hE hg
    refine h σ Z H env hE H (Ex.refl H) _ (fin_out k hE c fun d v H1 e rb c1 => ?_)
    refine ⟨_, h1, ?_⟩
    refine hk σ Z H1 env (hE.mono e) H1 (Ex.refl H1) _ (fin_out (k.mono e) (hE.mono e) c1 fun y w H2 e2 ry c2 => ?_)
    have e12 := e.trans e2
    cases y with
    | int j =>
      cases ry.int_inv
      cases hl : decide (0 ≤ j) && decide (j < xs.length) with
      | true =>
        dsimp only at c2
        rw [hl] at c2
        obtain ⟨q1, q2⟩ := own_write (k.mono e12) (hE.mono e12) hg h1 h2 (DatL.set (rb.mono (ex_view e2 Z)) j.toNat (h4.mono (ex_view e12 Z)))
        exact ⟨p, vs, j, j.toNat, rfl, rfl, e12 _ _ h3, by rw [h4.length]; exact ixN_of hl, c2 _ _ _ q1 q2⟩
      | false => dsimp only at c2; rw [hl] at c2; exact c2.elim
    | _ => exact c2.elim
  | _ => rw [hg] at c; exact c.elim
theorem datK_put {H : Hp} {v : V} {d : D} {j : Int} {vs : List (Key × V)} {kvs : List (Int × D)} (h : DatK U K H vs kvs) (hv : Dat U K H v d) : DatK U K H (putK vs (.inl j) v) (kput kvs j d) := by
  have hany : ∀ {vs : List (Key × V)} {kvs : List (Int × D)}, DatK U K H vs kvs → (vs.any fun kv => decide (kv.1 = (.inl j : Key))) = (kvs.any fun kv => decide (kv.1 = j)) := by
    intro vs kvs h
    induction h with
    | nil => rfl
    | cons _ _ ih =>
      rw [List.any_cons, List.any_cons, ih]
      congr 1
      rw [decide_eq_decide]
      exact ⟨fun e => Sum.inl.inj e, fun e => congrArg Sum.inl e⟩
  have hmap : ∀ {vs : List (Key × V)} {kvs : List (Int × D)}, DatK U K H vs kvs → DatK U K H (vs.map fun kv => if kv.1 = (.inl j : Key) then (kv.1, v) else kv) (kvs.map fun kv => if kv.1 = j then (kv.1, d) else kv) := by
    intro vs kvs h
    induction h with
    | nil => exact .nil
    | @cons k w e vs ds h hs ih =>
      rw [List.map_cons, List.map_cons]
      by_cases hj : k = j
      · subst hj
        rw [if_pos rfl, if_pos rfl]
        exact .cons hv ih
      · rw [if_neg (fun e => hj (Sum.inl.inj e)), if_neg hj]
        exact .cons h ih
  have happ : ∀ {vs : List (Key × V)} {kvs : List (Int × D)}, DatK U K H vs kvs → DatK U K H (vs ++ [(.inl j, v)]) (kvs ++ [(j, d)]) := by
    intro vs kvs h
    induction h with
    | nil => exact .cons hv .nil
    | cons h hs ih => exact .cons h ih
  unfold putK kput
  rw [hany h]
  split
  · exact hmap h
  · exact happ h
theorem DatK.len {H : Hp} {vs : List (Key × V)} {kvs : List (Int × D)} (h : DatK U K H vs kvs) : vs.length = kvs.length := by
  induction h with
  | nil => rfl
  | cons _ _ ih => exact congrArg (· + 1) ih
theorem s_setd {i : Nat} (h : Ye U W K Y te fe) (hk : Ye U W K Y tk fk) : Ys U W K Y (sDPut (tVar i) tk te) fun env => match env.get i with
    | .dct kvs => (fe env).out env fun d => (fk env).out env fun y => match y with
      | .int j => match decide (kvs.length < lim) with
        | true => .nx (env.set i (.dct (kput kvs j d)))
        | false => .bad
      | _ => .bad
    | _ => .bad := fun Hb D σ Z H env k hE c => by
  have c : Cnt U W K Y Hb D (match env.get i with
    | .dct kvs => (fe env).out env fun d => (fk env).out env fun y => match y with
      | .int j => match decide (kvs.length < lim) with
        | true => .nx (env.set i (.dct (kput kvs j d)))
        | false => .bad
      | _ => .bad
    | _ => .bad) := c
  cases hg : env.get i with
  | dct kvs =>
    rw [hg] at c
    obtain ⟨p, vs, h1, h2, h3, h4⟩ := dct_at hE hg
    refine h σ Z H env hE H (Ex.refl H) _ (fin_out k hE c fun d v H1 e rb c1 => ?_)
    refine ⟨_, h1, ?_⟩
    refine hk σ Z H1 env (hE.mono e) H1 (Ex.refl H1) _ (fin_out (k.mono e) (hE.mono e) c1 fun y w H2 e2 ry c2 => ?_)
    have e12 := e.trans e2
    cases y with
    | int j =>
      cases ry.int_inv
      cases hl : decide (kvs.length < lim) with
      | true =>
        dsimp only at c2
        rw [hl] at c2
        have hn : vs.length < sizeLine := by rw [h4.len]; exact lim_lt (of_decide_eq_true hl)
        refine ⟨p, _, rfl, DPut.k (k := .inl j) (e12 _ _ h3) hn, ?_⟩
        obtain ⟨q1, q2⟩ := dct_write (k.mono e12) (hE.mono e12) hg h1 h2 (datK_put (h4.mono (ex_view e12 Z)) (rb.mono (ex_view e2 Z)))
        exact c2 _ Z _ q1 q2
      | false => dsimp only at c2; rw [hl] at c2; exact c2.elim
    | _ => exact c2.elim
  | _ => rw [hg] at c; exact c.elim
theorem s_appPop {i j : Nat} (h : Ye U W K Y te fe) : Ys U W K Y (tDrop (tBM K "list" rAppend (tVar i) (tCons (tBM K "list" rPopAt (tVar j) (tCons te tNil)) tNil))) fun env => match env.get i, env.get j with
    | .own xs, .own ys => (fe env).out env fun y => match y with
      | .int k => match decide (0 ≤ k) && decide (k < ys.length) && decide (xs.length < lim) && decide (ys.length < lim) && (i != j) with
        | true => .nx ((env.set j (.own (ys.eraseIdx k.toNat))).set i (.own (xs ++ [ys.getD k.toNat .none])))
        | false => .bad
      | _ => .bad
    | _, _ => .bad := fun Hb D σ Z H env k hE c => by
  have c : Cnt U W K Y Hb D (match env.get i, env.get j with
    | .own xs, .own ys => (fe env).out env fun y => match y with
      | .int k => match decide (0 ≤ k) && decide (k < ys.length) && decide (xs.length < lim) && decide (ys.length < lim) && (i != j) with
        | true => .nx ((env.set j (.own (ys.eraseIdx k.toNat))).set i (.own (xs ++ [ys.getD k.toNat .none])))
        | false => .bad
      | _ => .bad
    | _, _ => .bad) := c
  cases hg : env.get i with
  | own xs =>
    cases hg2 : env.get j with
    | own ys =>
      rw [hg, hg2] at c
      obtain ⟨p, vs, h1, h2, h3, h4⟩ := own_at hE hg
      obtain ⟨p', vs', k1, k2, k3, k4⟩ := own_at hE hg2
      refine ⟨_, h1, .inl ⟨rfl, vs, SqL.of h3⟩, ?_⟩
      refine ⟨_, k1, .inl ⟨rfl, vs', SqL.of k3⟩, ?_⟩
      refine h σ Z H env hE H (Ex.refl H) _ (fin_out k hE c fun y w H1 e ry c1 => ?_)
      cases y with
      | int z =>
        cases ry.int_inv
        cases hl : decide (0 ≤ z) && decide (z < ys.length) && decide (xs.length < lim) && decide (ys.length < lim) && (i != j) with
        | true =>
          dsimp only at c1
          rw [hl] at c1
          have hh : (((0 ≤ z ∧ z < ys.length) ∧ xs.length < lim) ∧ ys.length < lim) ∧ i ≠ j := by simpa using hl
          obtain ⟨⟨⟨⟨g1, g2⟩, g3⟩, g5⟩, g4⟩ := hh
          have g5' : ys.length < 100000 := g5
          have hlim := lim_lt g3
          have hlen : vs'.length = ys.length := k4.length
          have hix : ixN vs'.length z = some z.toNat := ixN_of (by rw [hlen]; simp [g1, g2])
          obtain ⟨s1, s2, s3, s4⟩ := ixN_seq hix
          have hgd : ys[z.toNat]? = some (ys.getD z.toNat .none) := by
            rw [List.getD_eq_getElem?_getD, List.getElem?_eq_getElem (by omega)]
            rfl
          obtain ⟨v, hv1, hv2⟩ := (k4.mono (ex_view e Z)).get hgd
          have hbig : vs'.length ≤ sizeLine ∨ True := .inr trivial
          obtain ⟨q1, q2⟩ := own_write (k.mono e) (hE.mono e) hg2 k1 k2 ((k4.mono (ex_view e Z)).eraseIdx z.toNat)
          have hne : p ≠ p' := fun z => by
            obtain ⟨ow, q⟩ := hE.at_
            obtain ⟨a, _, a1, a2, _, _⟩ := q i _ (get_own hg)
            obtain ⟨b, _, b1, b2, _, _⟩ := q j _ (get_own hg2)
            rw [h1] at a1
            rw [k1] at b1
            cases a1
            cases b1
            have e1 := a2.at_
            rw [z, b2.at_] at e1
            exact g4 (List.cons.inj e1).1.symm
          have hg' : Env.get (env.set j (.own (ys.eraseIdx z.toNat))) i = .own xs := by
            unfold Env.get
            rw [List.getElem?_set_ne (Ne.symm g4)]
            exact hg
          have h4' : DatL U K (view (upd H1 p' (.lst (vs'.eraseIdx z.toNat))) Z) vs xs := by
            rw [view_upd k2.1]
            exact h4.mono (ex_view e Z)
          obtain ⟨r1, r2⟩ := own_write q1 q2 hg' h1 h2 (h4'.append (.one (by rw [view_upd k2.1]; exact hv2)))
          refine ⟨p', vs', z, z.toNat, v, rfl, rfl, e _ _ k3, ?_, ?_, s1, hv1, ?_⟩
          · omega
          · omega
          · refine ⟨p, vs, v, rfl, rfl, ?_, ?_, c1 _ _ _ r1 r2⟩
            · rw [upd_ne hne]; exact e _ _ h3
            · rw [h4.length]; exact hlim
        | false => dsimp only at c1; rw [hl] at c1; exact c1.elim
      | _ => exact c1.elim
    | _ => rw [hg, hg2] at c; exact c.elim
  | _ => rw [hg] at c; exact c.elim
theorem s_drop {e : E} (h : Ye U W K Y te fun env => evE env e) : Ys U W K Y (tDrop te) fun env => (evR env e).out env fun _ => .nx env := fun Hb D σ Z H env k hE c =>
  y_R h hE H (Ex.refl H) _ (fin_out k hE c fun d v H' e rb c' => c' _ _ _ (k.mono e) (hE.mono e))
theorem s_ret {e : E} (h : Ye U W K Y te fun env => evE env e) : Ys U W K Y (tRet te) fun env => (evR env e).out env .ret := fun Hb D σ Z H env k hE c =>
  y_R h hE H (Ex.refl H) _ (fin_out k hE c fun d v H' e rb c' => c' v H' (k.ex.trans e) rb)
theorem s_ifs {c : E} {tc : TT} (hc : ∀ σ Z H env, EnvOk U K Y Z H σ env → Yl U W RQ tc σ H (evT env c)) (ht : Ys U W K Y t f) (hu : Ys U W K Y u g) : Ys U W K Y (tIfS tc t u) fun env => (evB env c).out env fun k => match k with
    | true => f env
    | false => g env := fun Hb D σ Z H env k hE cn =>
  y_B hc hE H (Ex.refl H) _ (fin_out k hE cn fun d v H' e rb c' => by
    cases rb
    cases d with
    | true => exact ht Hb D σ Z H' env (k.mono e) (hE.mono e) c'
    | false => exact hu Hb D σ Z H' env (k.mono e) (hE.mono e) c')
theorem s_rai {c : Nat} {C : Addr} (hC : U.ec c = some C) : Ys U W K Y (fun _ σ H => W (.ref C) none σ H) fun env => .exc c env := fun Hb D σ Z H env k hE cn => by
  obtain ⟨C', h1, h2⟩ := cn
  rw [hC] at h1
  cases h1
  exact h2 σ Z H k hE
/-- a loop's body, by what follows -/
theorem cnt_turn {o : Out} {rest : Env → Out} {N : L2.St → Hp → Prop} {Hb' : Hp} (e : Ex Hb Hb') (h : Cnt U W K Y Hb Dd (o.turn rest)) (hN : ∀ env σ Z H, Cnt U W K Y Hb Dd (rest env) → Kp Hb' Y Z H → EnvOk U K Y Z H σ env → N σ H) :
    Cnt U W K Y Hb' { Dd with nx := N, ct := N, bk := Dd.nx } o := by
  cases o with
  | nx env => exact fun σ Z H k hE => hN env σ Z H h k hE
  | brk env => exact fun σ Z H k => h σ Z H (e.trans k)
  | ret d => exact fun v H k => h v H (e.trans k)
  | exc c env => obtain ⟨C, h1, h2⟩ := h; exact ⟨C, h1, fun σ Z H k => h2 σ Z H (e.trans k)⟩
  | bad => exact h
  | retf xs => exact fun p ws H hp k => h p ws H (none_back e hp) (e.trans k)
  | retm d env => exact fun v σ Z H hs k => h v σ Z H hs (e.trans k)
theorem for_go {tb : TS} {tg : Tg} {fb : Env → Out} {D : Ends} {J : It} {ds : List PyData} {H1 : Hp} (hb : Ys U W K Y tb fb) (k1 : Kp Hb Y Z H1) (hE1 : EnvOk U K Y Z H1 σ env) (wk : WalkJ U K Z J H1 ds) (c1 : Cnt U W K Y Hb D (forGo (fun d env => (tg.run env d).out env fb) ds env)) :
    ∃ W : Nat → Nat → L2.St → Hp → Prop, (∃ m, W 0 m σ H1) ∧ ∀ i m σ H, W i m σ H →
      (J.stop i H ∧ D.nx σ H) ∨ (J.go i H ∧ ∃ N : L2.St → Hp → Prop, (∀ σ' H', N σ' H' → ∃ m', m' < m ∧ W (i + 1) m' σ' H') ∧ ∀ x H', J.yld i H x H' → tg.g K x σ H' fun σ2 H2 => tb { D with nx := N, ct := N, bk := D.nx } σ2 H2) := by
  refine ⟨fun i m σ' H' => m = ds.length - i ∧ i ≤ ds.length ∧ ∃ Z' env', Kp (sv H1 Z Y) Y Z' H' ∧ EnvOk U K Y Z' H' σ' env' ∧ Cnt U W K Y Hb D (forGo (fun d env => (tg.run env d).out env fb) (ds.drop i) env'),
    ⟨ds.length, by simp, Nat.zero_le _, Z, env, Ex.refl _, hE1, by rw [List.drop_zero]; exact c1⟩, ?_⟩
  rintro i m σ' H' ⟨rfl, hil, Z', env', k', hE', c'⟩
  obtain ⟨walk, stop⟩ := wk H' Z' (k'.view hE1.sub)
  by_cases hlt : i < ds.length
  · obtain ⟨go, yl⟩ := walk i hlt
    refine .inr ⟨go, fun σ3 H3 => ∃ Z3 env3, Kp (sv H' Z' Y) Y Z3 H3 ∧ EnvOk U K Y Z3 H3 σ3 env3 ∧ Cnt U W K Y Hb D (forGo (fun d env => (tg.run env d).out env fb) (ds.drop (i + 1)) env3), ?_, ?_⟩
    · rintro σ3 H3 ⟨Z3, env3, k3, hE3, c3⟩
      exact ⟨ds.length - (i + 1), by omega, rfl, hlt, Z3, env3, k'.trans k3, hE3, c3⟩
    · intro x H'' hy
      obtain ⟨rfl, d, hd, dx⟩ := yl x H'' hy
      have hdrop : ds.drop i = d :: ds.drop (i + 1) := by
        rw [List.drop_eq_getElem_cons hlt]
        rw [List.getElem?_eq_getElem hlt] at hd
        rw [Option.some.inj hd]
      rw [hdrop] at c'
      have c' : Cnt U W K Y Hb D (((tg.run env' d).out env' fb).turn (forGo (fun d env => (tg.run env d).out env fb) (ds.drop (i + 1)))) := c'
      cases ht : tg.run env' d with
      | ok env2 =>
        rw [ht] at c'
        refine g_run [] hE' dx ht (fun _ _ => .inr rfl) fun σ2 hE2 _ => ?_
        exact hb (sv H'' Z' Y) _ σ2 Z' H'' env2 (Ex.refl _) hE2 (cnt_turn (k1.trans k') c' fun env3 σ3 Z3 H3 c3 k3 hE3 => ⟨Z3, env3, k3, hE3, c3⟩)
      | exc c2 => exact absurd ht (tg_nox c2)
      | bad => rw [ht] at c'; exact c'.elim
  · have hi' : i = ds.length := by omega
    subst hi'
    rw [List.drop_length] at c'
    exact .inl ⟨stop, c' _ _ _ (k1.trans k') hE'⟩
theorem s_for {wi : TI} {tb : TS} {fi : Env → Res (List D)} {tg : Tg} {fb : Env → Out} (hi : ∀ σ Z H env, EnvOk U K Y Z H σ env → Yl U W (RI U K Z) wi σ H (fi env)) (hb : Ys U W K Y tb fb) :
    Ys U W K Y (tFor wi (tg.g K) tb) fun env => (fi env).out env fun ds => forGo (fun d env => (tg.run env d).out env fb) ds env := fun Hb D σ Z H env k hE c =>
  hi σ Z H env hE H (Ex.refl H) _ (fin_out k hE c fun ds J H1 e wk c1 => for_go hb (k.mono e) (hE.mono e) wk c1)
theorem s_whil {n : Nat} {c : E} {tc : TT} {tb : TS} {fb : Env → Out} (hc : ∀ σ Z H env, EnvOk U K Y Z H σ env → Yl U W RQ tc σ H (evT env c)) (hb : Ys U W K Y tb fb) :
    Ys U W K Y (tWhile tc tb) fun env => whGo (fun env => evB env c) fb n env := fun Hb D σ Z H env k hE cn => by
  refine ⟨fun m σ' H' => ∃ Z' env', Kp Hb Y Z' H' ∧ EnvOk U K Y Z' H' σ' env' ∧ Cnt U W K Y Hb D (whGo (fun env => evB env c) fb m env'), ⟨n, Z, env, k, hE, cn⟩, ?_⟩
  rintro m σ' H' ⟨Z', env', k', hE', c'⟩
  cases m with
  | zero => exact c'.elim
  | succ m =>
    refine y_B hc hE' H' (Ex.refl H') _ (fin_out k' hE' c' fun b b' H2 e rb c2 => ?_)
    cases rb
    cases b with
    | true =>
      refine ⟨fun σ3 H3 => ∃ Z3 env3, Kp Hb Y Z3 H3 ∧ EnvOk U K Y Z3 H3 σ3 env3 ∧ Cnt U W K Y Hb D (whGo (fun env => evB env c) fb m env3), fun σ3 H3 q => ⟨m, Nat.lt_succ_self m, q⟩, ?_⟩
      exact hb Hb _ σ' Z' H2 env' (k'.mono e) (hE'.mono e) (cnt_turn (Ex.refl _) c2 fun env3 σ3 Z3 H3 c3 k3 hE3 => ⟨Z3, env3, k3, hE3, c3⟩)
    | false => exact c2 _ _ _ (k'.mono e) (hE'.mono e)
theorem s_try {cv : Value} {c i j : Nat} {tb : WX → TS} {fb : Env → Out} {Wout : WX} (hij : i ≠ j) (hec : ∀ c', c' < 5 → ∃ C, U.ec c' = some C ∧ PySem.W.exmOne K (.ref C) cv = some (below c' c)) (hb : ∀ W, Ys U W K Y (tb W) fb) :
    Ys U Wout K Y (fun D σ H => tb (wKeep K cv i j Wout D) D σ H) fun env => match fb env with
      | .exc c' env' => match decide (c' < 5), below c' c with
        | true, true => .nx ((env'.set j (.dat (exn c'))).set i .none)
        | true, false => .exc c' env'
        | false, _ => .bad
      | o => o := fun Hb D σ Z H env k hE cn => by
  have cn : Cnt U Wout K Y Hb D (match fb env with
      | .exc c' env' => match decide (c' < 5), below c' c with
        | true, true => .nx ((env'.set j (.dat (exn c'))).set i .none)
        | true, false => .exc c' env'
        | false, _ => .bad
      | o => o) := cn
  refine hb _ Hb D σ Z H env k hE ?_
  cases hf : fb env with
  | nx env' => rw [hf] at cn; exact cn
  | brk env' => rw [hf] at cn; exact cn
  | ret d => rw [hf] at cn; exact cn
  | bad => rw [hf] at cn; exact cn
  | retf xs => rw [hf] at cn; exact cn
  | retm d env' => rw [hf] at cn; exact cn
  | exc c' env' =>
    rw [hf] at cn
    cases h5 : decide (c' < 5) with
    | false => dsimp only at cn; rw [h5] at cn; exact cn.elim
    | true =>
      obtain ⟨C, hC, hm⟩ := hec c' (of_decide_eq_true h5)
      dsimp only at cn
      rw [h5] at cn
      refine ⟨C, hC, fun σ' Z' H' k' hE' => ⟨below c' c, hm, fun hb1 => ?_, fun hb1 => ?_⟩⟩
      · rw [hb1] at cn
        refine ⟨C, rfl, rfl, fun a na => ?_⟩
        have e : Ex H' (upd H' a (ExT C a)) := Ex.new na
        refine cn _ Z' _ (k'.mono e) ?_
        have hd : Dat U K (view (upd H' a (ExT C a)) Z') (.ref a) (exn c') := .exc hC (by rw [view_out (hE'.zt.not na)]; exact upd_same)
        have r := ((hE'.mono e).set j hd).unset i none
        rw [List.set_comm _ _ hij, List.set_set]
        exact r
      · rw [hb1] at cn
        obtain ⟨C', h1, h2⟩ := cn
        rw [hC] at h1
        cases h1
        exact h2 σ' Z' H' k' hE'
end
end Rwl

set_option Elab.async false
set_option linter.all false
set_option maxRecDepth 100000
set_option maxHeartbeats 1000000
/-! Rwl, part Jo: objects: attributes, methods, making one. -/
namespace Rwl
open PySem PySem.Spec PyProof.Rows L2 Evl

/-! ### attributes -/
theorem DatF.look {U : Ux} {K : PySem.W.Frag} {H : Hp} {x : Str} : ∀ {fs : List (Str × V)} {dfs : List (D × D)}, DatF U K H fs dfs → match attL x dfs with
    | some d => ∃ v, fs.lookup x = some v ∧ Dat U K H v d
    | none => fs.lookup x = none
  | _, _, .nil => rfl
  | _, _, .cons (f := f) (fs := fs) (ds := ds) h hs => by
    have ih := DatF.look (x := x) hs
    unfold attL
    by_cases hx : f = x
    · subst hx
      rw [if_pos rfl]
      exact ⟨_, by rw [List.lookup_cons, beq_self_eq_true], h⟩
    · rw [if_neg hx]
      have e : ∀ v, ((f, v) :: fs).lookup x = fs.lookup x := fun v => by
        have : (x == f) = false := by
          rw [beq_eq_false_iff_ne]
          exact fun z => hx z.symm
        rw [List.lookup_cons, this]
      cases ha : attL x ds with
      | some d =>
        rw [ha] at ih
        obtain ⟨v, h1, h2⟩ := ih
        exact ⟨v, (e _).trans h1, h2⟩
      | none =>
        rw [ha] at ih
        exact (e _).trans ih
theorem Dat.obj_inv {U : Ux} {K : PySem.W.Frag} {H : Hp} {v : V} {c : Nat} {kvs : List (D × D)} (h : Dat U K H v (.dict ((.bool false, .int (.ofNat c)) :: kvs))) : ∃ a C dx fs, v = .ref a ∧ U.oc c = some C ∧ H a = some (.ins C dx fs) ∧ DatF U K H fs kvs := by
  generalize hd : (PyData.dict ((.bool false, .int (.ofNat c)) :: kvs) : D) = d at h
  cases h with
  | scr h => cases hd
  | exc hc h => cases hd
  | obj hc h hs =>
    cases hd
    exact ⟨_, _, _, _, rfl, hc, h, hs⟩
  | _ => cases hd
theorem attD_inv {x : Str} {d e : D} (h : attD x d = .ok e) : ∃ c kvs, d = .dict ((.bool false, .int (.ofNat c)) :: kvs) ∧ attL x kvs = some e := by
  unfold attD at h
  split at h
  · exact ⟨_, _, rfl, ofO_ok h⟩
  · cases h
theorem nox_att {x : Str} (d : D) : Nox (attD x d) := by
  unfold attD
  split
  · exact .ofO
  · exact .bad
theorem FlsOk.look {U : Ux} {K : PySem.W.Frag} {Y Z : List Addr} {H : Hp} {ow : Addr → List Nat} {i : Nat} {x : Str} {f : Fl} : ∀ {k : Nat} {vs : List (Str × V)} {fs : List (Str × Fl)}, FlsOk U K Y Z H ow i k vs fs → attF x fs = some f → ∃ v k', vs.lookup x = some v ∧ FlOk U K Y Z H ow i k' v f
  | _, _, _, .nil, e => nomatch e
  | k, _, _, .cons (x := y) (vs := vs) h r, e => by
    unfold attF at e
    by_cases hx : y = x
    · subst hx
      rw [if_pos rfl] at e
      cases e
      exact ⟨_, k, by rw [List.lookup_cons, beq_self_eq_true], h⟩
    · rw [if_neg hx] at e
      obtain ⟨v, k', h1, h2⟩ := FlsOk.look r e
      refine ⟨v, k', ?_, h2⟩
      have : (x == y) = false := by
        rw [beq_eq_false_iff_ne]
        exact fun z => hx z.symm
      rw [List.lookup_cons, this]
      exact h1
/-- what the classes are like: attributes of that name are the object's own -/
def NaOk (U : Ux) (K : PySem.W.Frag) (x : Str) : Prop := ∀ c C, U.oc c = some C → L2.Cls K C ∧ NoAttr K C x
section
variable {U : Ux} {W : WX} {X : Cx} {Y Z : List Addr} {σ : L2.St} {H : Hp} {a b : Expr} {es : List Expr} {pos : Pos} {ra : Res D} {rl : Res (List D)}
theorem y_att {x : Str} (hb : nsup a = true) (na : NaOk U X.K x) (ha : Yl U W (RE U X.K Z) (Ew X a) σ H ra) : Yl U W (RE U X.K Z) (Ew X (.Attribute a x pos)) σ H (ra.bind (attD x)) := by
  refine Yl.imp (fun _ _ _ q => ew_of (pe_fld ew (attr_base hb)) q) ?_
  refine Yl.one (t1 := Ew X a) (tt := fun u H1 Q => ∃ a C dx fs v, u = .ref a ∧ H1 a = some (.ins C dx fs) ∧ L2.Cls X.K C ∧ NoAttr X.K C x ∧ fs.lookup x = some v ∧ Q v H1) ha fun d u H1 e1 dx => Yl.val (nox_att d) fun z H3 Q hr e3 q => ?_
  obtain ⟨c, kvs, rfl, hl⟩ := attD_inv hr
  obtain ⟨p, C, dxx, fs, rfl, hc, hp, hf⟩ := (dx.mono (ex_view e3 Z)).obj_inv
  have lk := hf.look (x := x)
  rw [hl] at lk
  obtain ⟨v, h1, h2⟩ := lk
  obtain ⟨n1, n2⟩ := na c C hc
  exact ⟨p, C, dxx, fs, v, rfl, view_ex H3 Z _ _ hp, n1, n2, h1, q v H3 (Ex.refl _) h2⟩
theorem y_attO {x : Str} {i : Nat} {t c : Nat} {fs : List (Str × Fl)} {d : D} {env : Env} (hb : nsup a = true) (na : NaOk U X.K x) (p : PE X a (tVar i)) (h : EnvOk U X.K Y Z H σ env) (hi : env.get i = .ins t c fs) (hx : attF x fs = some (.dat d)) : Yl U W (RE U X.K Z) (Ew X (.Attribute a x pos)) σ H (.ok d) := by
  refine Yl.imp (fun _ _ _ q => ew_of (pe_fld p (attr_base hb)) q) (t := tFld X.K (tVar i) x) fun H1 e Q q => ?_
  obtain ⟨ow, r⟩ := (h.mono e).get i
  rw [hi] at r
  obtain ⟨C, dx, vs, h1, h2, h3, h4, h5⟩ := r
  obtain ⟨v, k, g1, g2⟩ := h5.look hx
  obtain ⟨n1, n2⟩ := na c C h3
  exact ⟨_, h1, t, C, dx, vs, v, rfl, h4, n1, n2, g1, q v H1 (Ex.refl H1) g2⟩

/-! ### methods -/
def tMethS (C : Addr) (m : Str) (sp : Sp) (E : L2.St → XK) (ta : TE) (t : TA) : TE := fun σ H Q => ta σ H fun x H1 => ∃ a dx fs, x = .ref a ∧ H1 a = some (.ins C dx fs) ∧ fs.lookup m = none ∧ t σ H1 fun vs H2 => sp (x :: vs) H2 Q (E σ)
theorem pe_methX {CX : CXT} {k : Nat} {f C : Addr} {fd : FuncData} {ps : List Str} {sp : Sp} {E : L2.St → XK} {m : Str} {apos : Pos} {ta : TE} {t : TA} {pl : Sem Bool} (he : PE X a ta) (c : L2.Cls X.K C) (hm : Meth X.K C m f) (F : FnOk X.prog X.w X.K X.mg X.base CX k f fd ps sp) (hr : Room k X.A) (hb : Binds X.K fd ps []) (hx : ∀ σ, PassesAt CX X σ (E σ))
    (ha : PA X (b :: es) t) (hst : starEach (b :: es) X.env = (false, eval b X.env) :: starEach es X.env) (hpl : (backTo pos (starEach es X.env)).any (·.1) = false)
    (ht : eval (.Call (.Attribute a m apos) (b :: es) [] pos) X.env = (do
      let ov ← eval a X.env
      standAt apos.atName
      let (f, first) ← holding [ov] (getMethod ov m pl)
      callWith pos f first (backTo pos (starEach (b :: es) X.env)) (backToKw pos (keywordEach [] X.env)))) :
    PE X (.Call (.Attribute a m apos) (b :: es) [] pos) (tMethS C m sp E ta t) := by
  refine ⟨fun pins s σ H Q I h => ?_⟩
  refine PySem.W.methodCall_KW (pl := pl) (thn (he.run pins s σ H _ I h) fun u s1 h1 => ?_) ht
  obtain ⟨x, H1, I1, rx, p, dx, fs, rfl, ea, l, q⟩ := h1
  obtain rfl : u = Value.ref p := rx
  refine getmeth_ok I1 ea c hm l ?_
  refine PySem.W.callWith_K (first := [.ref p]) (h₀ := X.base) I.ok.mod.kin hm.kp (thn (ha.run pos pins s1 σ H1 _ I1 q) fun us s2 h2 => ?_) hst hpl
  obtain ⟨vs, H2, I2, r, q2⟩ := h2
  exact ⟨I2.kIn, run_fnS (us := .ref p :: us) (vs := .ref p :: vs) F hr hb (hx σ) I2 (.cons rfl r) q2⟩
theorem pe_methX0 {CX : CXT} {k : Nat} {f C : Addr} {fd : FuncData} {ps : List Str} {sp : Sp} {E : L2.St → XK} {m : Str} {apos : Pos} {ta : TE} {pl : Sem Bool} (he : PE X a ta) (c : L2.Cls X.K C) (hm : Meth X.K C m f) (F : FnOk X.prog X.w X.K X.mg X.base CX k f fd ps sp) (hr : Room k X.A) (hb : Binds X.K fd ps []) (hx : ∀ σ, PassesAt CX X σ (E σ))
    (ht : eval (.Call (.Attribute a m apos) [] [] pos) X.env = (do
      let ov ← eval a X.env
      standAt apos.atName
      let (f, first) ← holding [ov] (getMethod ov m pl)
      callWith pos f first (backTo pos (starEach [] X.env)) (backToKw pos (keywordEach [] X.env)))) :
    PE X (.Call (.Attribute a m apos) [] [] pos) (tMethS C m sp E ta tNil) := by
  refine ⟨fun pins s σ H Q I h => ?_⟩
  refine PySem.W.methodCall_KW (pl := pl) (thn (he.run pins s σ H _ I h) fun u s1 h1 => ?_) ht
  obtain ⟨x, H1, I1, rx, p, dx, fs, rfl, ea, l, q⟩ := h1
  obtain rfl : u = Value.ref p := rx
  refine getmeth_ok I1 ea c hm l ?_
  exact PySem.W.callWith_K0 (first := [.ref p]) I1.kIn hm.kp (run_fnS (us := [.ref p]) (vs := [.ref p]) F hr hb (hx σ) I1 (.cons rfl .nil) q)
/-- the method m, of n parameters behind the object, is f -/
def MOk (U : Ux) (X : Cx) (m : Str) (n : Nat) (f : List D → Res D) : Prop :=
  ∃ (k : Nat) (C fa : Addr) (fd : FuncData) (ps : List Str), Room k X.A ∧ U.oc 0 = some C ∧ L2.Cls X.K C ∧ Meth X.K C m fa ∧ Binds X.K fd ps [] ∧ FnOk X.prog X.w X.K X.mg X.base (L2.CX X.prog X.w) k fa fd ps (spD U X.K (n + 1) f)
theorem isObj_inv {m : Str} {d : D} (h : isObj m d = true) : ∃ kvs, d = .dict ((.bool false, .int (.ofNat 0)) :: kvs) ∧ attL m kvs = none := by
  unfold isObj at h
  split at h
  · exact ⟨_, rfl, Option.isNone_iff_eq_none.mp h⟩
  · cases h
/-- a method of an object, its parameters read -/
theorem y_methT {m : Str} {n : Nat} {f : List D → Res D} {C : Addr} {t : TA} (zt : Zt Z H) (ho : U.oc 0 = some C) (hlen : ∀ ds, rl = .ok ds → ds.length = n) (ha : Yl U W (RE U X.K Z) (Ew X a) σ H ra) (hl : Yl U W (RL U X.K Z) t σ H rl) :
    Yl U W (RE U X.K Z) (tMethS C m (spD U X.K (n + 1) f) (WE W) (Ew X a) t) σ H (ra.bind fun o => req (isObj m o) (rl.bind fun ds => f (o :: ds))) := by
  refine Yl.bind (t := Ew X a) (tb := fun u σ H1 Q => ∃ p dx fs, u = .ref p ∧ H1 p = some (.ins C dx fs) ∧ fs.lookup m = none ∧ t σ H1 fun vs H2 => spD U X.K (n + 1) f (u :: vs) H2 Q (WE W σ)) ha fun d u H1 _ e1 du => ?_
  intro H2 e2 Q q
  cases hi : isObj m d with
  | false => rw [hi] at q; exact (show False from q).elim
  | true =>
    rw [hi] at q
    obtain ⟨kvs, rfl, hn⟩ := isObj_inv hi
    obtain ⟨p, C', dx, fs, rfl, hc, hp, hf⟩ := (du.mono (ex_view e2 Z)).obj_inv
    have hc : U.oc 0 = some C' := hc
    rw [ho] at hc
    cases hc
    have lk := hf.look (x := m)
    rw [hn] at lk
    refine ⟨p, dx, fs, rfl, view_ex H2 Z _ _ hp, lk, ?_⟩
    have du2 := du.mono (ex_view e2 Z)
    have q : FinG U W σ (RE U X.K Z) H2 Q (rl.bind fun ds => f (.dict ((.bool false, .int (.ofNat 0)) :: kvs) :: ds)) := q
    refine Yl.bind (U := U) (W := W) (R' := RE U X.K Z) (t := t) (tb := fun vs σ H Q => spD U X.K (n + 1) f (.ref p :: vs) H Q (WE W σ)) ((hl.mono e1).mono e2) (fun ds vs H3 hds e3 dv => ?_) H2 (Ex.refl _) Q q
    intro H4 e4 Q q
    refine ⟨by rw [List.length_cons, dv.length, hlen ds hds], Z, _ :: ds, ((((zt.mono e1).mono e2).mono e3).mono e4), .cons (du2.mono (ex_view (e3.trans e4) Z)) (dv.mono (ex_view e4 Z)), ?_⟩
    cases hr : f (.dict ((.bool false, .int (.ofNat 0)) :: kvs) :: ds) with
    | ok d => rw [hr] at q; exact fun v H' e' dv' => q v H' e' dv'
    | exc c => rw [hr] at q; exact q
    | bad => rw [hr] at q; exact q

/-! ### making an object -/
/-- what __init__ promises: the object x, new and hidden; then its attributes -/
def spI (U : Ux) (K : PySem.W.Frag) (n : Nat) (f : Nat → List D → Res (List (Str × Fl))) : Sp := fun vs H Q E => vs.length = n + 1 ∧ ∃ x ws C dx Z ds, vs = .ref x :: ws ∧ U.oc 0 = some C ∧ H x = some (.ins C dx []) ∧ x ∉ Z ∧ Zt Z H ∧ DatL U K (view H (x :: Z)) ws ds ∧ match f x ds with
  | .ok fs => ∀ H', Ex (sv H (x :: Z) Z) H' → Dat U K (view H' Z) (.ref x) (objD 0 (fs.map fun f => (f.1, f.2.frz))) → Q .non H'
  | .exc c => ∃ C, U.ec c = some C ∧ ∀ H', Ex (sv H (x :: Z) Z) H' → E (.ref C) none H'
  | .bad => False
def tMakeS (C : Addr) (sp : Sp) (E : L2.St → XK) (t : TA) : TE := fun σ H Q => t σ H fun vs H1 => ∀ x dx, H1 x = none → H1 dx = none → dx ≠ x →
  sp (.ref x :: vs) (upd (upd H1 dx (.own x)) x (.ins C dx [])) (fun v H2 => v = .non ∧ Q (.ref x) H2) (E σ)
theorem run_makeS {CX : CXT} {k : Nat} {f C : Addr} {fd : FuncData} {ps : List Str} {sp : Sp} {E : L2.St → XK} {pins : List (Addr × Obj)} {s : Shared} {Q : VK} {us : List Value} {vs : List V} (M : Mk X.K C f) (F : FnOk X.prog X.w X.K X.mg X.base CX k f fd ps sp) (hr : Room (k + 1) X.A) (hb : Binds X.K fd ps [])
    (hx : PassesAt CX X σ (E σ)) (I : Inv X pins σ H s) (r : Vals vs us)
    (h : ∀ x dx, H x = none → H dx = none → dx ≠ x → sp (.ref x :: vs) (upd (upd H dx (.own x)) x (.ins C dx [])) (fun v H2 => v = .non ∧ Q (.ref x) H2) (E σ)) :
    wpAny (model X.prog X.w) X.A (call (.ref C) us) (EP X pins σ Q) X.xe s := by
  have hq := h (s.heap.objs.size + 1) s.heap.objs.size (I.hok.fresh (Nat.le_succ _)) (I.hok.fresh (Nat.le_refl _)) (Nat.ne_of_lt (Nat.lt_succ_self _))
  have I2 := Inv.made (C := C) I
  have r2 : Vals (V.ref (s.heap.objs.size + 1) :: vs) (Value.ref (s.heap.objs.size + 1) :: us) := .cons rfl r
  have hl : (Value.ref (s.heap.objs.size + 1) :: us).length = ps.length := by
    have e := r2.length
    rw [F.len _ _ _ _ hq] at e
    exact e.symm
  have b := hb _ (Value.ref (s.heap.objs.size + 1) :: us) I2.kIn (by rw [List.append_nil]; exact hl)
  rw [List.append_nil] at b
  refine wpAny_call (make_map (f := f) I.kIn M.makes M.init (beq_iff_eq.mp M.fn) (codeAny_mono (F.run _ X.stack _ _ ⟨Value.ref (s.heap.objs.size + 1) :: us, []⟩ (Value.ref (s.heap.objs.size + 1) :: us) _ _ (E σ) (hr.make C us [])
    (I2.env0.make C us []) b r2 hq) fun r s' hq' => ?_))
  cases r with
  | error e => exact hx pins _ _ e s' I2 hq'
  | ok fl =>
    cases fl with
    | ret u =>
      obtain ⟨v, H', I3, rv, ev, q3⟩ := I2.after hq'
      subst ev
      exact ⟨rv, ⟨V.ref (s.heap.objs.size + 1), H', I3, rfl, q3⟩⟩
    | next => exact False.elim hq'
    | brk => exact False.elim hq'
    | cont => exact False.elim hq'
theorem pe_makeS {CX : CXT} {k : Nat} {f C : Addr} {fd : FuncData} {ps : List Str} {sp : Sp} {E : L2.St → XK} {x : Str} {p : Pos} {t : TA} (M : Mk X.K C f) (F : FnOk X.prog X.w X.K X.mg X.base CX k f fd ps sp) (hr : Room (k + 1) X.A) (hg : Gl X x) (hm : X.mg x = some (.ref C)) (hb : Binds X.K fd ps []) (hx : ∀ σ, PassesAt CX X σ (E σ))
    (ha : PA X (a :: es) t) (hdb : (x == ("__debug__" : Str)) = false) (he : starEach (a :: es) X.env = (false, eval a X.env) :: starEach es X.env) (hpl : (backTo pos (starEach es X.env)).any (·.1) = false) :
    PE X (.Call (.Name x p) (a :: es) [] pos) (tMakeS C sp E t) := by
  refine ⟨fun pins s σ H Q I h => ?_⟩
  refine wpAny_Call_Name_kw (ld_glob I hg hm ?_ hdb)
  refine PySem.W.callWith_K (h₀ := X.base) I.ok.mod.kin M.kp (thn (ha.run pos pins s σ H _ I h) fun us s1 ⟨vs, H1, I1, r, q⟩ => ⟨I1.kIn, ?_⟩) he hpl
  exact run_makeS M F hr hb (hx σ) I1 r q
/-- the class named x makes objects by f -/
def BOk (U : Ux) (X : Cx) (x : Str) (n : Nat) (f : List D → Res D) : Prop :=
  ∃ (k : Nat) (C fa : Addr) (fd : FuncData) (ps : List Str) (g : Nat → List D → Res (List (Str × Fl))), Room (k + 1) X.A ∧ U.oc 0 = some C ∧ X.mg x = some (.ref C) ∧ Mk X.K C fa ∧ Binds X.K fd ps [] ∧ f = mkD g ∧ FnOk X.prog X.w X.K X.mg X.base (L2.CX X.prog X.w) k fa fd ps (spI U X.K n g)
theorem y_mk {x : Str} {n : Nat} {f : List D → Res D} {p : Pos} (tk : Takes X W) (B : BOk U X x n f) (hg : Gl X x) (hdb : (x == ("__debug__" : Str)) = false) (zt : Zt Z H) (ns : (a :: es).all nst = true) (hlen : ∀ ds, rl = .ok ds → ds.length = n) (hl : Yl U W (RL U X.K Z) (Aw X (a :: es)) σ H rl) :
    Yl U W (RE U X.K Z) (Ew X (.Call (.Name x p) (a :: es) [] pos)) σ H (rl.bind f) := by
  obtain ⟨k, C, fa, fd, ps, g, hr, ho, hm, M, hb, rfl, F⟩ := B
  have n' : nst a = true ∧ es.all nst = true := by simpa using ns
  refine Yl.imp (fun _ _ _ q => ew_of (pe_makeS M F hr hg hm hb (fun σ => passAt tk σ) aw hdb (star_cons n'.1) (star_plain n'.2)) q) ?_
  refine Yl.bind (t := Aw X (a :: es)) (tb := fun vs σ H1 Q => ∀ x dx, H1 x = none → H1 dx = none → dx ≠ x → spI U X.K n g (.ref x :: vs) (upd (upd H1 dx (.own x)) x (.ins C dx [])) (fun v H2 => v = .non ∧ Q (V.ref x) H2) (WE W σ)) hl fun ds vs H1 hds e1 dv => ?_
  intro H2 e2 Q q x dx hx hdx hne
  have zt2 := (zt.mono e1).mono e2
  have ed : Ex H2 (upd H2 dx (.own x)) := Ex.new hdx
  have hx2 : upd H2 dx (.own x) x = none := by rw [upd_ne (Ne.symm hne)]; exact hx
  have ex : Ex H2 (upd (upd H2 dx (.own x)) x (.ins C dx [])) := ed.trans (Ex.new hx2)
  have hxZ : x ∉ Z := zt2.not hx
  have es : Ex H2 (sv (upd (upd H2 dx (.own x)) x (.ins C dx [])) (x :: Z) Z) := fun b o hb => by
    refine sv_of (fun z => ?_) (ex b o hb)
    rcases List.mem_cons.mp z.1 with r | r
    · rw [r, hx] at hb; cases hb
    · exact z.2 r
  refine ⟨by rw [List.length_cons, dv.length, hlen ds hds], x, vs, C, dx, Z, ds, rfl, ho, upd_same, hxZ, zt2.mono ex, (dv.mono (ex_view e2 Z)).mono (ex_view_cons ex hx), ?_⟩
  unfold mkD at q
  by_cases hu : ∀ t, g t ds = g 0 ds
  · rw [if_pos hu] at q
    rw [hu x]
    cases hr : g 0 ds with
    | ok fs => rw [hr] at q; exact fun H' e' d' => ⟨rfl, q (.ref x) H' (es.trans e') d'⟩
    | exc c =>
      rw [hr] at q
      obtain ⟨C', h1, h2⟩ := q
      exact ⟨C', h1, fun H' e' => h2 H' (es.trans e')⟩
    | bad => rw [hr] at q; exact q.elim
  · rw [if_neg hu] at q
    exact q.elim

/-! ### an attribute is stored -/
theorem FlsOk.put {K : PySem.W.Frag} {ow : Addr → List Nat} {i : Nat} {x : Str} {v : V} {d : D} (hv : Dat U K (view H Z) v d) : ∀ {k : Nat} {vs : List (Str × V)} {fs : List (Str × Fl)}, FlsOk U K Y Z H ow i k vs fs → FlsOk U K Y Z H ow i k (putF x v vs) (fput x (.dat d) fs)
  | _, _, _, .nil => .cons (show FlOk U K Y Z H ow i _ v (.dat d) from hv) .nil
  | k, _, _, .cons (x := y) (v := u) (f := f) (vs := vs) (fs := fs) h r => by
    show FlsOk U K Y Z H ow i k (if y = x then (y, v) :: vs else (y, u) :: putF x v vs) (if y = x then (y, .dat d) :: fs else (y, f) :: fput x (.dat d) fs)
    by_cases hx : y = x
    · rw [if_pos hx, if_pos hx]
      exact .cons (show FlOk U K Y Z H ow i _ v (.dat d) from hv) r
    · rw [if_neg hx, if_neg hx]
      exact .cons h (FlsOk.put hv r)
/-- the object itself is written: what its attributes own stays -/
theorem FlsOk.moved {K : PySem.W.Frag} {ow : Addr → List Nat} {i : Nat} {t : Addr} {o : HO} (ht : OwnAt Y Z ow t [i]) : ∀ {k : Nat} {vs : List (Str × V)} {fs : List (Str × Fl)}, FlsOk U K Y Z H ow i k vs fs → FlsOk U K Y Z (upd H t o) ow i k vs fs := by
  have ne : ∀ {a : Addr} {j : Nat} {w : List Nat}, OwnAt Y Z ow a (i :: j :: w) → a ≠ t := fun h z => by
    have e := h.at_
    rw [z, ht.at_] at e
    cases e
  have rows : ∀ {k j : Nat} {qs : List Addr} {xss : List (List D)}, RowsOk U K Y Z H ow i k j qs xss → RowsOk U K Y Z (upd H t o) ow i k j qs xss := by
    intro k j qs xss h
    induction h with
    | nil => exact .nil
    | cons o h d r ih => exact .cons o (by rw [upd_ne (ne o)]; exact h) (by rw [view_upd ht.z]; exact d) ih
  intro k vs fs h
  induction h with
  | nil => exact .nil
  | @cons k x v f vs fs h r ih =>
    refine .cons ?_ ih
    cases f with
    | dat d =>
      have h : Dat U K (view H Z) v d := h
      show Dat U K (view (upd H t _) Z) v d
      rw [view_upd ht.z]
      exact h
    | row xs => obtain ⟨p, ws, h1, h2, h3, h4⟩ := h; exact ⟨p, ws, h1, h2, by rw [upd_ne (ne h2)]; exact h3, by rw [view_upd ht.z]; exact h4⟩
    | old xss => obtain ⟨p, qs, h1, h2, h3, h4⟩ := h; exact ⟨p, qs, h1, h2, by rw [upd_ne (ne h2)]; exact h3, rows h4⟩
theorem FlsOk.length {K : PySem.W.Frag} {ow : Addr → List Nat} {i : Nat} : ∀ {k : Nat} {vs : List (Str × V)} {fs : List (Str × Fl)}, FlsOk U K Y Z H ow i k vs fs → vs.length = fs.length
  | _, _, _, .nil => rfl
  | _, _, _, .cons _ r => congrArg (· + 1) (FlsOk.length r)
section
variable {K : PySem.W.Frag} {Hb : Hp} {Dd : Ends} {env : Env} {te : TE} {fe : Env → Res D}
theorem get_ins {i t c : Nat} {fs : List (Str × Fl)} (h : env.get i = .ins t c fs) : env[i]? = some (.ins t c fs) := by
  unfold Env.get at h
  cases e : env[i]? with
  | none => rw [e] at h; cases h
  | some s => rw [e] at h; exact congrArg some h
theorem s_seta {i : Nat} {x : Str} (na : NaOk U K x) (h : Ye U W K Y te fe) : Ys U W K Y (sFld K (tVar i) te x) fun env => match env.get i with
    | .ins t c fs => (fe env).out env fun d => match decide (fs.length < 900) with
      | true => .nx (env.set i (.ins t c (fput x (.dat d) fs)))
      | false => .bad
    | _ => .bad := fun Hb D σ Z H env k hE c => by
  have c : Cnt U W K Y Hb D (match env.get i with
    | .ins t c fs => (fe env).out env fun d => match decide (fs.length < 900) with
      | true => .nx (env.set i (.ins t c (fput x (.dat d) fs)))
      | false => .bad
    | _ => .bad) := c
  cases hg : env.get i with
  | ins t cn fs =>
    rw [hg] at c
    refine h σ Z H env hE H (Ex.refl H) _ (fin_out k hE c fun d v H' e rb c' => ?_)
    have hE' := hE.mono e
    obtain ⟨ow, q⟩ := hE'.at_
    obtain ⟨C, dx, vs, h1, h2, h3, h4, h5⟩ := q i _ (get_ins hg)
    obtain ⟨n1, n2⟩ := na cn C h3
    cases hl : decide (fs.length < 900) with
    | true =>
      rw [hl] at c'
      have hlt := of_decide_eq_true hl
      refine ⟨_, h1, t, C, dx, vs, rfl, h4, n1, n2, by rw [h5.length]; omega, ?_⟩
      refine c' _ _ _ ((k.mono e).write ⟨h2.z, h2.y⟩) (hE'.write q i h2 ⟨C, dx, _, h1, h2, h3, upd_same, ?_⟩)
      have hv : Dat U K (view (upd H' t (.ins C dx (putF x v vs))) Z) v d := by rw [view_upd h2.z]; exact rb
      refine FlsOk.put hv ?_
      refine FlsOk.moved h2 h5
    | false => rw [hl] at c'; exact c'.elim
  | _ => rw [hg] at c; exact c.elim
end

/-! ### the call of a method, read -/
theorem few_all {env : PySem.Env} {cpos : Pos} {es : List Expr} (h : es.all nst = true) (hl : es.length < 29) : methodCallForm (es.length + ([] : List Keyword).length) (backTo cpos (starEach es env)) (backToKw cpos (keywordEach [] env)) = true := by
  have h2 := star_plain (pos := cpos) (env := env) h
  unfold methodCallForm
  have h3 : (backTo cpos (starEach es env)).all (fun x => !x.1) = true := by
    rw [List.all_eq_true]
    intro x hx
    have : ¬ (x.1 = true) := fun z => by
      rw [List.any_eq_false] at h2
      exact h2 x hx z
    simpa using this
  rw [h3]
  have h4 : (backToKw cpos (keywordEach [] env)) = [] := rfl
  rw [h4]
  simp
  omega
theorem eval_meth {env : PySem.Env} {o : Expr} {m : Str} {apos pos : Pos} {es : List Expr} (hb : nsup o = true) (hl : (apos.endLine == pos.line) = true) (h : es.all nst = true) (h29 : es.length < 29) :
    eval (.Call (.Attribute o m apos) es [] pos) env = (do
      let ov ← eval o env
      standAt apos.atName
      let (f, first) ← holding [ov] (getMethod ov m (do return (← importBound o env).getD true))
      callWith pos f first (backTo pos (starEach es env)) (backToKw pos (keywordEach [] env))) := by
  rw [arm_eval_Call, attr_base hb]
  have hp : methodCallPos true o env apos pos = pure pos := by unfold methodCallPos; simp [hl]
  unfold methodCall
  rw [few_all h h29, hp]
  rfl
theorem y_mth {m : Str} {n : Nat} {f : List D → Res D} {ap : Pos} (tk : Takes X W) (M : MOk U X m n f) (hb : nsup a = true) (hline : (ap.endLine == pos.line) = true) (zt : Zt Z H) (ns : es.all nst = true) (h29 : es.length < 29) (h0 : es = [] → rl = .ok []) (hlen : ∀ ds, rl = .ok ds → ds.length = n) (ha : Yl U W (RE U X.K Z) (Ew X a) σ H ra) (hl : Yl U W (RL U X.K Z) (Aw X es) σ H rl) :
    Yl U W (RE U X.K Z) (Ew X (.Call (.Attribute a m ap) es [] pos)) σ H (ra.bind fun o => req (isObj m o) (rl.bind fun ds => f (o :: ds))) := by
  obtain ⟨k, C, fa, fd, ps, hr, ho, hc, hm, hbd, F⟩ := M
  cases es with
  | nil =>
    refine Yl.imp (fun _ _ _ q => ew_of (pe_methX0 ew hc hm F hr hbd (fun σ => passAt tk σ) (eval_meth hb hline ns h29)) q) ?_
    refine y_methT zt ho hlen ha ?_
    rw [h0 rfl]
    exact fun H1 e1 Q q => q [] H1 (Ex.refl _) .nil
  | cons b es =>
    have n' : nst b = true ∧ es.all nst = true := by simpa using ns
    refine Yl.imp (fun _ _ _ q => ew_of (pe_methX ew hc hm F hr hbd (fun σ => passAt tk σ) aw (star_cons n'.1) (star_plain n'.2) (eval_meth hb hline ns h29)) q) ?_
    exact y_methT zt ho hlen ha hl
end
end Rwl

set_option Elab.async false
set_option linter.all false
set_option maxRecDepth 100000
set_option maxHeartbeats 1000000
/-! Rwl, part Jn: dicts with tuples as keys, lists of lists, a loop that pops: the rules. -/
namespace Rwl
open PySem PySem.Spec PyProof.Rows L2 Evl
section
variable {U : Ux} {W : WX} {X : Cx} {Y Z : List Addr} {σ : L2.St} {H : Hp} {a b : Expr} {pos p : Pos} {ra rb : Res D}

/-! ### k in d -/
def cmN : Bool → Cm
  | false => .inn
  | true => .nin
theorem op_ndB (hu : X.A.units + 64 < cLine) (n : Bool) : OpR X (compareOp (cmN n).op) (fun y x H Q => rND X x y H fun a xs k b => Q (.bl (xor n (atN xs k).isSome)) H) := by
  cases n with
  | false =>
    intro pins s σ H y x u v Q I ry rx h
    exact op_ndIn hu pins s σ H y x u v Q I ry rx (by simpa using h)
  | true =>
    intro pins s σ H y x u v Q I ry rx h
    exact op_ndNin hu pins s σ H y x u v Q I ry rx (by simpa using h)
theorem inND_ok {x y : D} {k : Bool} (h : inND x y = .ok k) : ∃ r, y = ndD r ∧ isKey x = true ∧ k = (nlook r x).isSome := by
  cases y with
  | dict kvs =>
    obtain ⟨r, h0, hg⟩ := bind_ok_inv (show (ofO (ndOf kvs)).bind _ = .ok k from h)
    cases ndOf_of (ofO_ok h0)
    obtain ⟨h1, h2⟩ := req_ok hg
    exact ⟨r, rfl, h1, (ok_inj h2).symm⟩
  | _ => cases h
theorem y_ind (hu : X.A.units + 64 < cLine) (hnd : U.nd = NDict X.prog X.w) (n : Bool) (hm : behindInMarks (cmN n).op b = false) (ha : Yl U W (RE U X.K Z) (Ew X a) σ H ra) (hb : Yl U W (RC U X.K Z) (Ew X b) σ H rb) :
    Yl U W (RE U X.K Z) (Ew X (.Compare a [(cmN n).op] [b] pos)) σ H (ra.bind fun x => rb.bind fun y => (inND x y).bind fun k => .ok (.bool (xor n k))) := by
  refine Yl.imp (fun _ _ _ q => ew_of (pe_cmpR (op_ndB hu n) ew ew hm) q) ?_
  refine Yl.two (t1 := Ew X a) (t2 := Ew X b) (tt := fun y x H Q => rND X x y H fun a xs k b => Q (V.bl (xor n (atN xs k).isSome)) H) re_mono ha hb fun x y u w H1 e1 dx dy => Yl.val (.bind (nox_inND x y) fun _ => .ok _) fun z H3 Q hr e3 q => ?_
  obtain ⟨k, h1, h2⟩ := bind_ok_inv hr
  cases ok_inj h2
  obtain ⟨r, rfl, hk, rfl⟩ := inND_ok h1
  refine rND_of hnd (Con.mono e3 dy) (dx.mono (ex_view e3 Z)) hk fun a xs b hn => ?_
  rw [hn.some_eq]
  exact q _ _ (Ex.refl _) (.bl _)
theorem y_indT (hu : X.A.units + 64 < cLine) (hnd : U.nd = NDict X.prog X.w) (n : Bool) (hm : behindInMarks (cmN n).op b = false) (ha : Yl U W (RE U X.K Z) (Ew X a) σ H ra) (hb : Yl U W (RC U X.K Z) (Ew X b) σ H rb) :
    Yl U W RQ (Tw X (.Compare a [(cmN n).op] [b] pos)) σ H (ra.bind fun x => rb.bind fun y => (inND x y).bind fun k => .ok (xor n k)) := by
  refine Yl.imp (fun _ _ _ q => tw_of (pt_cmpR (op_ndB hu n) ew ew hm) q) ?_
  refine Yl.two (t1 := Ew X a) (t2 := Ew X b) (tt := fun y x H Q => rND X x y H fun a xs k b => ∃ z, (V.bl (xor n (atN xs k).isSome)) = .bl z ∧ Q z H) re_mono ha hb fun x y u w H1 e1 dx dy => Yl.val (.bind (nox_inND x y) fun _ => .ok _) fun z H3 Q hr e3 q => ?_
  obtain ⟨k, h1, h2⟩ := bind_ok_inv hr
  cases ok_inj h2
  obtain ⟨r, rfl, hk, rfl⟩ := inND_ok h1
  refine rND_of hnd (Con.mono e3 dy) (dx.mono (ex_view e3 Z)) hk fun a xs b hn => ?_
  rw [hn.some_eq]
  exact ⟨_, rfl, q _ _ (Ex.refl _) rfl⟩

/-! ### reversed -/
theorem bind_assoc0 {α β γ : Type} (r : Res α) (f : α → Res β) (g : β → Res γ) : (r.bind f).bind g = r.bind fun a => (f a).bind g := by cases r <;> rfl
theorem nox_seq (d : D) : Nox (seqOf d) := by
  cases d <;> first | exact .ok _ | exact .bad | exact .req (.ok _)
theorem walk_rev {K : PySem.W.Frag} {xs : List V} {ds : List D} {l : Addr} (h : view H Z l = some (.lst xs)) (hd : DatL U K (view H Z) xs ds) : WalkJ U K Z (Itv K l xs.length) H ds.reverse := by
  intro H' Z' e
  have h' : SqL K H' l xs := SqL.of (view_ex H' Z' _ _ (e _ _ h))
  have hl := hd.length
  rw [List.length_reverse, ← hl]
  refine ⟨fun i hi => ⟨⟨hi, xs, xs[xs.length - 1 - i]'(by omega), h', List.getElem?_eq_getElem _⟩, fun x H'' y => ?_⟩, Nat.le_refl _⟩
  obtain ⟨e1, y⟩ := y
  obtain ⟨d, h1, h2⟩ := hd.get' (y xs h')
  refine ⟨e1, d, ?_, h2.mono e⟩
  rw [List.getElem?_reverse (by omega), ← hl]
  exact h1
theorem y_rvs {tg : Expr} (hg : Gl X "reversed") (hm : X.mg "reversed" = none) (n : nst a = true) (ha : Yl U W (RE U X.K Z) (Ew X a) σ H ra) : Yl U W (RI U X.K Z) (Iw X tg (.Call (.Name "reversed" p) [a] [] pos)) σ H ((ra.bind revD).bind seqOf) := by
  refine Yl.imp (fun _ _ _ q => iw_of (RT.pi_revA hg hm ew (star_cons n)) q) ?_
  rw [bind_assoc0]
  refine Yl.one (t1 := Ew X a) (tt := fun v H1 R => ∃ (a : Addr) (xs : List V), v = .ref a ∧ ((SqL X.K H1 a xs ∧ R (Itv X.K a xs.length) H1) ∨ (SqT X.K H1 a xs ∧ R (RT.ItvT X.K a xs.length) H1))) ha fun x u H1 e1 dx => Yl.val (.bind (nox_rev x) fun y => nox_seq y) fun z H3 Q hr e3 q => ?_
  obtain ⟨y, h1, h2⟩ := bind_ok_inv hr
  cases x with
  | list ds =>
    cases ok_inj h1
    cases ok_inj h2
    obtain ⟨l, xs, rfl, k1, k2⟩ := (dx.mono (ex_view e3 Z)).list_inv
    exact ⟨l, xs, rfl, .inl ⟨SqL.of (view_ex H3 Z _ _ k1), q _ _ (Ex.refl _) (walk_rev k1 k2)⟩⟩
  | _ => cases h1

/-! ### new dicts, what is stored in them -/
theorem pe_ndNew : PE X (.Dict [] [] pos) (fun _ H Q => ∀ p, H p = none → Q (.ref p) (upd H p (NDict X.prog X.w p []))) := ⟨fun pins s σ H Q I h =>
  wpAny_Dict_empty ⟨.ref s.heap.objs.size, _, I.laid (a := s.heap.objs.size) (o := NDict X.prog X.w s.heap.objs.size []) (t' := s.toks) (fun _ _ q => Heap.get?_push_of_some _ q) (Nat.le_refl _) (nd_empty s.heap I.big), rfl, h _ (I.hok.fresh (Nat.le_refl _))⟩⟩
theorem pe_ndOne {ek ev : Expr} {tk tv : TE} (hu : X.A.units + 64 < cLine) (hk : PE X ek tk) (hv : PE X ev tv) : PE X (.Dict [some ek] [ev] pos) (fun σ H Q => ∀ p, H p = none → tk σ (upd H p (NDict X.prog X.w p [])) fun y H1 => tv σ H1 fun v H2 =>
    ∃ b k, y = .ref b ∧ Nk X H2 k b ∧ H2 p = some (NDict X.prog X.w p []) ∧ Q (.ref p) (upd H2 p (NDict X.prog X.w p [(k, b, v)]))) := by
  refine ⟨fun pins s σ H Q I q => ?_⟩
  have hn := I.hok.fresh (Nat.le_refl s.heap.objs.size)
  have I1 := I.laid (a := s.heap.objs.size) (o := NDict X.prog X.w s.heap.objs.size []) (h' := s.heap.push { cls := .type "dict", data := .dict #[] }) (t' := s.toks) (fun _ _ q => Heap.get?_push_of_some _ q) (Nat.le_refl _) (nd_empty s.heap I.big)
  have hroom : (nestedKind X.prog X.w).room X.A := by show X.A.units + 8 < cLine; omega
  have hshape : (evalEachOpt [some ek] X.env).zip ((evalEach [ev] X.env).map fun v => do let x ← v; standAt pos; pure x) = (pairTrees [some ek] [ev] X.env pos).map fun p => (some p.1, p.2) := rfl
  rw [arm_eval_Dict, hshape, dictDisplay_pairs (pairTrees [some ek] [ev] X.env pos) (by simp [pairTrees]) (by simp [pairTrees])]
  refine wpAny_bind (wpAny_standAt (wpAny_bind (wpAny_subDictH (knd := nestedKind X.prog X.w) (Q := fun d s' => wpAny (model X.prog X.w) X.A (pure (Value.ref d)) (EP X pins σ Q) X.xe s') hroom (by simp [pairTrees]) ?_)))
  refine pairTrees_cons_walk (thn (hk.run pins _ σ _ _ I1 (q _ hn)) fun u s1 ⟨y, H1, I2, ry, q1⟩ => thn (hv.run pins s1 σ H1 _ I2 q1) fun w2 s2 ⟨v, H2, I3, rv, b, k, ey, nk, e, q2⟩ => pairTrees_nil_walk ?_)
  subst ey
  obtain rfl : u = Value.ref b := ry
  obtain ⟨z, hd, ys, rel, dd⟩ := ndc_of I3 e (fun x hx => nomatch hx)
  cases rel
  refine ⟨[(k, b, w2)], ⟨rfl, rfl, nk _ _ _ I3, trivial⟩, dd, fun h' tk dd' hs => wpAny_pure ⟨.ref s.heap.objs.size, _, ?_, rfl, q2⟩⟩
  have he : ∃ q, h'.get? s.heap.objs.size = some q := let ⟨q, _, _, hq, _⟩ := dd'; ⟨q, hq⟩
  have es : storedAllH [] [(k, b, w2)] = [(k, b, w2)] := rfl
  rw [es] at dd'
  exact d_write I3 (by rw [e]; exact True.intro) hs he (nd_obj (by rw [sizeLine_eq]; exact Nat.le_of_ble_eq_true rfl) hd (.cons ⟨rfl, rfl, rv⟩ .nil) dd')
end
section
variable {U : Ux} {W : WX} {X : Cx} {Y : List Addr} {te tk : TE} {fe fk : Env → Res D}
theorem set_nd (hu : X.A.units + 64 < cLine) : PSet X (fun o i v H Q => rND X o i H fun a xs k b => xs.length < sizeLine ∧ Q (upd H a (NDict X.prog X.w a (putN xs k b v)))) := by
  intro pins s σ H o i v ov iv u Q I ro ri rv h
  obtain ⟨a, b, xs, k, rfl, rfl, e, ks, hk, hl, q⟩ := h
  obtain rfl : ov = Value.ref a := ro
  obtain rfl : iv = Value.ref b := ri
  exact nd_setItem hu I e ks hk hl rv fun s' I' => ⟨_, I', q⟩
theorem y_ownN {W : WX} {Z : List Addr} {σ : L2.St} {H : Hp} {a : Expr} {i : Nat} {kvs : List (D × D)} {env : Env} (p : PE X a (tVar i)) (h : EnvOk U X.K Y Z H σ env) (hi : env.get i = .dcn kvs) : Yl U W (RC U X.K Z) (Ew X a) σ H (.ok (ndD kvs)) := by
  refine Yl.imp (fun _ _ _ q => ew_of p q) (t := tVar i) fun H1 e Q q => ?_
  obtain ⟨ow, r⟩ := (h.mono e).get i
  rw [hi] at r
  obtain ⟨p, xs, h1, h2, h3, h4⟩ := r
  exact ⟨_, h1, q _ H1 (Ex.refl H1) (.ndi h3 h4)⟩
theorem s_newn {i : Nat} (hnd : U.nd = NDict X.prog X.w) : Ys U W X.K Y (tAsg (fun _ H Q => ∀ p, H p = none → Q (.ref p) (upd H p (NDict X.prog X.w p []))) (gName i)) fun env => .nx (env.set i (.dcn [])) := fun Hb D σ Z H env k hE c => by
  intro p hp
  exact c _ (p :: Z) _ (k.new hp (Ex.new hp)) (hE.putNew (Ex.new hp) hp upd_same i _ fun ow o => ⟨p, [], rfl, o, by rw [hnd]; exact upd_same, .nil⟩)
theorem s_newk {i : Nat} (hnd : U.nd = NDict X.prog X.w) (hk : Ye U W X.K Y tk fk) (h : Ye U W X.K Y te fe) : Ys U W X.K Y (tAsg (fun σ H Q => ∀ p, H p = none → tk σ (upd H p (NDict X.prog X.w p [])) fun y H1 => te σ H1 fun v H2 =>
    ∃ b k, y = .ref b ∧ Nk X H2 k b ∧ H2 p = some (NDict X.prog X.w p []) ∧ Q (.ref p) (upd H2 p (NDict X.prog X.w p [(k, b, v)]))) (gName i)) fun env => (fk env).out env fun x => (fe env).out env fun d => match isKey x with
    | true => .nx (env.set i (.dcn [(x, d)]))
    | false => .bad := fun Hb D σ Z H env k hE c => by
  intro p hp
  have e0 : Ex H (upd H p (NDict X.prog X.w p [])) := Ex.new hp
  have hE1 : EnvOk U X.K Y (p :: Z) (upd H p (NDict X.prog X.w p [])) σ env := hE.hide e0 hp upd_same
  have k1 : Kp Hb Y (p :: Z) (upd H p (NDict X.prog X.w p [])) := k.new hp e0
  refine hk σ (p :: Z) _ env hE1 _ (Ex.refl _) _ (fin_out k1 hE1 c fun x y H1 e1 ry c1 => ?_)
  refine h σ (p :: Z) H1 env (hE1.mono e1) H1 (Ex.refl _) _ (fin_out (k1.mono e1) (hE1.mono e1) c1 fun d v H2 e2 rv c2 => ?_)
  cases hi : isKey x with
  | true =>
    rw [hi] at c2
    have ry2 := ry.mono (ex_view e2 (p :: Z))
    obtain ⟨b, rfl, nk⟩ := Nk.of ry2 hi
    have e12 := e1.trans e2
    have hp2 : H2 p = some (NDict X.prog X.w p []) := e12 _ _ upd_same
    refine ⟨b, _, rfl, nk, hp2, ?_⟩
    have pz : p ∉ Y := fun hy => by
      obtain ⟨o, r⟩ := hE.zt p (hE.sub p hy)
      rw [hp] at r; cases r
    have ex : Ex H (upd H2 p (NDict X.prog X.w p [(keyOf x, b, v)])) := fun a o ha => by
      rw [upd_ne (ne_of_none ha hp)]
      exact (e0.trans e12) a o ha
    refine c2 _ (p :: Z) _ ((k1.mono e12).write ⟨List.mem_cons_self, pz⟩) (hE.putNew ex hp upd_same i _ fun ow o => ⟨p, _, rfl, o, by rw [hnd]; exact upd_same, ?_⟩)
    rw [view_upd List.mem_cons_self]
    exact .cons ry2 hi rv .nil
  | false => rw [hi] at c2; exact c2.elim
theorem get_dcn {env : Env} {i : Nat} {kvs : List (D × D)} (h : env.get i = .dcn kvs) : env[i]? = some (.dcn kvs) := by
  unfold Env.get at h
  cases e : env[i]? with
  | none => rw [e] at h; cases h
  | some s => rw [e] at h; exact congrArg some h
theorem get_rws {env : Env} {i : Nat} {kvs : List (List D)} (h : env.get i = .rws kvs) : env[i]? = some (.rws kvs) := by
  unfold Env.get at h
  cases e : env[i]? with
  | none => rw [e] at h; cases h
  | some s => rw [e] at h; exact congrArg some h
theorem s_setn {i : Nat} (hnd : U.nd = NDict X.prog X.w) (h : Ye U W X.K Y te fe) (hk : Ye U W X.K Y tk fk) : Ys U W X.K Y (tAsg te (gSub (tVar i) tk fun o i v H Q => rND X o i H fun a xs k b => xs.length < sizeLine ∧ Q (upd H a (NDict X.prog X.w a (putN xs k b v))))) fun env => match env.get i with
    | .dcn kvs => (fe env).out env fun d => (fk env).out env fun y => match isKey y && decide (kvs.length < lim) with
      | true => .nx (env.set i (.dcn (nput kvs y d)))
      | false => .bad
    | _ => .bad := fun Hb D σ Z H env k hE c => by
  have c : Cnt U W X.K Y Hb D (match env.get i with
    | .dcn kvs => (fe env).out env fun d => (fk env).out env fun y => match isKey y && decide (kvs.length < lim) with
      | true => .nx (env.set i (.dcn (nput kvs y d)))
      | false => .bad
    | _ => .bad) := c
  cases hg : env.get i with
  | dcn kvs =>
    rw [hg] at c
    refine h σ Z H env hE H (Ex.refl H) _ (fin_out k hE c fun d v H1 e rb c1 => ?_)
    have hE1 := hE.mono e
    have k1 := k.mono e
    obtain ⟨ow0, q0⟩ := hE1.at_
    obtain ⟨p0, xs0, h10, _, _, _⟩ := q0 i _ (get_dcn hg)
    refine ⟨_, h10, ?_⟩
    refine hk σ Z H1 env hE1 H1 (Ex.refl H1) _ (fin_out k1 hE1 c1 fun y w H2 e2 ry c2 => ?_)
    have hE2 := hE1.mono e2
    obtain ⟨ow, q⟩ := hE2.at_
    obtain ⟨p, xs, h1, h2, h3, h4⟩ := q i _ (get_dcn hg)
    rw [h10] at h1
    cases h1
    cases hi : isKey y && decide (kvs.length < lim) with
    | true =>
      rw [hi] at c2
      obtain ⟨i1, i2⟩ : isKey y = true ∧ decide (kvs.length < lim) = true := by simpa using hi
      obtain ⟨b, rfl, nk⟩ := Nk.of ry i1
      have h3' := h3
      rw [hnd] at h3'
      refine ⟨p0, b, xs, _, rfl, rfl, h3', h4.keys, nk, by rw [h4.length]; exact lim_lt (of_decide_eq_true i2), ?_⟩
      refine c2 _ _ _ ((k1.mono e2).write ⟨h2.z, h2.y⟩) (hE2.write q i h2 ⟨p0, _, h10, h2, by rw [hnd]; exact upd_same, ?_⟩)
      rw [view_upd h2.z]
      exact h4.put ry i1 (rb.mono (ex_view e2 Z))
    | false => rw [hi] at c2; exact c2.elim
  | _ => rw [hg] at c; exact c.elim
/-! ### for .. in o.m(xs.pop()) -/
theorem s_forp {C : Addr} {m : Str} {j : Nat} {f : List D → Res D} {a : Expr} {tb : TS} {fb : Env → Out} {tg : Tg} (ho : U.oc 0 = some C) (ha : Ye U W X.K Y (Ew X a) fe) (hb : Ys U W X.K Y tb fb) :
    Ys U W X.K Y (tFor (iList X.K (tMethS C m (spD U X.K 2 f) (WE W) (Ew X a) (tCons (tBM0 X.K "list" rPop (tVar j)) tNil))) (tg.g X.K) tb) fun env => match env.get j with
      | .own xs => match xs.getLast? with
        | some d => (fe env).out env fun o => match isObj m o with
          | true => (f [o, d]).out (env.set j (.own xs.dropLast)) fun l => match l with
            | .list ds => forGo (fun d env => (tg.run env d).out env fb) ds (env.set j (.own xs.dropLast))
            | _ => .bad
          | false => .bad
        | none => .bad
      | _ => .bad := fun Hb D σ Z H env k hE c => by
  have c : Cnt U W X.K Y Hb D (match env.get j with
      | .own xs => match xs.getLast? with
        | some d => (fe env).out env fun o => match isObj m o with
          | true => (f [o, d]).out (env.set j (.own xs.dropLast)) fun l => match l with
            | .list ds => forGo (fun d env => (tg.run env d).out env fb) ds (env.set j (.own xs.dropLast))
            | _ => .bad
          | false => .bad
        | none => .bad
      | _ => .bad) := c
  cases hg : env.get j with
  | own xs =>
    rw [hg] at c
    cases hl : xs.getLast? with
    | none => dsimp only at c; rw [hl] at c; exact c.elim
    | some d =>
      dsimp only at c
      rw [hl] at c
      refine ha σ Z H env hE H (Ex.refl H) _ (fin_out k hE c fun o u H1 e1 ru c1 => ?_)
      have hE1 := hE.mono e1
      have k1 := k.mono e1
      cases hi : isObj m o with
      | false => rw [hi] at c1; exact c1.elim
      | true =>
        rw [hi] at c1
        obtain ⟨kvs, rfl, hn⟩ := isObj_inv hi
        obtain ⟨po, C', dx, fs, rfl, hc, hp, hf⟩ := ru.obj_inv
        have hc : U.oc 0 = some C' := hc
        rw [ho] at hc
        cases hc
        have lk := hf.look (x := m)
        rw [hn] at lk
        refine ⟨po, dx, fs, rfl, view_ex H1 Z _ _ hp, lk, ?_⟩
        obtain ⟨p, vs, h1, h2, h3, h4⟩ := own_at hE1 hg
        have hlen := h4.length
        have hx : xs[xs.length - 1]? = some d := by rw [← List.getLast?_eq_getElem?]; exact hl
        obtain ⟨y, hy, dy⟩ := h4.get hx
        have hdl : xs.dropLast = xs.take (xs.length - 1) := List.dropLast_eq_take
        have hvl : vs.dropLast = vs.take (xs.length - 1) := by rw [← hlen]; exact List.dropLast_eq_take
        obtain ⟨q1, q2⟩ := own_write k1 hE1 hg h1 h2 (ws := vs.dropLast) (ys := xs.dropLast) (by rw [hdl, hvl]; exact h4.take _)
        refine ⟨_, h1, .inl ⟨rfl, vs, SqL.of h3⟩, p, vs, y, rfl, rfl, h3, by rw [hlen]; exact hy, ?_⟩
        have vw : view (upd H1 p (.lst vs.dropLast)) Z = view H1 Z := view_upd h2.1
        refine ⟨rfl, Z, [_, d], q2.zt, .cons (by rw [vw]; exact ru) (.one (by rw [vw]; exact dy)), ?_⟩
        cases hr : f [.dict ((.bool false, .int (.ofNat 0)) :: kvs), d] with
        | ok l =>
          rw [hr] at c1
          cases l with
          | list ds =>
            intro v H3 e3 dv
            obtain ⟨l, ys, rfl, g1, g2⟩ := dv.list_inv
            exact ⟨l, rfl, ⟨ys, SqL.of (view_ex H3 Z _ _ g1)⟩, for_go hb (q1.mono e3) (q2.mono e3) (walk_list (J := Itl X.K l) g1 g2) c1⟩
          | _ => exact c1.elim
        | exc cx =>
          rw [hr] at c1
          obtain ⟨Cx', g1, g2⟩ := c1
          exact ⟨Cx', g1, fun H3 e3 => g2 σ Z H3 (q1.mono e3) (q2.mono e3)⟩
        | bad => rw [hr] at c1; exact c1.elim
  | _ => rw [hg] at c; exact c.elim
/-! ### sorted, of tuples -/
theorem y_srt {Z : List Addr} {σ : L2.St} {H : Hp} {a : Expr} {ra : Res D} {p pos : Pos} (hc : X.calm = true) (hu : X.A.units + 64 < cLine) (hnd : U.nd = NDict X.prog X.w) (hg : Gl X "sorted") (hm : X.mg "sorted" = none) (t : Zt Z H) (n : nst a = true) (ha : Yl U W (RC U X.K Z) (Ew X a) σ H ra) :
    Yl U W (RE U X.K Z) (Ew X (.Call (.Name "sorted" p) [a] [] pos)) σ H (ra.bind srtD) := by
  refine Yl.imp (fun _ _ _ q => ew_of (pe_callB (call_srt (U := U) (Z := Z) hc hu hnd) hg hm (by decide +kernel) (pa_cons ew pa_nil (star_cons n)) (by decide +kernel) (by decide +kernel) (star_cons n) rfl) q) ?_
  refine Yl.one (R1 := RC U X.K Z) (t1 := Ew X a) (tt := fun x H Q => ∃ x' a d, [x] = [x'] ∧ Zt Z H ∧ Con U X.K Z H x' a ∧ srtD a = .ok d ∧ Wn U X.K Z H Q d) ha fun x u H1 e1 dx => Yl.val (nox_srt x) fun z H3 Q hr e3 q => ⟨u, x, z, rfl, (t.mono e1).mono e3, Con.mono e3 dx, hr, q⟩

/-! ### lists of an own list -/
theorem RowsOk.get {K : PySem.W.Frag} {Z : List Addr} {H : Hp} {ow : Addr → List Nat} {i k : Nat} : ∀ {j n : Nat} {qs : List Addr} {xss : List (List D)} {xs : List D}, RowsOk U K Y Z H ow i k j qs xss → xss[n]? = some xs → ∃ q vs, qs[n]? = some q ∧ OwnAt Y Z ow q [i, k, j + n] ∧ H q = some (.lst vs) ∧ DatL U K (view H Z) vs xs
  | _, _, _, _, _, .nil, e => by simp at e
  | j, 0, _, _, _, .cons o h d r, e => by
    simp at e
    subst e
    exact ⟨_, _, rfl, o, h, d⟩
  | j, n + 1, _, _, _, .cons o h d r, e => by
    obtain ⟨q, vs, h1, h2, h3, h4⟩ := RowsOk.get (n := n) r (by simpa using e)
    refine ⟨q, vs, by simpa using h1, ?_, h3, h4⟩
    rw [show j + (n + 1) = j + 1 + n by omega]
    exact h2
theorem RowsOk.keep {K : PySem.W.Frag} {Z : List Addr} {H : Hp} {ow : Addr → List Nat} {i k m : Nat} {q : Addr} {o : HO} (hq : OwnAt Y Z ow q [i, k, m]) : ∀ {j : Nat} {qs : List Addr} {xss : List (List D)}, m < j → RowsOk U K Y Z H ow i k j qs xss → RowsOk U K Y Z (upd H q o) ow i k j qs xss
  | _, _, _, _, .nil => .nil
  | j, _, _, hj, .cons (q := q') o' h d r => by
    have ne : q' ≠ q := fun z => by
      have e := o'.at_
      rw [z, hq.at_] at e
      simp at e
      omega
    exact .cons o' (by rw [upd_ne ne]; exact h) (by rw [view_upd hq.z]; exact d) (RowsOk.keep hq (Nat.lt_succ_of_lt hj) r)
theorem RowsOk.set {K : PySem.W.Frag} {Z : List Addr} {H : Hp} {ow : Addr → List Nat} {i k : Nat} {q : Addr} {ws : List V} {ys : List D} : ∀ {j n : Nat} {qs : List Addr} {xss : List (List D)}, OwnAt Y Z ow q [i, k, j + n] → n < xss.length → RowsOk U K Y Z H ow i k j qs xss → qs[n]? = some q → DatL U K (view H Z) ws ys →
    RowsOk U K Y Z (upd H q (.lst ws)) ow i k j qs (xss.set n ys)
  | _, _, _, _, _, hn, .nil, _, _ => absurd hn (Nat.not_lt_zero _)
  | j, 0, _, _, hq, _, .cons o h d r, e, hd => by
    simp at e
    subst e
    exact .cons o upd_same (by rw [view_upd hq.z]; exact hd) (RowsOk.keep hq (Nat.lt_succ_self _) r)
  | j, n + 1, _, _, hq, hn, .cons (q := q') o h d r, e, hd => by
    have ne : q' ≠ q := fun z => by
      have e := o.at_
      rw [z, hq.at_] at e
      simp at e
    refine .cons o (by rw [upd_ne ne]; exact h) (by rw [view_upd hq.z]; exact d) (RowsOk.set (n := n) ?_ (Nat.lt_of_succ_lt_succ hn) r (by simpa using e) hd)
    rw [show j + 1 + n = j + (n + 1) by omega]
    exact hq
theorem RowsOk.length {K : PySem.W.Frag} {Z : List Addr} {H : Hp} {ow : Addr → List Nat} {i k : Nat} : ∀ {j : Nat} {qs : List Addr} {xss : List (List D)}, RowsOk U K Y Z H ow i k j qs xss → qs.length = xss.length
  | _, _, _, .nil => rfl
  | _, _, _, .cons _ _ _ r => congrArg (· + 1) (RowsOk.length r)
theorem map_ref_inj : ∀ {qs rs : List Addr}, qs.map V.ref = rs.map V.ref → qs = rs
  | [], [], _ => rfl
  | [], _ :: _, h => by cases h
  | _ :: _, [], h => by cases h
  | q :: qs, r :: rs, h => by
    simp only [List.map_cons, List.cons.injEq, V.ref.injEq] at h
    rw [h.1, map_ref_inj h.2]
theorem s_appr {i : Nat} (hk : Ye U W X.K Y tk fk) (h : Ye U W X.K Y te fe) : Ys U W X.K Y (tDrop (tBM X.K "list" rAppend (tOp (rIxL X.K) (tVar i) tk) (tCons te tNil))) fun env => match env.get i with
    | .rws xss => (fk env).out env fun y => match y with
      | .int j => match decide (0 ≤ j) && decide (j < xss.length) with
        | true => (fe env).out env fun d => match decide ((xss.getD j.toNat []).length < lim) with
          | true => .nx (env.set i (.rws (xss.set j.toNat (xss.getD j.toNat [] ++ [d]))))
          | false => .bad
        | false => .bad
      | _ => .bad
    | _ => .bad := fun Hb D σ Z H env k hE c => by
  have c : Cnt U W X.K Y Hb D (match env.get i with
    | .rws xss => (fk env).out env fun y => match y with
      | .int j => match decide (0 ≤ j) && decide (j < xss.length) with
        | true => (fe env).out env fun d => match decide ((xss.getD j.toNat []).length < lim) with
          | true => .nx (env.set i (.rws (xss.set j.toNat (xss.getD j.toNat [] ++ [d]))))
          | false => .bad
        | false => .bad
      | _ => .bad
    | _ => .bad) := c
  cases hg : env.get i with
  | rws xss =>
    rw [hg] at c
    obtain ⟨ow0, q0⟩ := hE.at_
    obtain ⟨p, qs0, h10, _, h30, _⟩ := q0 i _ (get_rws hg)
    refine ⟨_, h10, ?_⟩
    refine hk σ Z H env hE H (Ex.refl H) _ (fin_out k hE c fun y w H1 e1 ry c1 => ?_)
    cases y with
    | int j =>
      cases ry.int_inv
      cases hl : decide (0 ≤ j) && decide (j < xss.length) with
      | true =>
        dsimp only at c1
        rw [hl] at c1
        have hj : 0 ≤ j ∧ j < xss.length := by simpa using hl
        have hjn : j.toNat < xss.length := by omega
        have hE1 := hE.mono e1
        have k1 := k.mono e1
        obtain ⟨ow, q⟩ := hE1.at_
        obtain ⟨p', qs, h1, h2, h3, h4⟩ := q i _ (get_rws hg)
        rw [h10] at h1
        cases h1
        have hgd : xss[j.toNat]? = some (xss.getD j.toNat []) := by rw [List.getD_eq_getElem?_getD, List.getElem?_eq_getElem hjn]; rfl
        obtain ⟨r, vs, g1, g2, g3, g4⟩ := h4.get hgd
        have hql := h4.length
        refine ⟨p, qs.map V.ref, j, .ref r, rfl, rfl, SqL.of h3, ?_, .inl ⟨rfl, vs, SqL.of g3⟩, ?_⟩
        · unfold atI
          rw [ixN_of (by rw [List.length_map, hql]; exact hl)]
          show (qs.map V.ref)[j.toNat]? = _
          rw [List.getElem?_map, g1]
          rfl
        · refine h σ Z H1 env hE1 H1 (Ex.refl H1) _ (fin_out k1 hE1 c1 fun d v H2 e2 rb c2 => ?_)
          cases hl2 : decide ((xss.getD j.toNat []).length < lim) with
          | true =>
            rw [hl2] at c2
            have hE2 := hE1.mono e2
            have k2 := k1.mono e2
            obtain ⟨ow, q⟩ := hE2.at_
            obtain ⟨p', qs', h1', h2', h3', h4'⟩ := q i _ (get_rws hg)
            rw [h10] at h1'
            cases h1'
            have eqs : qs' = qs := by
              rw [e2 _ _ h3] at h3'
              have := HO.lst.inj (Option.some.inj h3')
              exact (map_ref_inj this).symm
            subst eqs
            obtain ⟨r', vs', g1', g2', g3', g4'⟩ := h4'.get hgd
            rw [g1] at g1'
            cases g1'
            refine ⟨r, vs', v, rfl, rfl, g3', ?_, ?_⟩
            · rw [g4'.length]; exact lim_lt (of_decide_eq_true hl2)
            · have hpr : p ≠ r := fun z => by
                have e := h2'.at_
                rw [z, g2'.at_] at e
                simp at e
              refine c2 _ _ _ (k2.write ⟨g2'.z, g2'.y⟩) (hE2.write q i g2' ⟨p, qs', h10, h2', by rw [upd_ne hpr]; exact h3', RowsOk.set (j := 0) (n := j.toNat) g2' hjn h4' g1 (g4'.append (.one rb))⟩)
          | false => rw [hl2] at c2; exact c2.elim
      | false => dsimp only at c1; rw [hl] at c1; exact c1.elim
    | _ => exact c1.elim
  | _ => rw [hg] at c; exact c.elim
end
end Rwl

set_option Elab.async false
set_option linter.all false
set_option maxRecDepth 100000
set_option maxHeartbeats 1000000
/-! Rwl, part Jr: a new list of new lists. -/
namespace Rwl
open PySem PySem.Spec PyProof.Rows L2 Evl
section
variable {U : Ux} {W : WX} {X : Cx} {Y Z : List Addr} {σ : L2.St} {H : Hp}
/-- n new lists in a new list -/
def FinR (U : Ux) (W : WX) (σ : L2.St) (H : Hp) (Q : VK) : Res (List D) → Prop
  | .ok ds => ∀ (p : Addr) (qs : List Addr) (H' : Hp), H p = none → Ex H H' → qs.length = ds.length → qs.Nodup → (∀ q ∈ qs, H q = none ∧ q ≠ p ∧ H' q = some (.lst [])) → H' p = some (.lst (qs.map V.ref)) → Q (.ref p) H'
  | .exc c => ∃ C, U.ec c = some C ∧ ∀ H', Ex H H' → W (.ref C) none σ H'
  | .bad => False
def FrR (U : Ux) (W : WX) (te : TE) (σ : L2.St) (H : Hp) (r : Res (List D)) : Prop := ∀ H1, Ex H H1 → ∀ Q, FinR U W σ H1 Q (r.bind fun ds => req (decide (ds.length ≤ 1000)) (.ok ds)) → te σ H1 Q
theorem f_rows {scope : Scope} {own : List (Str × Nat)} {tg iter : Expr} {lp : Pos} {tv : Nat} {env : Env} {ri : Res (List D)} (hE : EnvOk U X.K Y Z H σ env)
    (hi : Yl U W (RI U X.K Z) (Iw X tg iter) σ H ri) (hne : own.map (·.2) ≠ []) (sub : tv ∈ own.map (·.2)) :
    FrR U W (tLcX (Iw X tg iter) ((⟨false, [tv]⟩ : Tg).g X.K) (Pbl X W scope []) (Ebl X W scope (.List [] lp)) (own.map (·.2))) σ H ri := by
  generalize hvs : own.map (·.2) = vs at sub hne ⊢
  intro H1 e1 Q q
  refine hi H1 e1 _ ?_
  cases ri with
  | exc c => exact q
  | bad => exact q
  | ok ds =>
    intro J H1' e1' wk
    have zt1 : Zt Z H1' := (hE.zt.mono e1).mono e1'
    intro L hD
    cases hlen : decide (ds.length ≤ 1000) with
    | false =>
      have q : FinR U W σ H1 Q (req (decide (ds.length ≤ 1000)) (.ok ds)) := q
      rw [hlen] at q
      exact q.elim
    | true =>
    have q : FinR U W σ H1 Q (req (decide (ds.length ≤ 1000)) (.ok ds)) := q
    rw [hlen] at q
    have hlim := of_decide_eq_true hlen
    refine ⟨fun i m H' => m = ds.length - i ∧ i ≤ ds.length ∧ Ex H1' H' ∧ ∃ qs : List Addr, H' L = some (.lst (qs.map V.ref)) ∧ qs.length = i ∧ qs.Nodup ∧ ∀ a ∈ qs, H1' a = none ∧ a ≠ L ∧ H' a = some (.lst []),
      ⟨ds.length, by simp, Nat.zero_le _, Ex.new hD, [], upd_same, rfl, List.nodup_nil, fun a ha => nomatch ha⟩, ?_⟩
    rintro i m H' ⟨rfl, hil, ex, qs, hacc, hql, hnd, hqs⟩
    have vw : Ex (view H1' Z) (view H' (L :: Z)) := ex_view_cons ex hD
    obtain ⟨walk, stop⟩ := wk H' (L :: Z) vw
    by_cases hlt : i < ds.length
    · obtain ⟨go, yl⟩ := walk i hlt
      refine .inr ⟨go, fun H'' => Ex H1' H'' ∧ ∃ qs : List Addr, H'' L = some (.lst (qs.map V.ref)) ∧ qs.length = i + 1 ∧ qs.Nodup ∧ ∀ a ∈ qs, H1' a = none ∧ a ≠ L ∧ H'' a = some (.lst []), ?_, ?_⟩
      · rintro H'' ⟨ex', qs', r1, r2, r3, r4⟩
        exact ⟨ds.length - (i + 1), by omega, rfl, hlt, ex', qs', r1, r2, r3, r4⟩
      · intro x H'' hy
        obtain ⟨rfl, d, hd, dx⟩ := yl x H'' hy
        have hEH : EnvOk U X.K Y (L :: Z) H'' σ env := ((hE.mono e1).mono e1').hide ex hD hacc
        have hEw := hEH.wipe vs
        refine g_run vs (t := ⟨false, [tv]⟩) hEw dx rfl (fun j hj => .inl (by cases List.mem_singleton.mp hj; exact sub)) fun σ' hE' hw => ?_
        have hw' : L2.wipe σ' vs = L2.wipe σ vs := by rw [hw hne, wipe_wipe]
        refine ⟨hw', ?_⟩
        intro s H0 C cl fp
        refine pw_of pts_nil ?_
        dsimp only [tYes]
        rw [if_pos rfl]
        intro s H0 C cl fp
        refine ew_of (pe_lst pa_nil) ?_
        refine ⟨Nat.zero_le _, fun p hp => ?_⟩
        have hpL : p ≠ L := fun z => by rw [z, hacc] at hp; cases hp
        have hpq : p ∉ qs := fun z => by rw [(hqs p z).2.2] at hp; cases hp
        have hp1 : H1' p = none := by
          cases h0 : H1' p with
          | none => rfl
          | some o => rw [ex _ _ h0] at hp; cases hp
        refine ⟨qs.map V.ref, by rw [upd_ne (Ne.symm hpL)]; exact hacc, by rw [List.length_map, hql, sizeLine_eq]; omega, Ex.mut (ex.trans (Ex.new hp)) hD, qs ++ [p], ?_, by rw [List.length_append, hql]; rfl, ?_, fun a ha => ?_⟩
        · rw [upd_same, List.map_append]
          rfl
        · rw [List.nodup_append]
          exact ⟨hnd, by simp, fun a ha b hb => by cases List.mem_singleton.mp hb; exact fun z => hpq (by rw [← z]; exact ha)⟩
        · rcases List.mem_append.mp ha with ha | ha
          · obtain ⟨a1, a2, a3⟩ := hqs a ha
            refine ⟨a1, a2, ?_⟩
            have hap : a ≠ p := fun z => hpq (by rw [← z]; exact ha)
            rw [upd_ne a2, upd_ne hap]
            exact a3
          · cases List.mem_singleton.mp ha
            exact ⟨hp1, hpL, by rw [upd_ne hpL, upd_same]⟩
    · have hi' : i = ds.length := by omega
      subst hi'
      refine .inl ⟨stop, q L qs H' ?_ (e1'.trans ex) hql hnd (fun a ha => ⟨?_, (hqs a ha).2⟩) hacc⟩
      · cases h0 : H1 L with
        | none => rfl
        | some o => rw [e1' _ _ h0] at hD; cases hD
      · cases h0 : H1 a with
        | none => rfl
        | some o => have := (hqs a ha).1; rw [e1' _ _ h0] at this; cases this
/-- the account with new lists -/
def owRows (ow : Addr → List Nat) (p : Addr) (qs : List Addr) (i : Nat) : Addr → List Nat := fun a => if a = p then [i] else match qs.findIdx? (fun q => q == a) with
  | some n => [i, 0, n]
  | none => ow a
theorem rows_new {K : PySem.W.Frag} {Y Z : List Addr} {H : Hp} {ow : Addr → List Nat} {i k : Nat} : ∀ {j : Nat} {qs : List Addr}, (∀ n q, qs[n]? = some q → OwnAt Y Z ow q [i, k, j + n] ∧ H q = some (.lst [])) → RowsOk U K Y Z H ow i k j qs (List.replicate qs.length [])
  | _, [], _ => .nil
  | j, q :: qs, h => by
    have h0 := h 0 q rfl
    refine .cons h0.1 h0.2 .nil (rows_new fun n r hr => ?_)
    have := h (n + 1) r (by simpa using hr)
    rw [show j + 1 + n = j + (n + 1) by omega]
    exact this
theorem s_newr {te : TE} {fi : Env → Res (List D)} {i : Nat} (h : ∀ σ Z H env, EnvOk U X.K Y Z H σ env → FrR U W te σ H (fi env)) : Ys U W X.K Y (tAsg te (gName i)) fun env => (fi env).out env fun ds => match decide (ds.length ≤ 1000) with
    | true => .nx (env.set i (.rws (List.replicate ds.length [])))
    | false => .bad := fun Hb D σ Z H env k hE c => by
  refine h σ Z H env hE H (Ex.refl H) _ ?_
  have c : Cnt U W X.K Y Hb D ((fi env).out env fun ds => match decide (ds.length ≤ 1000) with
    | true => .nx (env.set i (.rws (List.replicate ds.length [])))
    | false => .bad) := c
  cases hr : fi env with
  | exc c' =>
    rw [hr] at c
    obtain ⟨C, h1, h2⟩ := c
    exact ⟨C, h1, fun H' e => h2 σ Z H' (k.mono e) (hE.mono e)⟩
  | bad => rw [hr] at c; exact c.elim
  | ok ds =>
    rw [hr] at c
    show FinR U W σ H _ (req (decide (ds.length ≤ 1000)) (.ok ds))
    cases hl : decide (ds.length ≤ 1000) with
    | false => rw [out_ok, hl] at c; exact c.elim
    | true =>
      rw [out_ok, hl] at c
      intro p qs H' hp e hql hnd hqs hat
      have inY : ∀ {a : Addr}, H a = none → a ∉ Y := fun ha hy => by
        obtain ⟨o, r⟩ := hE.zt _ (hE.sub _ hy)
        rw [ha] at r; cases r
      have old : ∀ {a : Addr} {o : HO}, H a = some o → a ≠ p ∧ a ∉ qs := fun {a o} ha => ⟨fun z => (by rw [z, hp] at ha; cases ha), fun z => (by rw [(hqs a z).1] at ha; cases ha)⟩
      refine c _ (p :: (qs ++ Z)) H' (fun a o h0 => ?_) ?_
      · obtain ⟨n, q⟩ := sv_some (k a o h0)
        refine sv_of (fun z => ?_) (e _ _ q)
        obtain ⟨o1, o2⟩ := old q
        rcases List.mem_cons.mp z.1 with r | r
        · exact o1 r
        · rcases List.mem_append.mp r with r | r
          · exact o2 r
          · exact n ⟨r, z.2⟩
      · obtain ⟨ow, q⟩ := hE.at_
        have idx : ∀ n r, qs[n]? = some r → qs.findIdx? (fun q => q == r) = some n := fun n r hr => by
          obtain ⟨hn, hr⟩ := List.getElem?_eq_some_iff.mp hr
          rw [List.findIdx?_eq_some_iff_getElem]
          refine ⟨hn, by simp [hr], fun j hj hjn => ?_⟩
          have hjn' : qs[j] = r := by simpa using hjn
          have := (List.getElem_inj hnd (h₀ := by omega) (h₁ := hn)).mp (hjn'.trans hr.symm)
          omega
        refine hE.put (ow' := owRows ow p qs i) q (fun z hz => List.mem_cons_of_mem _ (List.mem_append_right _ (hE.sub z hz))) (fun z hz => ?_) i (fun j hj => ⟨fun a o ha => ?_, fun a o w h3 q3 => ?_⟩) _ _ ⟨p, qs, rfl, ⟨List.mem_cons_self, inY hp, by unfold owRows; rw [if_pos rfl]⟩, hat, ?_⟩
        · rcases List.mem_cons.mp hz with rfl | hz
          · exact ⟨_, hat⟩
          · rcases List.mem_append.mp hz with hz | hz
            · exact ⟨_, (hqs z hz).2.2⟩
            · obtain ⟨o, r⟩ := hE.zt z hz
              exact ⟨o, e _ _ r⟩
        · have hz : a ∉ Z := fun z => by rw [view_in z] at ha; cases ha
          rw [view_out hz] at ha
          obtain ⟨o1, o2⟩ := old ha
          rw [view_out (fun z => by
            rcases List.mem_cons.mp z with r | r
            · exact o1 r
            · rcases List.mem_append.mp r with r | r
              · exact o2 r
              · exact hz r)]
          exact e _ _ ha
        · obtain ⟨o1, o2⟩ := old q3
          refine ⟨e _ _ q3, ⟨List.mem_cons_of_mem _ (List.mem_append_right _ h3.z), h3.y, ?_⟩⟩
          unfold owRows
          rw [if_neg o1]
          have : qs.findIdx? (fun q => q == a) = none := by
            rw [List.findIdx?_eq_none_iff]
            intro r hr
            have : r ≠ a := fun z => o2 (z ▸ hr)
            simpa using this
          rw [this]
          exact h3.at_
        · have eq : ds.length = qs.length := hql.symm
          rw [eq]
          refine rows_new fun n r hr => ?_
          have hm := List.mem_of_getElem? hr
          obtain ⟨g1, g2, g3⟩ := hqs r hm
          refine ⟨⟨List.mem_cons_of_mem _ (List.mem_append_left _ hm), inY g1, ?_⟩, g3⟩
          unfold owRows
          rw [if_neg g2, idx n r hr]
          simp
end
end Rwl

set_option Elab.async false
set_option linter.all false
set_option maxRecDepth 100000
set_option maxHeartbeats 1000000
/-! Rwl, part Sc: sorted(set(x)), x a list of nested tuples, all different. -/
namespace Rwl
open PySem PySem.Spec PyProof.Rows L2 Evl PySem.W

/-! ### one order -/
theorem apart_anti {ds : List D} (h : ds.Pairwise fun a b => (dataLe false id a b && dataLe false id b a) = false) : ∀ a ∈ ds, ∀ b ∈ ds, dataLe false id a b = true → dataLe false id b a = true → a = b := by
  induction h with
  | nil => intro a ha; cases ha
  | @cons x l hx hl ih =>
    intro a ha b hb h1 h2
    rcases List.mem_cons.mp ha with e1 | ha <;> rcases List.mem_cons.mp hb with e2 | hb
    · rw [e1, e2]
    · have q := hx b hb
      rw [← e1, h1, h2] at q
      cases q
    · have q := hx a ha
      rw [← e2, h1, h2] at q
      cases q
    · exact ih a ha b hb h1 h2
theorem apart_sort {ds ds' : List D} (h : apart ds) (p : ds'.Perm ds) : ds'.mergeSort (dataLe false id) = ds.mergeSort (dataLe false id) := by
  have T := sortLe_total (listOrd itemOrd) false fun b : D => keyToks (id b)
  have tr : ∀ a b c : D, dataLe false id a b = true → dataLe false id b c = true → dataLe false id a c = true := T.trans
  have tt : ∀ a b : D, (dataLe false id a b || dataLe false id b a) = true := fun a b => Bool.or_eq_true_iff.mpr (T.total a b)
  refine List.Perm.eq_of_pairwise (le := fun a b => dataLe false id a b = true) (fun a b ha hb h1 h2 => apart_anti h.2 a ?_ b ?_ h1 h2) (List.pairwise_mergeSort tr tt ds') (List.pairwise_mergeSort tr tt ds) ?_
  · exact p.mem_iff.mp ((List.mergeSort_perm ds' _).mem_iff.mp ha)
  · exact (List.mergeSort_perm ds _).mem_iff.mp hb
  · exact ((List.mergeSort_perm ds' _).trans p).trans (List.mergeSort_perm ds _).symm
theorem each_perm {R : Value → D → Prop} {vs its : List Value} (p : vs.Perm its) : ∀ {ds : List D}, EachIs R its ds → ∃ ds', EachIs R vs ds' ∧ ds'.Perm ds := by
  induction p with
  | nil => intro ds e; exact ⟨ds, e, .refl _⟩
  | cons x p ih =>
    intro ds e
    cases e with
    | cons h t =>
      obtain ⟨d2, e2, p2⟩ := ih t
      exact ⟨_ :: d2, .cons h e2, p2.cons _⟩
  | swap x y l =>
    intro ds e
    cases e with
    | cons h t =>
      cases t with
      | cons h2 t => exact ⟨_, .cons h2 (.cons h t), .swap _ _ _⟩
  | trans p q ih1 ih2 =>
    intro ds e
    obtain ⟨d2, e2, p2⟩ := ih2 e
    obtain ⟨d3, e3, p3⟩ := ih1 e2
    exact ⟨d3, e3, p3.trans p2⟩
theorem srtL_key {ds : List D} {d : D} (h : srtL ds = .ok d) : ∀ e ∈ ds, isKey e = true := by
  obtain ⟨h1, _⟩ := req_ok (show req _ _ = .ok d from h)
  intro e he
  have q := List.all_eq_true.mp (Bool.and_eq_true_iff.mp h1).1 e he
  split at q
  · exact q
  · cases q
section
variable {U : Ux} {X : Cx} {Z : List Addr} {H : Hp} {pins : List (Addr × Obj)} {σ : L2.St} {s : Shared}
theorem refs_keys (I : Inv X pins σ H s) : ∀ {xs : List V} {its : List Value} {ds : List D}, Vals xs its → DatL U X.K (view H Z) xs ds → (∀ d ∈ ds, isKey d = true ∧ plainK (keyOf d) = true) →
    ∃ ks : NL, its = ks.map (fun p => Value.ref p.1) ∧ ks.map (·.2) = ds.map keyOf ∧ ∀ p ∈ ks, Ik s.heap p.2 p.1
  | _, _, _, .nil, .nil, _ => ⟨[], rfl, rfl, fun p hp => nomatch hp⟩
  | _, _, d :: ds, .cons r t, .cons h hs, k => by
    obtain ⟨ks, e1, e2, e3⟩ := refs_keys I t hs fun d hd => k d (List.mem_cons_of_mem _ hd)
    obtain ⟨k1, k2⟩ := k d List.mem_cons_self
    obtain ⟨b, rfl, q⟩ := Nk.of h k1
    cases r
    refine ⟨(b, keyOf d) :: ks, by rw [e1]; rfl, by rw [List.map_cons, List.map_cons, e2], fun p hp => ?_⟩
    rcases List.mem_cons.mp hp with e | hp
    · rw [e]
      exact ⟨(q pins s σ I).1, (q pins s σ I).2, k2⟩
    · exact e3 p hp
theorem pe_srs (hc : X.calm = true) (hu : X.A.units + 64 < cLine) {a : Expr} {ta : TE} {p p2 q pos : Pos} (hg : Gl X "sorted") (hm : X.mg "sorted" = none) (hg2 : Gl X "set") (hm2 : X.mg "set" = none) (ha : PE X a ta)
    (na : starEach [a] X.env = (false, eval a X.env) :: starEach [] X.env) : PE X (.Call (.Name "sorted" p) [.Call (.Name "set" p2) [a] [] q] [] pos) (fun σ H Q => ta σ H fun x H1 => ∃ b d, Zt Z H1 ∧ Con U X.K Z H1 x b ∧ srsD b = .ok d ∧ Wn U X.K Z H1 Q d) := by
  refine ⟨fun pins s σ H Q I h => ?_⟩
  refine Call_ (ld_blt I hg hm PyProof.Rows.boot_sorted ?_)
  refine PyProof.Rows.callWith_builtin1 (PyProof.Rows.args_cons ?_ rfl) rfl rfl
  refine Call_ (ld_blt I hg2 hm2 PyProof.Rows.boot_set ?_)
  refine PyProof.Rows.callWith_type1 (PyProof.Rows.args_cons (thn (ha.run pins s σ H _ I h) fun v s1 ⟨x, H1, I1, r1, q1⟩ => PyProof.Rows.args_nil ?_) na) na rfl
  obtain ⟨b, d, zt, hx, hg, hq⟩ := q1
  cases b with
  | list ds =>
    obtain ⟨p, xs, rfl, g1, g2⟩ := hx.list
    obtain ⟨c1, hg⟩ := req_ok (show req _ _ = .ok d from hg)
    obtain ⟨c2, hg⟩ := req_ok hg
    have c2 : apart ds := of_decide_eq_true c2
    obtain ⟨c3, c4⟩ := Bool.and_eq_true_iff.mp c1
    have c4 : ds.length < 300 := of_decide_eq_true c4
    have ky := srtL_key hg
    obtain ⟨k1, k2, k3, k4, rfl⟩ := srtL_ok hg
    obtain rfl : v = Value.ref p := r1
    obtain ⟨its, rv, pl, hz⟩ := I1.list (SqL.of g1)
    obtain ⟨ks, e1, e2, e3⟩ := refs_keys I1 rv g2 fun d hd => ⟨ky d hd, List.all_eq_true.mp c3 d hd⟩
    have lk : ks.length = ds.length := by
      have := congrArg List.length e2
      rwa [List.length_map, List.length_map] at this
    refine call_setK (P := X.prog) (w := X.w) ks (I1.ok.hd hc) pl.isList (by simpa using e1) e3 (by rw [e2]; exact c2.1) (by omega) (by omega) fun h' tk L es ep t R pm hk => ?_
    refine PyProof.Rows.args_nil ?_
    have I2 : Inv X pins σ H1 { s1 with heap := h', toks := tk } := I1.kept hk
    obtain ⟨o, ho, hex, hd⟩ := R.ob
    refine Calls.call_function_entry PyProof.Rows.kind_sorted PyProof.Rows.plain_sorted PyProof.Rows.entry_sorted (PyProof.Rows.args_sorted1 _) ?_
    unfold Builtin.«sorted»
    refine wpAny_bind (m := checkCount "sorted" 1 1 _) (wpAny_pure ?_)
    refine wpAny_bind (collect_set (s := { s1 with heap := h', toks := tk }) (A := X.A.in1) (I2.ok.hd hc) ⟨o, ho, hex.1, hd⟩ (SetK.fits (s := { s1 with heap := h', toks := tk }) R) (by rw [rowsK_size R.rows]; have := R.few; unfold scanBound; omega) R.tab.ris R.led fun s2 vs kk hz2 gg oo pv => ?_)
    have J : Inv X pins σ H1 s2 := I2.call' (ch := []) oo (Un.kept kk) (I2.hok.kept kk) (by rw [gg]; exact I2.bare) (fun _ z => nomatch z)
    have pv2 : vs.Perm its := by
      rw [R.rows] at pv
      unfold rowsK at pv
      rw [List.map_map] at pv
      rw [e1]
      exact pv.trans (pm.map fun p : Addr × NestedKey => Value.ref p.1)
    obtain ⟨ds', e, pd⟩ := each_perm pv2 (each_dat (U := U) (X := X) (Z := Z) rv g2)
    have mem : ∀ {x}, x ∈ ds' → x ∈ ds := fun hx => pd.mem_iff.mp hx
    have k1' : ∀ e ∈ ds', kdep 4 e = true := fun e he => k1 e (mem he)
    have hal : vs.length ≤ sizeLine := by rw [pv2.length_eq, ← rv.length]; exact hz
    refine wpAny_bind (wpAny_newList ?_ hal)
    have hoL : (s2.heap.push (seqObj "list" vs.toArray 0)).get? s2.heap.objs.size = some (seqObj "list" vs.toArray 0) := Heap.get?_push_size _ rfl
    have J2 : Inv X pins σ H1 { s2 with heap := s2.heap.push (seqObj "list" vs.toArray 0), toks := s2.toks } := J.kept fun b o eo => Heap.get?_push_of_some _ eo
    show wpAny _ _ _ _ _ { s2 with heap := s2.heap.push (seqObj "list" vs.toArray 0), toks := s2.toks }
    refine wpAny_bind (wpAny_holding ?_)
    refine list_sort_data (s := { s2 with heap := s2.heap.push (seqObj "list" vs.toArray 0), toks := s2.toks }) (enc := id) (bs := ds') hoL e (each_reads' J2 _ e k1')
      (fun x hx y hy => k2 x (by simpa using mem (by simpa using hx)) y (by simpa using mem (by simpa using hy))) ?_ (lim_line (by rw [pd.length_eq]; exact k4)) (fun b hb => by have := depth_le k1' b hb; rw [Around.in1_units]; omega) fun out hlen hout => ?_
    · rcases k3 with k3 | k3
      · exact .inl fun e he => k3 e (by simpa using mem (by simpa using he))
      · exact .inr fun e he => k3 e (by simpa using mem (by simpa using he))
    · obtain ⟨e', he'⟩ := PyProof.Rows.sortedHeap_at (vs := vs) (out := out.toArray) hoL
      rw [show (ds'.mergeSort (dataLe false id)) = _ from apart_sort c2 pd] at hout
      obtain ⟨ys, v1, v2⟩ := each_back hout
      have hn : H1 s2.heap.objs.size = none := J.hok.fresh (Nat.le_refl _)
      refine wpAny_pure ⟨_, rfl, .ref s2.heap.objs.size, upd H1 s2.heap.objs.size (.lst ys), J.laid (t' := s2.toks) (fun b u eo => ?_) (Nat.le_refl _) (show ObjOk X.prog X.w _ _ _ (.lst ys) from ⟨by rw [v1.length, hlen]; rw [pd.length_eq]; exact lim_line k4, out, e', v1, he'⟩), rfl, hq _ _ (Ex.new hn) (Dat.newL zt hn v2)⟩
      have hb : b < s2.heap.objs.size := Heap.lt_size eo
      rw [PyProof.Rows.sortedHeap_old (Nat.ne_of_lt hb) (by rw [size_push']; exact Nat.lt_succ_of_lt hb)]
      exact Heap.get?_push_of_some _ eo
  | _ => cases hg
variable {W : WX}
theorem y_srs {Z : List Addr} {σ : L2.St} {H : Hp} {a : Expr} {ra : Res D} {p p2 q pos : Pos} (hc : X.calm = true) (hu : X.A.units + 64 < cLine) (hg : Gl X "sorted") (hm : X.mg "sorted" = none) (hg2 : Gl X "set") (hm2 : X.mg "set" = none) (t : Zt Z H) (n : nst a = true) (ha : Yl U W (RC U X.K Z) (Ew X a) σ H ra) :
    Yl U W (RE U X.K Z) (Ew X (.Call (.Name "sorted" p) [.Call (.Name "set" p2) [a] [] q] [] pos)) σ H (ra.bind srsD) := by
  refine Yl.imp (t := fun σ H Q => Ew X a σ H fun x H1 => ∃ b d, Zt Z H1 ∧ Con U X.K Z H1 x b ∧ srsD b = .ok d ∧ Wn U X.K Z H1 Q d) (fun _ _ _ q => ew_of (pe_srs (U := U) (Z := Z) hc hu hg hm hg2 hm2 ew (star_cons n)) q) ?_
  refine Yl.one (R1 := RC U X.K Z) (t1 := Ew X a) (tt := fun x H Q => ∃ b d, Zt Z H ∧ Con U X.K Z H x b ∧ srsD b = .ok d ∧ Wn U X.K Z H Q d) ha fun x u H1 e1 dx => Yl.val (nox_srs x) fun z H3 Q hr e3 q => ⟨x, z, (t.mono e1).mono e3, Con.mono e3 dx, hr, q⟩
end
end Rwl

set_option Elab.async false
set_option linter.all false
set_option maxRecDepth 100000
set_option maxHeartbeats 1000000
/-! Rwl, part T: defs that change an object that is handed in; lists that leave. -/
namespace Rwl
open PySem PySem.Spec PyProof.Rows L2 Evl

/-! ### what a slot owns, under another account -/
structure Shift (Y Y' Z Z' : List Addr) (H H' : Hp) (ow ow' : Addr → List Nat) (i j : Nat) : Prop where
  view : Ex (Rwl.view H Z) (Rwl.view H' Z')
  own : ∀ a o w, OwnAt Y Z ow a (i :: w) → H a = some o → H' a = some o ∧ OwnAt Y' Z' ow' a (j :: w)
section
variable {U : Ux} {K : PySem.W.Frag} {H H' : Hp} {Y Y' Z Z' : List Addr} {ow ow' : Addr → List Nat} {i j : Nat} (c : Shift Y Y' Z Z' H H' ow ow' i j)
include c
theorem RowsOk.shift {k : Nat} : ∀ {m : Nat} {qs : List Addr} {xss : List (List D)}, RowsOk U K Y Z H ow i k m qs xss → RowsOk U K Y' Z' H' ow' j k m qs xss
  | _, _, _, .nil => .nil
  | _, _, _, .cons o h d r => .cons (c.own _ _ _ o h).2 (c.own _ _ _ o h).1 (d.mono c.view) (RowsOk.shift r)
theorem FlOk.shift {k : Nat} {v : V} {f : Fl} (h : FlOk U K Y Z H ow i k v f) : FlOk U K Y' Z' H' ow' j k v f := by
  cases f with
  | dat d => exact Dat.mono c.view h
  | row xs => obtain ⟨p, vs, h1, h2, h3, h4⟩ := h; exact ⟨p, vs, h1, (c.own _ _ _ h2 h3).2, (c.own _ _ _ h2 h3).1, h4.mono c.view⟩
  | old xss => obtain ⟨p, qs, h1, h2, h3, h4⟩ := h; exact ⟨p, qs, h1, (c.own _ _ _ h2 h3).2, (c.own _ _ _ h2 h3).1, h4.shift c⟩
theorem FlsOk.shift : ∀ {k : Nat} {vs : List (Str × V)} {fs : List (Str × Fl)}, FlsOk U K Y Z H ow i k vs fs → FlsOk U K Y' Z' H' ow' j k vs fs
  | _, _, _, .nil => .nil
  | _, _, _, .cons h r => .cons (FlOk.shift c h) (FlsOk.shift r)
end
/-- an own object stands at x, its attributes are fs -/
def ObjAt (U : Ux) (K : PySem.W.Frag) (Y Z : List Addr) (H : Hp) (ow : Addr → List Nat) (i : Nat) (x : Addr) (fs : List (Str × Fl)) : Prop :=
  OwnAt Y Z ow x [i] ∧ ∃ C dx vs, U.oc 0 = some C ∧ H x = some (.ins C dx vs) ∧ FlsOk U K Y Z H ow i 0 vs fs
theorem ObjAt.shift {U : Ux} {K : PySem.W.Frag} {H H' : Hp} {Y Y' Z Z' : List Addr} {ow ow' : Addr → List Nat} {i j : Nat} {x : Addr} {fs : List (Str × Fl)} (c : Shift Y Y' Z Z' H H' ow ow' i j) (h : ObjAt U K Y Z H ow i x fs) : ObjAt U K Y' Z' H' ow' j x fs := by
  obtain ⟨h1, C, dx, vs, h2, h3, h4⟩ := h
  exact ⟨(c.own _ _ _ h1 h3).2, C, dx, vs, h2, (c.own _ _ _ h1 h3).1, h4.shift c⟩
section
variable {U : Ux} {K : PySem.W.Frag}
theorem self_at {Y Z : List Addr} {H : Hp} {ow : Addr → List Nat} {i : Nat} {ov : Option (Option V)} {s : Slot} {fs : List (Str × Fl)} {mk : List (Str × Fl) → Slot} (hs : s.selfO = some (fs, mk)) (h : SlotOk U K Y Z H ow i ov s) :
    ∃ x, ov = some (some (.ref x)) ∧ ObjAt U K Y Z H ow i x fs ∧ ∀ {Y Z : List Addr} {H : Hp} {ow : Addr → List Nat} {i : Nat} {fs' : List (Str × Fl)}, ObjAt U K Y Z H ow i x fs' → SlotOk U K Y Z H ow i (some (some (.ref x))) (mk fs') := by
  cases s with
  | ins t c gs =>
    cases c with
    | zero =>
      cases hs
      obtain ⟨C, dx, vs, h1, h2, h3, h4, h5⟩ := h
      exact ⟨t, h1, ⟨h2, C, dx, vs, h3, h4, h5⟩, fun ⟨h2, C, dx, vs, h3, h4, h5⟩ => ⟨C, dx, vs, rfl, h2, h3, h4, h5⟩⟩
    | succ c => cases hs
  | obj gs =>
    cases hs
    obtain ⟨x, C, dx, vs, h1, h2, h3, h4, h5⟩ := h
    exact ⟨x, h1, ⟨h2, C, dx, vs, h3, h4, h5⟩, fun ⟨h2, C, dx, vs, h3, h4, h5⟩ => ⟨x, C, dx, vs, rfl, h2, h3, h4, h5⟩⟩
  | _ => cases hs
/-- a def's promise: of the object ahead and the data behind it -/
def spM (U : Ux) (K : PySem.W.Frag) (n : Nat) (f : Fm) : Sp := fun vs H Q E => vs.length = n + 1 ∧ ∃ x ws Y Z ow fs ds, vs = .ref x :: ws ∧ (∀ z ∈ Y, z ∈ Z) ∧ Zt Z H ∧ ObjAt U K Y Z H ow 0 x fs ∧ DatL U K (view H Z) ws ds ∧ match f fs ds with
  | .ok fs' d => ∀ v H' Z' ow', scal d = true → Kp (sv H Z Y) Y Z' H' → (∀ z ∈ Y, z ∈ Z') → Zt Z' H' → ObjAt U K Y Z' H' ow' 0 x fs' → Dat U K H' v d → Q v H'
  | .exc c fs' => ∃ C, U.ec c = some C ∧ ∀ H' Z' ow', Kp (sv H Z Y) Y Z' H' → (∀ z ∈ Y, z ∈ Z') → Zt Z' H' → ObjAt U K Y Z' H' ow' 0 x fs' → E (.ref C) none H'
  | .bad => False
/-- what slot i owns is handed over, and comes back -/
theorem st_hand {Hb : Hp} {Y Z : List Addr} {σ : L2.St} {H : Hp} {env : Env} {i : Nat} {fs : List (Str × Fl)} {mk : List (Str × Fl) → Slot} (hE : EnvOk U K Y Z H σ env) (k : Kp Hb Y Z H) (hs : (env.get i).selfO = some (fs, mk)) :
    ∃ x Y1 ow1, σ[i]? = some (some (.ref x)) ∧ (∀ z ∈ Y1, z ∈ Z) ∧ ObjAt U K Y1 Z H ow1 0 x fs ∧
      ∀ H' Z' ow' fs', Kp (sv H Z Y1) Y1 Z' H' → (∀ z ∈ Y1, z ∈ Z') → Zt Z' H' → ObjAt U K Y1 Z' H' ow' 0 x fs' → Kp Hb Y Z' H' ∧ EnvOk U K Y Z' H' σ (env.set i (mk fs')) := by
  obtain ⟨ow, q⟩ := hE.at_
  have hi : env[i]? = some (env.get i) := by
    unfold Env.get
    cases e : env[i]? with
    | some s => rfl
    | none =>
      unfold Env.get at hs
      rw [e] at hs
      cases hs
  obtain ⟨x, hx, hO, back⟩ := self_at hs (q i _ hi)
  have memY1 : ∀ a, a ∈ Z.filter (fun a => decide (¬ (a ∉ Y ∧ (ow a).head? = some i))) ↔ a ∈ Z ∧ ¬ (a ∉ Y ∧ (ow a).head? = some i) := fun a => by rw [List.mem_filter, decide_eq_true_iff]
  generalize Z.filter (fun a => decide (¬ (a ∉ Y ∧ (ow a).head? = some i))) = Y1 at memY1
  have subZ : ∀ z ∈ Y1, z ∈ Z := fun z hz => ((memY1 z).mp hz).1
  have subY : ∀ z ∈ Y, z ∈ Y1 := fun z hz => (memY1 z).mpr ⟨hE.sub z hz, fun n => n.1 hz⟩
  refine ⟨x, Y1, fun a => 0 :: (ow a).tail, hx, subZ, hO.shift ⟨Ex.refl _, fun a o w h3 q3 => ⟨q3, h3.z, fun hy => ((memY1 a).mp hy).2 ⟨h3.y, by rw [h3.at_]; rfl⟩, by show 0 :: (ow a).tail = _; rw [h3.at_]; rfl⟩⟩, fun H' Z' ow' fs' k' sub' zt' hO' => ?_⟩
  refine ⟨fun a o h => ?_, ?_⟩
  · obtain ⟨n, h1⟩ := sv_some (k a o h)
    have h2 : sv H Z Y1 a = some o := sv_of (fun z => n ⟨z.1, fun y => z.2 (subY _ y)⟩) h1
    obtain ⟨n2, h3⟩ := sv_some (k' a o h2)
    refine sv_of (fun z => ?_) h3
    by_cases y1 : a ∈ Y1
    · exact n ⟨subZ a y1, z.2⟩
    · exact n2 ⟨z.1, y1⟩
  · refine hE.turn (ow' := fun a => @ite _ (a ∈ Z' ∧ a ∉ Y1) (Classical.propDecidable _) (i :: (ow' a).tail) (ow a)) q (fun z hz => sub' z (subY z hz)) zt' i (fun j hj => ⟨k'.view subZ, fun a o w h3 q3 => ?_⟩) _ ?_
    · have hy1 : a ∈ Y1 := (memY1 a).mpr ⟨h3.z, fun n => by
        have e := n.2
        rw [h3.at_] at e
        exact hj (Option.some.inj e)⟩
      have h2 : sv H Z Y1 a = some o := sv_of (fun z => z.2 hy1) q3
      refine ⟨(sv_some (k' a o h2)).2, sub' a hy1, h3.y, ?_⟩
      rw [if_neg (fun z => z.2 hy1)]
      exact h3.at_
    · rw [hx]
      refine back (hO'.shift ⟨Ex.refl _, fun a o w h3 q3 => ⟨q3, h3.z, fun hy => h3.y (subY a hy), ?_⟩⟩)
      show @ite _ (a ∈ Z' ∧ a ∉ Y1) (Classical.propDecidable _) (i :: (ow' a).tail) (ow a) = _
      rw [if_pos ⟨h3.z, h3.y⟩, h3.at_]
      rfl
end
/-- the def named x, of n parameters behind the object, changes it by f -/
def FOkM (U : Ux) (X : Cx) (x : Str) (n : Nat) (f : Fm) : Prop :=
  ∃ (k : Nat) (fa : Addr) (fd : FuncData) (ps : List Str), Room k X.A ∧ X.mg x = some (.ref fa) ∧ PySem.W.keepIn X.K (.ref fa) = true ∧ Binds X.K fd ps [] ∧ FnOk X.prog X.w X.K X.mg X.base (L2.CX X.prog X.w) k fa fd ps (spM U X.K n f)
def MOkM (U : Ux) (X : Cx) (m : Str) (n : Nat) (f : Fm) : Prop :=
  ∃ (k : Nat) (C fa : Addr) (fd : FuncData) (ps : List Str), Room k X.A ∧ U.oc 0 = some C ∧ L2.Cls X.K C ∧ Meth X.K C m fa ∧ Binds X.K fd ps [] ∧ FnOk X.prog X.w X.K X.mg X.base (L2.CX X.prog X.w) k fa fd ps (spM U X.K n f)
/-- an expression that changes the object of slot i -/
def FinX (U : Ux) (W : WX) (K : PySem.W.Frag) (Y : List Addr) (Hb : Hp) (σ : L2.St) (env : Env) (i : Nat) (mk : List (Str × Fl) → Slot) (Q : VK) : Rm → Prop
  | .ok fs' d => ∀ v Z' H', scal d = true → Kp Hb Y Z' H' → EnvOk U K Y Z' H' σ (env.set i (mk fs')) → Dat U K H' v d → Q v H'
  | .exc c fs' => ∃ C, U.ec c = some C ∧ ∀ Z' H', Kp Hb Y Z' H' → EnvOk U K Y Z' H' σ (env.set i (mk fs')) → W (.ref C) none σ H'
  | .bad => False
def Rm.of (r : Res (List D)) (env : Env) (i : Nat) (fs : List (Str × Fl)) (f : Fm) : Rm := match r with
  | .ok ds => f fs ds
  | _ => .bad
section
variable {U : Ux} {W : WX} {X : Cx} {Y Z : List Addr} {σ : L2.St} {H Hb : Hp} {a b : Expr} {es : List Expr} {pos : Pos} {env : Env} {i n : Nat} {fs : List (Str × Fl)} {mk : List (Str × Fl) → Slot} {f : Fm} {ds : List D}
/-- the call itself -/
theorem st_run {ws : List V} {x : Addr} {Q : VK} {Y1 : List Addr} {ow1 : Addr → List Nat} (zt : Zt Z H) (hn : ws.length = n) (hd : DatL U X.K (view H Z) ws ds)
    (h1 : ∀ z ∈ Y1, z ∈ Z) (h2 : ObjAt U X.K Y1 Z H ow1 0 x fs) (h3 : ∀ H' Z' ow' fs', Kp (sv H Z Y1) Y1 Z' H' → (∀ z ∈ Y1, z ∈ Z') → Zt Z' H' → ObjAt U X.K Y1 Z' H' ow' 0 x fs' → Kp Hb Y Z' H' ∧ EnvOk U X.K Y Z' H' σ (env.set i (mk fs')))
    (q : FinX U W X.K Y Hb σ env i mk Q (f fs ds)) : spM U X.K n f (.ref x :: ws) H Q (WE W σ) := by
  refine ⟨by rw [List.length_cons, hn], x, ws, Y1, Z, ow1, fs, ds, rfl, h1, zt, h2, hd, ?_⟩
  cases hf : f fs ds with
  | ok fs' d =>
    rw [hf] at q
    exact fun v H' Z' ow' hs k' sub' zt' o' dv => q v Z' H' hs (h3 H' Z' ow' fs' k' sub' zt' o').1 (h3 H' Z' ow' fs' k' sub' zt' o').2 dv
  | exc c fs' =>
    rw [hf] at q
    obtain ⟨C, q1, q2⟩ := q
    exact ⟨C, q1, fun H' Z' ow' k' sub' zt' o' => q2 Z' H' (h3 H' Z' ow' fs' k' sub' zt' o').1 (h3 H' Z' ow' fs' k' sub' zt' o').2⟩
  | bad => rw [hf] at q; exact q
/-- what is wanted of the call, its parameters too -/
def FinY (U : Ux) (W : WX) (K : PySem.W.Frag) (Y : List Addr) (Hb : Hp) (σ : L2.St) (env : Env) (i : Nat) (mk : List (Str × Fl) → Slot) (fs : List (Str × Fl)) (f : Fm) (Q : VK) : Res (List D) → Prop
  | .ok ds => FinX U W K Y Hb σ env i mk Q (f fs ds)
  | .exc c => ∃ C, U.ec c = some C ∧ ∀ Z' H', Kp Hb Y Z' H' → EnvOk U K Y Z' H' σ env → W (.ref C) none σ H'
  | .bad => False
theorem st_args {Q : VK} {r : Res (List D)} {t : TA} {sp : List V → Hp → Prop} (k : Kp Hb Y Z H) (hE : EnvOk U X.K Y Z H σ env) (hl : Yl U W (RL U X.K Z) t σ H r) (q : FinY U W X.K Y Hb σ env i mk fs f Q r)
    (g : ∀ ds vs H', r = .ok ds → Ex H H' → DatL U X.K (view H' Z) vs ds → FinX U W X.K Y Hb σ env i mk Q (f fs ds) → sp vs H') : t σ H sp := by
  refine hl H (Ex.refl H) _ ?_
  cases r with
  | ok ds => exact fun vs H' e dv => g ds vs H' rfl e dv q
  | exc c =>
    obtain ⟨C, h1, h2⟩ := q
    exact ⟨C, h1, fun H' e => h2 Z H' (k.mono e) (hE.mono e)⟩
  | bad => exact q
theorem fls_none {ow : Addr → List Nat} {m : Str} : ∀ {k : Nat} {vs : List (Str × V)} {fs : List (Str × Fl)}, FlsOk U X.K Y Z H ow i k vs fs → attF m fs = none → vs.lookup m = none
  | _, _, _, .nil, _ => rfl
  | _, _, _, .cons (x := y) (v := v) (vs := vs) h r, e => by
    unfold attF at e
    by_cases hy : y = m
    · rw [if_pos hy] at e; cases e
    · rw [if_neg hy] at e
      have : (m == y) = false := by
        rw [beq_eq_false_iff_ne]
        exact fun z => hy z.symm
      rw [List.lookup_cons, this]
      exact fls_none r e
/-- x.m(..), x of slot i -/
theorem st_meth {m : Str} {ap : Pos} {Q : VK} {r : Res (List D)} (tk : Takes X W) (M : MOkM U X m n f) (pa : PE X a (tVar i)) (hb : nsup a = true) (hline : (ap.endLine == pos.line) = true) (ns : es.all nst = true) (h29 : es.length < 29) (h0 : es = [] → r = .ok [])
    (hlen : ∀ ds, r = .ok ds → ds.length = n) (k : Kp Hb Y Z H) (hE : EnvOk U X.K Y Z H σ env) (hs : (env.get i).selfO = some (fs, mk)) (hm0 : attF m fs = none) (hl : Yl U W (RL U X.K Z) (Aw X es) σ H r) (q : FinY U W X.K Y Hb σ env i mk fs f Q r) :
    Ew X (.Call (.Attribute a m ap) es [] pos) σ H Q := by
  obtain ⟨kk, C, fa, fd, ps, hr, ho, hc, hm, hbd, F⟩ := M
  obtain ⟨x, Y1, ow1, hx, s1, s2, s3⟩ := st_hand hE k hs
  have hxx := s2
  obtain ⟨_, C', dx, vs, g1, g2, g3⟩ := s2
  rw [ho] at g1
  cases g1
  have lk := fls_none g3 hm0
  have fin : ∀ (t : TA), Yl U W (RL U X.K Z) t σ H r → tMethS C m (spM U X.K n f) (WE W) (tVar i) t σ H Q := fun t hl =>
    ⟨_, hx, x, dx, vs, rfl, g2, lk, st_args k hE hl q fun ds ws H' hds e dv q => by
      obtain ⟨x', Y1', ow1', hx', s1', s2', s3'⟩ := st_hand (hE.mono e) (k.mono e) hs
      rw [hx] at hx'
      cases hx'
      exact st_run (hE.mono e).zt (by rw [dv.length]; exact hlen ds hds) dv s1' s2' s3' q⟩
  cases es with
  | nil => exact ew_of (pe_methX0 pa hc hm F hr hbd (fun σ => passAt tk σ) (eval_meth hb hline ns h29)) (fin tNil (by rw [h0 rfl]; exact fun H1 e1 Q q => q [] H1 (Ex.refl _) .nil))
  | cons b es =>
    have n' : nst b = true ∧ es.all nst = true := by simpa using ns
    exact ew_of (pe_methX pa hc hm F hr hbd (fun σ => passAt tk σ) aw (star_cons n'.1) (star_plain n'.2) (eval_meth hb hline ns h29)) (fin _ hl)
/-- g(x, ..), x of slot i -/
theorem st_call {x : Str} {p : Pos} {Q : VK} {r : Res (List D)} (tk : Takes X W) (M : FOkM U X x n f) (hg : Gl X x) (hdb : (x == ("__debug__" : Str)) = false) (pa : PE X a (tVar i)) (ns : (a :: es).all nst = true)
    (hlen : ∀ ds, r = .ok ds → ds.length = n) (k : Kp Hb Y Z H) (hE : EnvOk U X.K Y Z H σ env) (hs : (env.get i).selfO = some (fs, mk)) (hl : Yl U W (RL U X.K Z) (Aw X es) σ H r) (q : FinY U W X.K Y Hb σ env i mk fs f Q r) :
    Ew X (.Call (.Name x p) (a :: es) [] pos) σ H Q := by
  obtain ⟨kk, fa, fd, ps, hr, hm, hk, hb, F⟩ := M
  have n' : nst a = true ∧ es.all nst = true := by simpa using ns
  obtain ⟨x, Y1, ow1, hx, s1, s2, s3⟩ := st_hand hE k hs
  refine ew_of (pe_callS F hr hg hm hk hb (fun σ => passAt tk σ) (pa_cons pa aw (star_cons n'.1)) hdb (star_cons n'.1) (star_plain n'.2)) ?_
  refine ⟨_, hx, st_args k hE hl q fun ds ws H' hds e dv q => ?_⟩
  obtain ⟨x', Y1', ow1', hx', s1', s2', s3'⟩ := st_hand (hE.mono e) (k.mono e) hs
  rw [hx] at hx'
  cases hx'
  exact st_run (hE.mono e).zt (by rw [dv.length]; exact hlen ds hds) dv s1' s2' s3' q
/-- the two kinds of calls, by what they come to -/
def Yx (U : Ux) (W : WX) (K : PySem.W.Frag) (Y : List Addr) (te : TE) (i : Nat) (m : Str) (f : Fm) (r : Env → Res (List D)) : Prop :=
  ∀ Hb σ Z H env fs mk Q, Kp Hb Y Z H → EnvOk U K Y Z H σ env → (env.get i).selfO = some (fs, mk) → attF m fs = none → FinY U W K Y Hb σ env i mk fs f Q (r env) → te σ H Q
variable {te : TE} {m : Str} {r : Env → Res (List D)} {Dd : Ends} {g : Env → D → Out} {Q : VK}
theorem stx_some (hE : EnvOk U X.K Y Z H σ env) (c : Cnt U W X.K Y Hb Dd (stx env i m f (r env) g)) : ∃ fs mk, (env.get i).selfO = some (fs, mk) ∧ attF m fs = none ∧
    ∀ Q : VK, (∀ fs' d v Z' H', scal d = true → Kp Hb Y Z' H' → EnvOk U X.K Y Z' H' σ (env.set i (mk fs')) → Dat U X.K H' v d → Cnt U W X.K Y Hb Dd (g (env.set i (mk fs')) d) → Q v H') → FinY U W X.K Y Hb σ env i mk fs f Q (r env) := by
  unfold stx at c
  cases hs : (env.get i).selfO with
  | none => rw [hs] at c; exact c.elim
  | some z =>
    obtain ⟨fs, mk⟩ := z
    rw [hs] at c
    dsimp only at c
    cases hn : (attF m fs).isNone with
    | false => rw [hn] at c; exact c.elim
    | true =>
      rw [hn] at c
      dsimp only at c
      refine ⟨fs, mk, rfl, Option.isNone_iff_eq_none.mp hn, fun Q hQ => ?_⟩
      cases hr : r env with
      | bad => rw [hr] at c; exact c.elim
      | exc c' =>
        rw [hr] at c
        obtain ⟨C, h1, h2⟩ := c
        exact ⟨C, h1, fun Z' H' k' hE' => h2 σ Z' H' k' hE'⟩
      | ok ds =>
        rw [hr, out_ok] at c
        show FinX U W X.K Y Hb σ env i mk Q (f fs ds)
        cases hf : f fs ds with
        | bad => rw [hf] at c; exact c.elim
        | exc c' fs' =>
          rw [hf] at c
          obtain ⟨C, h1, h2⟩ := c
          exact ⟨C, h1, fun Z' H' k' hE' => h2 σ Z' H' k' hE'⟩
        | ok fs' d =>
          rw [hf] at c
          dsimp only at c
          intro v Z' H' hsc k' hE' dv
          rw [hsc] at c
          exact hQ fs' d v Z' H' hsc k' hE' dv c
theorem s_callm (h : Yx U W X.K Y te i m f r) : Ys U W X.K Y (tDrop te) fun env => stx env i m f (r env) fun env' _ => .nx env' := fun Hb D σ Z H env k hE c => by
  obtain ⟨fs, mk, h1, h2, h3⟩ := stx_some hE c
  exact h Hb σ Z H env fs mk _ k hE h1 h2 (h3 _ fun fs' d v Z' H' hs k' hE' dv c' => c' σ Z' H' k' hE')
/-- if x.m(..) != e: .. -/
theorem s_ifx {e : E} {ce : Expr} {cpos : Pos} {ta tb : TS} {fa fb : Env → Out} (hu : X.A.units + 64 < cLine) (ns : nset b = true) (h : Yx U W X.K Y (Ew X ce) i m f r) (he : Ye U W X.K Y (Ew X b) fun env => evE env e) (ha : Ys U W X.K Y ta fa) (hb : Ys U W X.K Y tb fb) :
    Ys U W X.K Y (tIfS (Tw X (.Compare ce [.NotEq] [b] cpos)) ta tb) fun env => stx env i m f (r env) fun env' d => (evV env' e).out env' fun y => (eqD d y).out env' fun q => match q with
      | true => fb env'
      | false => fa env' := fun Hb D σ Z H env k hE c => by
  obtain ⟨fs, mk, h1, h2, h3⟩ := stx_some hE c
  refine tw_of (pt_cmpR (op_cm (U := U) (Z := []) hu .ne) ew ew (marks_no ns)) ?_
  refine h Hb σ Z H env fs mk _ k hE h1 h2 (h3 _ fun fs' d v Z' H' hs k' hE' dv c' => ?_)
  refine y_V he σ Z' H' _ hE' H' (Ex.refl _) _ (fin_out k' hE' c' fun y w H2 e ry c2 => ?_)
  obtain ⟨q, hq, c3⟩ := out_run (nox_eq d y) c2
  refine ⟨d, y, !q, dv.scal hs _, by rw [view_nil]; exact ry.mono (view_ex H2 Z'), ?_, !q, rfl, ?_⟩
  · show (eqD d y).nott = _
    rw [hq]
    rfl
  · cases q with
    | true => exact hb Hb D σ Z' H2 _ (k'.mono e) (hE'.mono e) c3
    | false => exact ha Hb D σ Z' H2 _ (k'.mono e) (hE'.mono e) c3
end
end Rwl

set_option Elab.async false
set_option linter.all false
set_option maxRecDepth 100000
set_option maxHeartbeats 1000000
/-! Rwl, part Ta: lists that leave; the own lists of an own object are changed. -/
namespace Rwl
open PySem PySem.Spec PyProof.Rows L2 Evl

/-! ### lists that leave -/
section
variable {Hb H : Hp} {Y Z : List Addr} {p : Addr}
theorem Kp.none (k : Kp Hb Y Z H) (h : p ∈ Z ∧ p ∉ Y) : Hb p = none := by
  cases q : Hb p with
  | none => rfl
  | some o => exact absurd h (sv_some (k p o q)).1
theorem view_sub2 {Y Z : List Addr} {p : Addr} (sub : ∀ z ∈ Y, z ∈ Z) : Ex (view H (p :: Z)) (view H (p :: Y)) := view_le fun z hz => by
  rcases List.mem_cons.mp hz with r | r
  · exact List.mem_cons.mpr (.inl r)
  · exact List.mem_cons_of_mem _ (sub z r)
end
section
variable {U : Ux} {W : WX} {X : Cx} {K : PySem.W.Frag} {Y Z : List Addr} {σ : L2.St} {H Hb : Hp} {env : Env} {te : TE} {fe : Env → Res D}
theorem s_retf {i : Nat} : Ys U W K Y (tRet (tVar i)) fun env => match env.get i with
    | .own xs => .retf xs
    | _ => .bad := fun Hb D σ Z H env k hE c => by
  cases hg : env.get i with
  | own xs =>
    have c : Cnt U W K Y Hb D (match env.get i with
      | .own xs => .retf xs
      | _ => .bad) := c
    rw [hg] at c
    obtain ⟨p, vs, h1, h2, h3, h4⟩ := own_at hE hg
    refine ⟨_, h1, c p vs H (k.none h2) k.ex h3 (h4.mono (view_le fun z hz => ?_))⟩
    rcases List.mem_cons.mp hz with r | r
    · rw [r]; exact h2.1
    · exact hE.sub z r
  | _ =>
    have c : Cnt U W K Y Hb D (match env.get i with
      | .own xs => .retf xs
      | _ => .bad) := c
    rw [hg] at c
    exact c.elim
theorem s_rete (h : ∀ σ Z H env, EnvOk U K Y Z H σ env → Fr U W K Z te σ H (fe env)) : Ys U W K Y (tRet te) fun env => (fe env).out env asF := fun Hb D σ Z H env k hE c => by
  refine h σ Z H env hE H (Ex.refl H) _ ?_
  have c : Cnt U W K Y Hb D ((fe env).out env asF) := c
  cases hr : fe env with
  | ok d =>
    rw [hr] at c
    cases d with
    | list xs => exact fun p vs H' hp e hl hd => c p vs H' (none_back k.ex hp) (k.ex.trans e) hl (hd.mono (view_sub2 hE.sub))
    | _ => exact c.elim
  | exc c' =>
    rw [hr] at c
    obtain ⟨C, h1, h2⟩ := c
    exact ⟨C, h1, fun H' e => h2 σ Z H' (k.mono e) (hE.mono e)⟩
  | bad => rw [hr] at c; exact c.elim
theorem s_retm {e : E} (h : Ye U W K Y te fun env => evE env e) : Ys U W K Y (tRet te) fun env => (evV env e).out env fun d => match scal d with
    | true => .retm d env
    | false => .bad := fun Hb D σ Z H env k hE c =>
  y_V h σ Z H env hE H (Ex.refl H) _ (fin_out k hE c fun d v H' e rb c' => by
    cases hs : scal d with
    | true =>
      rw [hs] at c'
      exact c' v σ Z H' hs (k.mono e) (hE.mono e) (rb.scal hs H')
    | false => rw [hs] at c'; exact c'.elim)
/-- a def's promise: a list that it gives is new -/
def spF (U : Ux) (K : PySem.W.Frag) (n : Nat) (f : List D → Res D) : Sp := fun vs H Q E => vs.length = n ∧ ∃ Z ds, Zt Z H ∧ DatL U K (view H Z) vs ds ∧ match f ds with
  | .ok d => ∀ v H', Ex H H' → Dat U K (view H' Z) v d → (∀ xs, d = .list xs → ∃ p ws, v = .ref p ∧ H p = none ∧ H' p = some (.lst ws) ∧ DatL U K (view H' (p :: Z)) ws xs) → Q v H'
  | .exc c => ∃ C, U.ec c = some C ∧ ∀ H', Ex H H' → E (.ref C) none H'
  | .bad => False
def FOkF (U : Ux) (X : Cx) (x : Str) (n : Nat) (f : List D → Res D) : Prop :=
  ∃ (k : Nat) (fa : Addr) (fd : FuncData) (ps : List Str), Room k X.A ∧ X.mg x = some (.ref fa) ∧ PySem.W.keepIn X.K (.ref fa) = true ∧ Binds X.K fd ps [] ∧ FnOk X.prog X.w X.K X.mg X.base (L2.CX X.prog X.w) k fa fd ps (spF U X.K n f)
def MOkF (U : Ux) (X : Cx) (m : Str) (n : Nat) (f : List D → Res D) : Prop :=
  ∃ (k : Nat) (C fa : Addr) (fd : FuncData) (ps : List Str), Room k X.A ∧ U.oc 0 = some C ∧ L2.Cls X.K C ∧ Meth X.K C m fa ∧ Binds X.K fd ps [] ∧ FnOk X.prog X.w X.K X.mg X.base (L2.CX X.prog X.w) k fa fd ps (spF U X.K (n + 1) f)
variable {a b : Expr} {es : List Expr} {p pos : Pos} {ra : Res D} {rl : Res (List D)}
theorem spF_run {m : Nat} {f : List D → Res D} {vs : List V} {ds : List D} {Q : VK} (zt : Zt Z H) (hl : vs.length = m) (dv : DatL U X.K (view H Z) vs ds) (q : FinF U W X.K Z σ H Q (f ds)) : spF U X.K m f vs H Q (WE W σ) := by
  refine ⟨hl, Z, ds, zt, dv, ?_⟩
  cases hr : f ds with
  | ok d =>
    rw [hr] at q
    cases d with
    | list xs =>
      intro v H' e dv' fr
      obtain ⟨p, ws, rfl, h1, h2, h3⟩ := fr xs rfl
      exact q p ws H' h1 e h2 h3
    | _ => exact (show False from q).elim
  | exc c => rw [hr] at q; exact q
  | bad => rw [hr] at q; exact q
theorem f_call {x : Str} {m : Nat} {f : List D → Res D} (tk : Takes X W) (F : FOkF U X x m f) (hg : Gl X x) (hdb : (x == ("__debug__" : Str)) = false) (t : Zt Z H) (n : (a :: es).all nst = true) (hlen : ∀ ds, rl = .ok ds → ds.length = m) (hl : Yl U W (RL U X.K Z) (Aw X (a :: es)) σ H rl) :
    Fr U W X.K Z (Ew X (.Call (.Name x p) (a :: es) [] pos)) σ H (rl.bind f) := by
  obtain ⟨k, fa, fd, ps, hr, hm, hk, hb, F⟩ := F
  have n' : nst a = true ∧ es.all nst = true := by simpa using n
  refine Fr.imp (X := X) (fun _ _ _ q => ew_of (pe_callS F hr hg hm hk hb (fun σ => passAt tk σ) aw hdb (star_cons n'.1) (star_plain n'.2)) q) ?_
  intro H1 e1 Q q
  refine hl H1 e1 _ ?_
  cases rl with
  | ok ds => exact fun vs H2 e2 dv => spF_run ((t.mono e1).mono e2) (by rw [dv.length]; exact hlen ds rfl) dv (FinF.back (X := X) e2 q)
  | exc c => exact q
  | bad => exact q
/-- a method's new list -/
theorem f_methT {m : Str} {f : List D → Res D} {C : Addr} (zt : Zt Z H) (ho : U.oc 0 = some C) (ha : Yl U W (RE U X.K Z) (Ew X a) σ H ra) :
    Fr U W X.K Z (tMethS C m (spF U X.K 1 f) (WE W) (Ew X a) tNil) σ H (ra.bind fun o => req (isObj m o) (f [o])) := by
  refine Fr.one (X := X) (t1 := Ew X a) (tt := fun u H1 Q => ∃ p dx fs, u = .ref p ∧ H1 p = some (.ins C dx fs) ∧ fs.lookup m = none ∧ spF U X.K 1 f [u] H1 Q (WE W σ)) ha fun d u H1 Q e1 du q => ?_
  cases hi : isObj m d with
  | false => rw [hi] at q; exact (show False from q).elim
  | true =>
    rw [hi] at q
    obtain ⟨kvs, rfl, hn⟩ := isObj_inv hi
    obtain ⟨p, C', dx, fs, rfl, hc, hp, hf⟩ := du.obj_inv
    have hc : U.oc 0 = some C' := hc
    rw [ho] at hc
    cases hc
    have lk := hf.look (x := m)
    rw [hn] at lk
    exact ⟨p, dx, fs, rfl, view_ex H1 Z _ _ hp, lk, spF_run (zt.mono e1) rfl (.one du) q⟩
/-- x.m().append(e), where x.m() gives a new list -/
theorem s_dapp {m : Str} {f : List D → Res D} {ea e : E} {tl : TE} (hl : ∀ σ Z H env, EnvOk U X.K Y Z H σ env → Fr U W X.K Z tl σ H ((evE env ea).bind fun o => req (isObj m o) (f [o]))) (he : Ye U W X.K Y te fun env => evE env e) :
    Ys U W X.K Y (tDrop (tBM X.K "list" rAppend tl (tCons te tNil))) fun env => ((evE env ea).bind fun o => req (isObj m o) (f [o])).out env fun d => match d with
      | .list xs => (evE env e).out env fun _ => match decide (xs.length < lim) with
        | true => .nx env
        | false => .bad
      | _ => .bad := fun Hb D σ Z H env k hE c => by
  refine hl σ Z H env hE H (Ex.refl H) _ ?_
  have c : Cnt U W X.K Y Hb D (((evE env ea).bind fun o => req (isObj m o) (f [o])).out env fun d => match d with
      | .list xs => (evE env e).out env fun _ => match decide (xs.length < lim) with
        | true => .nx env
        | false => .bad
      | _ => .bad) := c
  cases hr : (evE env ea).bind fun o => req (isObj m o) (f [o]) with
  | ok d =>
    rw [hr] at c
    cases d with
    | list xs =>
      intro p vs H' hp e1 h2 hd
      refine ⟨.inl ⟨rfl, vs, SqL.of h2⟩, ?_⟩
      refine he σ Z H' env (hE.mono e1) H' (Ex.refl H') _ (fin_out (k.mono e1) (hE.mono e1) c fun d v H2 e2 rb c' => ?_)
      cases hlt : decide (xs.length < lim) with
      | true =>
        rw [hlt] at c'
        have ex : Ex H (upd H2 p (.lst (vs ++ [v]))) := Ex.mut (e1.trans e2) hp
        exact ⟨p, vs, v, rfl, rfl, e2 _ _ h2, by rw [hd.length]; exact lim_lt (of_decide_eq_true hlt), c' _ _ _ (k.mono ex) (hE.mono ex)⟩
      | false => rw [hlt] at c'; exact c'.elim
    | _ => exact c.elim
  | exc c' =>
    rw [hr] at c
    obtain ⟨C, h1, h2⟩ := c
    exact ⟨C, h1, fun H' e => h2 σ Z H' (k.mono e) (hE.mono e)⟩
  | bad => rw [hr] at c; exact c.elim
/-! ### one list is let go -/
theorem EnvOk.frz1 {i : Nat} {xs : List D} (h : EnvOk U K Y Z H σ env) (k : Kp Hb Y Z H) (hg : env.get i = .own xs) : ∃ Z', EnvOk U K Y Z' H σ (env.set i (.dat (.list xs))) ∧ Kp Hb Y Z' H := by
  obtain ⟨ow, q⟩ := h.at_
  obtain ⟨p, vs, h1, h2, h3, h4⟩ := q i _ (get_own hg)
  have mem : ∀ a, a ∈ Z.filter (fun a => decide (a ≠ p)) ↔ a ∈ Z ∧ a ≠ p := fun a => by rw [List.mem_filter, decide_eq_true_iff]
  generalize Z.filter (fun a => decide (a ≠ p)) = Z' at mem
  have le : ∀ z ∈ Z', z ∈ Z := fun z hz => ((mem z).mp hz).1
  refine ⟨Z', h.turn (ow' := ow) q (fun z hz => (mem z).mpr ⟨h.sub z hz, fun e => h2.y (e ▸ hz)⟩) (fun z hz => h.zt z (le z hz)) i (fun j hj => ⟨view_le le, fun a o w h5 q5 => ⟨q5, (mem a).mpr ⟨h5.z, fun e => ?_⟩, h5.y, h5.at_⟩⟩) _ ⟨_, h1, .lst (by rw [view_out fun z => ((mem p).mp z).2 rfl]; exact h3) (h4.mono (view_le le))⟩, fun a o ha => ?_⟩
  · have e1 := h5.at_
    rw [e, h2.at_] at e1
    exact hj (List.cons.inj e1).1.symm
  · obtain ⟨n, r⟩ := sv_some (k a o ha)
    exact sv_of (fun z => n ⟨le a z.1, z.2⟩) r
theorem s_frz1 {i : Nat} {t : TS} {f : Env → Out} (h : Ys U W K Y t f) : Ys U W K Y t fun env => (match env.get i with
    | .own xs => Out.nx (env.set i (.dat (.list xs)))
    | _ => .bad).seq f := fun Hb D σ Z H env k hE c => by
  have c : Cnt U W K Y Hb D ((match env.get i with
    | .own xs => Out.nx (env.set i (.dat (.list xs)))
    | _ => .bad).seq f) := c
  cases hg : env.get i with
  | own xs =>
    rw [hg] at c
    obtain ⟨Z', h1, h2⟩ := hE.frz1 k hg
    exact h Hb D σ Z' H _ h2 h1 c
  | _ => rw [hg] at c; exact c.elim

/-! ### attributes that own something -/
/-- what the attribute number m of the object at i owns is carried over -/
structure CarF (Y Z Z' : List Addr) (H H' : Hp) (ow ow' : Addr → List Nat) (i m : Nat) : Prop where
  view : Ex (Rwl.view H Z) (Rwl.view H' Z')
  own : ∀ a o w, OwnAt Y Z ow a (i :: m :: w) → H a = some o → H' a = some o ∧ OwnAt Y Z' ow' a (i :: m :: w)
theorem RowsOk.carF {H' : Hp} {Z' : List Addr} {ow ow' : Addr → List Nat} {i m : Nat} (c : CarF Y Z Z' H H' ow ow' i m) : ∀ {j : Nat} {qs : List Addr} {xss : List (List D)}, RowsOk U K Y Z H ow i m j qs xss → RowsOk U K Y Z' H' ow' i m j qs xss
  | _, _, _, .nil => .nil
  | _, _, _, .cons o h d r => .cons (c.own _ _ _ o h).2 (c.own _ _ _ o h).1 (d.mono c.view) (RowsOk.carF c r)
theorem FlOk.carF {H' : Hp} {Z' : List Addr} {ow ow' : Addr → List Nat} {i m : Nat} (c : CarF Y Z Z' H H' ow ow' i m) {v : V} {f : Fl} (h : FlOk U K Y Z H ow i m v f) : FlOk U K Y Z' H' ow' i m v f := by
  cases f with
  | dat d => exact Dat.mono c.view h
  | row xs => obtain ⟨p, vs, h1, h2, h3, h4⟩ := h; exact ⟨p, vs, h1, (c.own _ _ _ h2 h3).2, (c.own _ _ _ h2 h3).1, h4.mono c.view⟩
  | old xss => obtain ⟨p, qs, h1, h2, h3, h4⟩ := h; exact ⟨p, qs, h1, (c.own _ _ _ h2 h3).2, (c.own _ _ _ h2 h3).1, h4.carF c⟩
theorem FlsOk.carF {H' : Hp} {Z' : List Addr} {ow ow' : Addr → List Nat} {i n : Nat} (c : ∀ m, m ≠ n → CarF Y Z Z' H H' ow ow' i m) : ∀ {k : Nat} {vs : List (Str × V)} {fs : List (Str × Fl)}, n < k → FlsOk U K Y Z H ow i k vs fs → FlsOk U K Y Z' H' ow' i k vs fs
  | _, _, _, _, .nil => .nil
  | k, _, _, hk, .cons h r => .cons (h.carF (c k (by omega))) (FlsOk.carF c (by omega) r)
theorem putF_same {x : Str} {v : V} : ∀ {vs : List (Str × V)}, vs.lookup x = some v → putF x v vs = vs
  | [], h => nomatch h
  | (y, u) :: vs, h => by
    show (if y = x then (y, v) :: vs else (y, u) :: putF x v vs) = _
    by_cases hy : y = x
    · subst hy
      rw [List.lookup_cons, beq_self_eq_true] at h
      cases h
      rw [if_pos rfl]
    · have : (x == y) = false := by
        rw [beq_eq_false_iff_ne]
        exact fun z => hy z.symm
      rw [List.lookup_cons, this] at h
      rw [if_neg hy, putF_same h]
/-- the number of an attribute -/
def posF (x : Str) : List (Str × Fl) → Nat
  | [] => 0
  | (y, _) :: r => if y = x then 0 else posF x r + 1
theorem posF_fput {x y : Str} {f g : Fl} : ∀ {fs : List (Str × Fl)}, attF x fs = some g → posF y (fput x f fs) = posF y fs
  | [], h => nomatch h
  | (z, u) :: fs, h => by
    unfold attF at h
    show posF y (if z = x then (z, f) :: fs else (z, u) :: fput x f fs) = _
    by_cases hz : z = x
    · rw [if_pos hz]
      rfl
    · rw [if_neg hz] at h
      rw [if_neg hz]
      show (if z = y then 0 else posF y (fput x f fs) + 1) = (if z = y then 0 else posF y fs + 1)
      rw [posF_fput h]
theorem attF_fput {x y : Str} {f g : Fl} (hxy : x ≠ y) : ∀ {fs : List (Str × Fl)}, attF x fs = some g → attF y (fput x f fs) = attF y fs
  | [], h => nomatch h
  | (z, u) :: fs, h => by
    unfold attF at h
    show attF y (if z = x then (z, f) :: fs else (z, u) :: fput x f fs) = _
    by_cases hz : z = x
    · subst hz
      rw [if_pos rfl]
      show (if z = y then some f else attF y fs) = (if z = y then some u else attF y fs)
      rw [if_neg hxy, if_neg hxy]
    · rw [if_neg hz] at h
      rw [if_neg hz]
      show (if z = y then some u else attF y (fput x f fs)) = (if z = y then some u else attF y fs)
      rw [attF_fput hxy h]
/-- an attribute, and what another one in its place makes -/
theorem FlsOk.at {ow : Addr → List Nat} {i : Nat} {x : Str} {f : Fl} : ∀ {k : Nat} {vs : List (Str × V)} {fs : List (Str × Fl)}, FlsOk U K Y Z H ow i k vs fs → attF x fs = some f →
    ∃ v n, vs.lookup x = some v ∧ n = k + posF x fs ∧ FlOk U K Y Z H ow i n v f ∧ ∀ {Z' : List Addr} {H' : Hp} {ow' : Addr → List Nat} {v' : V} {f' : Fl}, (∀ m, m ≠ n → CarF Y Z Z' H H' ow ow' i m) → FlOk U K Y Z' H' ow' i n v' f' → FlsOk U K Y Z' H' ow' i k (putF x v' vs) (fput x f' fs)
  | _, _, _, .nil, e => nomatch e
  | k, _, _, .cons (x := y) (v := u) (f := g) (vs := vs) (fs := fs) h r, e => by
    unfold attF at e
    by_cases hx : y = x
    · subst hx
      rw [if_pos rfl] at e
      cases e
      refine ⟨_, k, by rw [List.lookup_cons, beq_self_eq_true], by show k = k + (if y = y then 0 else _); rw [if_pos rfl]; rfl, h, fun {Z' H' ow' v' f'} c h' => ?_⟩
      show FlsOk U K Y Z' H' ow' i k (if y = y then (y, v') :: vs else (y, u) :: putF y v' vs) (if y = y then (y, f') :: fs else (y, _) :: fput y f' fs)
      rw [if_pos rfl, if_pos rfl]
      exact .cons h' (FlsOk.carF c (Nat.lt_succ_self k) r)
    · rw [if_neg hx] at e
      obtain ⟨v, n, h1, h2, h3, h4⟩ := FlsOk.at r e
      refine ⟨v, n, ?_, by show n = k + (if y = x then 0 else posF x fs + 1); rw [if_neg hx]; omega, h3, fun {Z' H' ow' v' f'} c h' => ?_⟩
      · have : (x == y) = false := by
          rw [beq_eq_false_iff_ne]
          exact fun z => hx z.symm
        rw [List.lookup_cons, this]
        exact h1
      · show FlsOk U K Y Z' H' ow' i k (if y = x then (y, v') :: vs else (y, u) :: putF x v' vs) (if y = x then (y, f') :: fs else (y, g) :: fput x f' fs)
        rw [if_neg hx, if_neg hx]
        exact .cons (h.carF (c k (by omega))) (h4 c h')
/-- a new attribute -/
theorem FlsOk.snoc {ow : Addr → List Nat} {i : Nat} {x : Str} {v : V} {f : Fl} : ∀ {k : Nat} {vs : List (Str × V)} {fs : List (Str × Fl)}, FlsOk U K Y Z H ow i k vs fs → attF x fs = none → FlOk U K Y Z H ow i (k + fs.length) v f → FlsOk U K Y Z H ow i k (putF x v vs) (fs ++ [(x, f)])
  | k, _, _, .nil, _, h => .cons h .nil
  | k, _, _, .cons (x := y) (v := u) (f := g) (vs := vs) (fs := fs) h r, e, hv => by
    unfold attF at e
    by_cases hx : y = x
    · rw [if_pos hx] at e; cases e
    · rw [if_neg hx] at e
      show FlsOk U K Y Z H ow i k (if y = x then (y, v) :: vs else (y, u) :: putF x v vs) ((y, g) :: (fs ++ [(x, f)]))
      rw [if_neg hx]
      refine .cons h (FlsOk.snoc r e ?_)
      rw [show k + 1 + fs.length = k + (fs.length + 1) by omega]
      exact hv
end
end Rwl

set_option Elab.async false
set_option linter.all false
set_option maxRecDepth 100000
set_option maxHeartbeats 1000000
/-! Rwl, part Tb: the rules of statements that change an own object's own lists. -/
namespace Rwl
open PySem PySem.Spec PyProof.Rows L2 Evl
theorem FlsOk.carA {U : Ux} {K : PySem.W.Frag} {Y Z Z' : List Addr} {H H' : Hp} {ow ow' : Addr → List Nat} {i : Nat} (c : ∀ m, CarF Y Z Z' H H' ow ow' i m) : ∀ {k : Nat} {vs : List (Str × V)} {fs : List (Str × Fl)}, FlsOk U K Y Z H ow i k vs fs → FlsOk U K Y Z' H' ow' i k vs fs
  | _, _, _, .nil => .nil
  | k, _, _, .cons h r => .cons (h.carF (c k)) (FlsOk.carA c r)
/-- two places, written one after the other -/
theorem upd_upd {H : Hp} {p : Addr} {a b : HO} : upd (upd H p a) p b = upd H p b := by
  funext z
  by_cases e : z = p
  · rw [e, upd_same, upd_same]
  · rw [upd_ne e, upd_ne e, upd_ne e]
section
variable {U : Ux} {W : WX} {X : Cx} {K : PySem.W.Frag} {Y Z : List Addr} {σ : L2.St} {H Hb : Hp} {env : Env} {te : TE} {fe : Env → Res D} {Dd : Ends}
theorem row_at {i t c : Nat} {x : Str} {fs : List (Str × Fl)} {xs : List D} (na : NaOk U K x) (hE : EnvOk U K Y Z H σ env) (hg : env.get i = .ins t c fs) (hx : attF x fs = some (.row xs)) :
    ∃ p ws o, (p ∈ Z ∧ p ∉ Y) ∧ H p = some (.lst ws) ∧ DatL U K (view H Z) ws xs ∧ t ≠ p ∧ H t = some o ∧
      (∀ H' (Q : VK), H' t = some o → Q (.ref p) H' → tFld K (tVar i) x σ H' Q) ∧
      (∀ H1 ws' ys, Ex H H1 → DatL U K (view H1 Z) ws' ys → EnvOk U K Y Z (upd H1 p (.lst ws')) σ (env.set i (.ins t c (fput x (.row ys) fs)))) := by
  obtain ⟨ow, q⟩ := hE.at_
  obtain ⟨C, dx, vs, h1, h2, h3, h4, h5⟩ := q i _ (get_ins hg)
  obtain ⟨n1, n2⟩ := na c C h3
  obtain ⟨v, n, g1, g2, g3, g4⟩ := h5.at hx
  obtain ⟨p, ws, rfl, o1, o2, o3⟩ := g3
  have tp : t ≠ p := fun z => by
    have e := o1.at_
    rw [← z, h2.at_] at e
    cases e
  refine ⟨p, ws, _, ⟨o1.z, o1.y⟩, o2, o3, tp, h4, fun H' Q ht qq => ⟨_, h1, t, C, dx, vs, _, rfl, ht, n1, n2, g1, qq⟩, fun H1 ws' ys e hd => ?_⟩
  have q1 : Ats U K Y Z H1 ow σ env := fun j s r => (q j s r).carry (.ex e j)
  refine (hE.mono e).write q1 i o1 ⟨C, dx, vs, h1, h2, h3, by rw [upd_ne tp]; exact e _ _ h4, ?_⟩
  have r := g4 (Z' := Z) (H' := upd H1 p (.lst ws')) (ow' := ow) (v' := .ref p) (f' := .row ys) (fun m hm => ⟨by rw [view_upd o1.z]; exact ex_view e Z, fun a o w a1 a2 => ⟨?_, a1⟩⟩) ⟨p, ws', rfl, o1, upd_same, by rw [view_upd o1.z]; exact hd⟩
  · rw [putF_same g1] at r
    exact r
  · have ap : a ≠ p := fun z => by
      have e1 := a1.at_
      rw [z, o1.at_] at e1
      exact hm (List.cons.inj (List.cons.inj e1).2).1.symm
    rw [upd_ne ap]
    exact e _ _ a2
theorem fchg_inv {i : Nat} {x : Str} {g : List D → Option (List D)} (c : Cnt U W K Y Hb Dd (fchg env i x g)) : ∃ t cn fs xs ys, env.get i = .ins t cn fs ∧ attF x fs = some (.row xs) ∧ xs.length < lim ∧ g xs = some ys ∧ Cnt U W K Y Hb Dd (.nx (env.set i (.ins t cn (fput x (.row ys) fs)))) := by
  unfold fchg at c
  split at c
  · rename_i t cn fs hg
    split at c
    · rename_i xs hx
      split at c
      · rename_i hl
        split at c
        · rename_i ys hy
          exact ⟨t, cn, fs, xs, ys, hg, hx, of_decide_eq_true hl, hy, c⟩
        · exact c.elim
      · exact c.elim
    · exact c.elim
  · exact c.elim
theorem vInt_at {a : Nat} {j : Int} (hE : EnvOk U K Y Z H σ env) (h : vInt env a = some j) : σ[a]? = some (some (.int j)) := by
  unfold vInt at h
  split at h
  · rename_i i hg
    cases h
    obtain ⟨ow, r⟩ := hE.get a
    rw [hg] at r
    obtain ⟨v, h1, h2⟩ := r
    cases h2.int_inv
    exact h1
  · cases h
theorem two_inv {a b n : Nat} {ij : Nat × Nat} (h : two env a b n = some ij) : ∃ u v : Int, vInt env a = some u ∧ vInt env b = some v ∧ 0 ≤ u ∧ u < n ∧ 0 ≤ v ∧ v < n ∧ ij = (u.toNat, v.toNat) := by
  unfold two at h
  split at h
  · rename_i i j h1 h2
    split at h
    · rename_i h3
      cases h
      have h3 : ((0 ≤ i ∧ i < n) ∧ 0 ≤ j) ∧ j < n := by simpa using h3
      exact ⟨i, j, h1, h2, h3.1.1.1, h3.1.1.2, h3.1.2, h3.2, rfl⟩
    · cases h
  · cases h
theorem strch_inv {a b n : Nat} {ij : Nat × Nat} (h : strch env a b n = some ij) : ∃ u v : Int, vInt env a = some u ∧ vInt env b = some v ∧ 0 ≤ u ∧ u ≤ v ∧ v ≤ n ∧ ij = (u.toNat, v.toNat) := by
  unfold strch at h
  split at h
  · rename_i i j h1 h2
    split at h
    · rename_i h3
      cases h
      have h3 : (0 ≤ i ∧ i ≤ j) ∧ j ≤ n := by simpa using h3
      exact ⟨i, j, h1, h2, h3.1.1, h3.1.2, h3.2, rfl⟩
    · cases h
  · cases h
theorem datL_getD {vs : List V} {ds : List D} {j : Nat} (h : DatL U K H vs ds) (hj : j < ds.length) : ∃ v, vs[j]? = some v ∧ Dat U K H v (ds.getD j .none) := by
  refine h.get ?_
  rw [List.getD_eq_getElem?_getD, List.getElem?_eq_getElem hj]
  rfl
theorem ixN_in {n : Nat} {j : Int} (h0 : 0 ≤ j) (h1 : j < n) : ixN n j = some j.toNat := by
  unfold ixN
  rw [if_pos h0, if_pos h1]
theorem atI_in {α : Type} {xs : List α} {j : Int} {v : α} (h0 : 0 ≤ j) (h1 : j < xs.length) (h : xs[j.toNat]? = some v) : atI xs j = some v := by
  unfold atI
  rw [ixN_in h0 h1]
  exact h
/-- x[a], x[b] = x[b], x[a] on a list at p -/
def tSwp (K : PySem.W.Frag) (to : TE) (a b : Nat) : TS := tAsg (tTup (tCons (tOp (rIxL K) to (tVar b)) (tCons (tOp (rIxL K) to (tVar a)) tNil))) (gTup K 2 (gCons (gSub to (tVar a) rSetL) (gCons (gSub to (tVar b) rSetL) gNil)))
theorem swp_run {to : TE} {a b : Nat} {u v : Int} {p : Addr} {ws : List V} {xs : List D} {P : Hp → Prop} {N : L2.St → Hp → Prop} (ha : σ[a]? = some (some (.int u))) (hb : σ[b]? = some (some (.int v))) (hp : H p = some (.lst ws)) (hd : DatL U K (view H Z) ws xs)
    (u0 : 0 ≤ u) (u1 : u < xs.length) (v0 : 0 ≤ v) (v1 : v < xs.length) (hP : P H) (hP2 : ∀ {H q o}, P H → H q = none → P (upd H q o)) (hP3 : ∀ {H o}, P H → P (upd H p o)) (hto : ∀ H' (Q : VK), P H' → Q (.ref p) H' → to σ H' Q)
    (h : ∀ H1 ws', Ex H H1 → DatL U K (view H1 Z) ws' (swpL xs u.toNat v.toNat) → N σ (upd H1 p (.lst ws'))) (D : Ends) (hN : D.nx = N) : tSwp K to a b D σ H := by
  have hl := hd.length
  obtain ⟨x, hx, dx⟩ := datL_getD hd (j := u.toNat) (by omega)
  obtain ⟨y, hy, dy⟩ := datL_getD hd (j := v.toNat) (by omega)
  refine hto H _ hP ⟨_, hb, p, ws, v, y, rfl, rfl, SqL.of hp, atI_in v0 (by omega) hy, ?_⟩
  refine hto H _ hP ⟨_, ha, p, ws, u, x, rfl, rfl, SqL.of hp, atI_in u0 (by omega) hx, ?_⟩
  refine ⟨by show 2 ≤ sizeLine; decide, fun q hq => ?_⟩
  have qp : p ≠ q := fun z => by rw [z, hq] at hp; cases hp
  have hP1 := hP2 (o := .tup [y, x]) hP hq
  refine ⟨q, [y, x], rfl, SqT.of upd_same, rfl, ?_⟩
  refine ⟨y, [x], rfl, ?_⟩
  show to σ _ (fun o H1 => tVar a σ H1 fun i H2 => rSetL o i y H2 fun H3 => gCons (gSub to (tVar b) rSetL) gNil [x] σ H3 D.nx)
  refine hto _ _ hP1 ?_
  refine ⟨_, ha, p, ws, u, u.toNat, rfl, rfl, by rw [upd_ne qp]; exact hp, ixN_in u0 (by omega), ?_⟩
  refine ⟨x, [], rfl, ?_⟩
  show to σ _ (fun o H1 => tVar b σ H1 fun i H2 => rSetL o i x H2 fun H3 => gNil [] σ H3 D.nx)
  refine hto _ _ (hP3 hP1) ?_
  refine ⟨_, hb, p, ws.set u.toNat y, v, v.toNat, rfl, rfl, upd_same, ixN_in v0 (by rw [List.length_set]; omega), ?_⟩
  refine ⟨rfl, ?_⟩
  rw [hN, upd_upd]
  have e : Ex H (upd H q (.tup [y, x])) := Ex.new hq
  exact h _ _ e (DatL.set (dx.mono (ex_view e Z)) _ (DatL.set (dy.mono (ex_view e Z)) _ (hd.mono (ex_view e Z))))
theorem s_fswp {i a b : Nat} {x : Str} (na : NaOk U K x) : Ys U W K Y (tSwp K (tFld K (tVar i) x) a b) fun env => fchg env i x fun xs => (two env a b xs.length).map fun ij => swpL xs ij.1 ij.2 := fun Hb D σ Z H env k hE c => by
  obtain ⟨t, cn, fs, xs, ys, h1, h2, h3, h4, c'⟩ := fchg_inv c
  obtain ⟨ij, h5, rfl⟩ := Option.map_eq_some_iff.mp h4
  obtain ⟨u, v, a1, a2, a3, a4, a5, a6, rfl⟩ := two_inv h5
  obtain ⟨p, ws, o, pz, b1, b2, b3, b4, b5, b6⟩ := row_at na hE h1 h2
  refine swp_run (U := U) (Z := Z) (xs := xs) (P := fun H => H t = some o) (vInt_at hE a1) (vInt_at hE a2) b1 b2 a3 a4 a5 a6 b4 (fun {H q o'} h hq => ?_) (fun {H o'} h => by rw [upd_ne b3]; exact h) b5 (fun H1 ws' e hd => ?_) D rfl
  · rw [upd_ne (fun z => by rw [z, hq] at h; cases h)]
    exact h
  · exact c' σ Z _ ((k.mono e).write pz) (b6 H1 ws' _ e hd)
theorem s_swp {i a b : Nat} : Ys U W K Y (tSwp K (tVar i) a b) fun env => match env.get i with
    | .own xs => match two env a b xs.length with
      | some (j, k) => .nx (env.set i (.own (swpL xs j k)))
      | none => .bad
    | _ => .bad := fun Hb D σ Z H env k hE c => by
  have c : Cnt U W K Y Hb D (match env.get i with
    | .own xs => match two env a b xs.length with
      | some (j, k) => .nx (env.set i (.own (swpL xs j k)))
      | none => .bad
    | _ => .bad) := c
  cases hg : env.get i with
  | own xs =>
    rw [hg] at c
    dsimp only at c
    cases h5 : two env a b xs.length with
    | none => rw [h5] at c; exact c.elim
    | some ij =>
      rw [h5] at c
      obtain ⟨u, v, a1, a2, a3, a4, a5, a6, rfl⟩ := two_inv h5
      obtain ⟨p, ws, h1, h2, h3, h4⟩ := own_at hE hg
      refine swp_run (U := U) (Z := Z) (xs := xs) (P := fun _ => True) (vInt_at hE a1) (vInt_at hE a2) h3 h4 a3 a4 a5 a6 trivial (fun _ _ => trivial) (fun _ => trivial) (fun H' Q _ q => ⟨_, h1, q⟩) (fun H1 ws' e hd => ?_) D rfl
      obtain ⟨q1, q2⟩ := own_write (k.mono e) (hE.mono e) hg h1 h2 hd
      exact c σ Z _ q1 q2
  | _ => rw [hg] at c; exact c.elim
/-- self.x.insert(b, self.x.pop(a)) -/
def rIns : V → List V → Hp → VK → Prop := fun x vs H Q => ∃ (l : Addr) (xs : List V) (i : Int) (y : V), x = .ref l ∧ vs = [.int i, y] ∧ H l = some (.lst xs) ∧ xs.length < sizeLine ∧ 0 ≤ i ∧ i < 2 ^ 63 ∧
    Q .non (upd H l (.lst (xs.take i.toNat ++ [y] ++ xs.drop i.toNat)))
theorem s_fins {i a b : Nat} {x : Str} (na : NaOk U K x) : Ys U W K Y (tDrop (tBM K "list" rIns (tFld K (tVar i) x) (tCons (tVar b) (tCons (tBM K "list" rPopAt (tFld K (tVar i) x) (tCons (tVar a) tNil)) tNil)))) fun env => fchg env i x fun xs => (two env a b xs.length).map fun ij => insL xs ij.1 ij.2 := fun Hb D σ Z H env k hE c => by
  obtain ⟨t, cn, fs, xs, ys, h1, h2, h3, h4, c'⟩ := fchg_inv c
  obtain ⟨ij, h5, rfl⟩ := Option.map_eq_some_iff.mp h4
  obtain ⟨u, v, a1, a2, a3, a4, a5, a6, rfl⟩ := two_inv h5
  obtain ⟨p, ws, o, pz, b1, b2, b3, b4, b5, b6⟩ := row_at na hE h1 h2
  have hl := b2.length
  have h3' : xs.length < 100000 := h3
  have hlim := lim_lt h3
  obtain ⟨y, hy, dy⟩ := datL_getD b2 (j := u.toNat) (by omega)
  obtain ⟨s1, s2, s3, s4⟩ := ixN_seq (ixN_in (n := ws.length) a3 (by omega))
  show tFld K (tVar i) x σ H (fun z H1 => tyV K "list" z H1 ∧ tCons (tVar b) (tCons (tBM K "list" rPopAt (tFld K (tVar i) x) (tCons (tVar a) tNil)) tNil) σ H1 fun vs H2 => rIns z vs H2 fun _ H3 => D.nx σ H3)
  refine b5 H _ b4 ?_
  refine ⟨.inl ⟨rfl, ws, SqL.of b1⟩, ?_⟩
  refine ⟨_, vInt_at hE a2, ?_⟩
  show tFld K (tVar i) x σ H (fun z H1 => tyV K "list" z H1 ∧ tCons (tVar a) tNil σ H1 fun vs H2 => rPopAt z vs H2 fun y H3 => rIns (.ref p) [.int v, y] H3 fun _ H4 => D.nx σ H4)
  refine b5 H _ b4 ?_
  refine ⟨.inl ⟨rfl, ws, SqL.of b1⟩, ?_⟩
  refine ⟨_, vInt_at hE a1, ?_⟩
  refine ⟨p, ws, u, u.toNat, y, rfl, rfl, b1, by omega, by omega, s1, hy, ?_⟩
  refine ⟨p, ws.eraseIdx u.toNat, v, y, rfl, rfl, upd_same, ?_, a5, by omega, ?_⟩
  · have := List.length_eraseIdx_le ws u.toNat
    omega
  · rw [upd_upd]
    exact c' σ Z _ (k.write pz) (b6 H _ _ (Ex.refl H) ((((b2.eraseIdx _).take _).append (.one dy)).append ((b2.eraseIdx _).drop _)))
end
end Rwl

set_option Elab.async false
set_option linter.all false
set_option maxRecDepth 100000
set_option maxHeartbeats 1000000
/-! Rwl, part Tc: more rules of statements that change an own object's own lists. -/
namespace Rwl
open PySem PySem.Spec PyProof.Rows L2 Evl
/-- o[lo:hi] = a list -/
def gSls (to : TE) (tl th : TO) : TG := fun v σ H Q => to σ H fun x H1 => tl σ H1 fun a H2 => th σ H2 fun c H3 => ∃ l b xs ys i j, x = .ref l ∧ v = .ref b ∧ l ≠ b ∧ a = some i ∧ c = some j ∧ H3 l = some (.lst xs) ∧ H3 b = some (.lst ys) ∧ 0 ≤ i ∧ i ≤ j ∧ j ≤ xs.length ∧ xs.length + ys.length ≤ sizeLine ∧
  Q σ (upd H3 l (.lst (xs.take i.toNat ++ ys ++ xs.drop j.toNat)))
theorem pg_sls {X : Cx} {o : Expr} {lo hi : Option Expr} {p2 pos : Pos} {to : TE} {tl th : TO} (ho : PE X o to) (hl : PO X lo tl) (hu : PO X hi th) : PG X (.Subscript o (.Slice lo hi none p2) pos) (gSls to tl th) := by
  refine ⟨fun pins s σ H v u Q I r h => ?_⟩
  show wpAny (model X.prog X.w) X.A (do
      let ov ← holding [u] (eval o X.env)
      let iv ← holding [u, ov] (eval (.Slice lo hi none p2) X.env)
      standAt pos
      holding [u, ov, iv] (setItem ov iv u)
      release [iv, u, ov] []) _ _ _
  refine wpAny_bind (wpAny_holding (thn (ho.run pins s σ H _ I h) fun ov s1 ⟨x, H1, I1, r1, q1⟩ => ?_))
  refine wpAny_bind (wpAny_holding ?_)
  refine wpAny_Slice (thn (hl.run pins s1 σ H1 _ I1 q1) fun vl s2 ⟨a, H2, I2, pl, q2⟩ => thn (hu.run pins s2 σ H2 _ I2 q2) fun vu s3 ⟨c, H3, I3, pu, q3⟩ => ?_)
  rw [evalPart_none]
  refine wpAny_pure ?_
  have I4 : Inv X pins σ H3 { s3 with heap := s3.heap.push { cls := .type "slice", data := .fields #[vl, vu, .none] } } := I3.kept (t' := s3.toks) fun b ob q => Heap.get?_push_of_some _ q
  obtain ⟨l, b, xs, ys, i, j, rfl, rfl, hne, rfl, rfl, hL, hB, h0, hij, hj, hz, q⟩ := q3
  cases r1
  cases r
  obtain ⟨t1, rfl⟩ : ∃ t, vl = Value.int i t := by cases pl with | int _ t => exact ⟨t, rfl⟩
  obtain ⟨t2, rfl⟩ : ∃ t, vu = Value.int j t := by cases pu with | int _ t => exact ⟨t, rfl⟩
  refine wpAny_bind (wpAny_standAt (wpAny_bind (wpAny_holding ?_)))
  refine set_slice I4 hL hB hne (Heap.IsSliceOf.new ..) ⟨t1, rfl⟩ ⟨t2, rfl⟩ h0 hij hj hz fun s' I' => ?_
  exact wpAny_release ⟨σ, _, I', q⟩
/-- list(..) of a list or a tuple -/
def tListOf (K : PySem.W.Frag) (ta : TE) : TE := fun σ H Q => ta σ H fun x H1 => ∃ p ys, [x] = [V.ref p] ∧ (SqL K H1 p ys ∨ SqT K H1 p ys) ∧ ∀ l, H1 l = none → Q (.ref l) (upd H1 l (.lst ys))
theorem pe_listOf {X : Cx} {a : Expr} {p pos : Pos} {ta : TE} (hg : Gl X "list") (hm : X.mg "list" = none) (n : nst a = true) (ha : PE X a ta) : PE X (.Call (.Name "list" p) [a] [] pos) (tListOf X.K ta) :=
  pe_callTy (pos := pos) (p := p) call_list_of hg hm (by decide +kernel) (pa_cons ha pa_nil (star_cons n)) (by decide +kernel) (by decide +kernel) (star_cons n) rfl
section
variable {U : Ux} {W : WX} {X : Cx} {K : PySem.W.Frag} {Y Z : List Addr} {σ : L2.St} {H Hb : Hp} {env : Env} {te tk : TE} {fe fk : Env → Res D} {Dd : Ends}
/-- self.x[a:b] = self.x[a:b][::-1] -/
theorem s_frev {i a b : Nat} {x : Str} (na : NaOk U K x) : Ys U W K Y (tAsg (tRevL K (tSl (rSlL K) (tFld K (tVar i) x) (tPart (tVar a)) (tPart (tVar b)))) (gSls (tFld K (tVar i) x) (tPart (tVar a)) (tPart (tVar b)))) fun env => fchg env i x fun xs => (strch env a b xs.length).map fun ij => revL xs ij.1 ij.2 := fun Hb D σ Z H env k hE c => by
  obtain ⟨t, cn, fs, xs, ys, h1, h2, h3, h4, c'⟩ := fchg_inv c
  obtain ⟨ij, h5, rfl⟩ := Option.map_eq_some_iff.mp h4
  obtain ⟨u, v, a1, a2, a3, a4, a5, rfl⟩ := strch_inv h5
  obtain ⟨p, ws, o, pz, b1, b2, b3, b4, b5, b6⟩ := row_at na hE h1 h2
  have hl := b2.length
  have h3' : xs.length < 100000 := h3
  have ia := vInt_at hE a1
  have ib := vInt_at hE a2
  have hcut : cutV ws (some u) (some v) = (ws.drop u.toNat).take (v.toNat - u.toNat) := by
    have e1 : HT.sIx ws.length 0 (some u) = u.toNat := by
      show (if u < 0 then (u + (ws.length : Int)).toNat else min u.toNat ws.length) = _
      rw [if_neg (by omega), Nat.min_eq_left (by omega)]
    have e2 : HT.sIx ws.length ws.length (some v) = v.toNat := by
      show (if v < 0 then (v + (ws.length : Int)).toNat else min v.toNat ws.length) = _
      rw [if_neg (by omega), Nat.min_eq_left (by omega)]
    unfold cutV
    rw [e1, e2]
  show tFld K (tVar i) x σ H (fun z H1 => tPart (tVar a) σ H1 fun l H2 => tPart (tVar b) σ H2 fun w H3 => rSlL K z l w H3 fun z4 H4 => ∃ q ys, z4 = .ref q ∧ SqL K H4 q ys ∧ ∀ r, H4 r = none → gSls (tFld K (tVar i) x) (tPart (tVar a)) (tPart (tVar b)) (.ref r) σ (upd H4 r (.lst ys.reverse)) D.nx)
  refine b5 H _ b4 ?_
  refine ⟨_, ia, u, rfl, _, ib, v, rfl, p, ws, rfl, SqL.of b1, fun q hq => ⟨q, _, rfl, SqL.of upd_same, fun r hr => ?_⟩⟩
  have e1 : Ex H (upd H q (.lst (cutV ws (some u) (some v)))) := Ex.new hq
  have e2 : Ex H (upd (upd H q (.lst (cutV ws (some u) (some v)))) r (.lst (cutV ws (some u) (some v)).reverse)) := e1.trans (Ex.new hr)
  have pr : p ≠ r := fun z => by rw [← z, e1 _ _ b1] at hr; cases hr
  show tFld K (tVar i) x σ _ (fun z H1 => tPart (tVar a) σ H1 fun l H2 => tPart (tVar b) σ H2 fun w H3 => ∃ l' b' xs ys i j, z = .ref l' ∧ V.ref r = .ref b' ∧ l' ≠ b' ∧ l = some i ∧ w = some j ∧ H3 l' = some (.lst xs) ∧ H3 b' = some (.lst ys) ∧ 0 ≤ i ∧ i ≤ j ∧ j ≤ xs.length ∧ xs.length + ys.length ≤ sizeLine ∧
    D.nx σ (upd H3 l' (.lst (xs.take i.toNat ++ ys ++ xs.drop j.toNat))))
  refine b5 _ _ (e2 _ _ b4) ?_
  refine ⟨_, ia, u, rfl, _, ib, v, rfl, p, r, ws, _, u, v, rfl, rfl, pr, rfl, rfl, e2 _ _ b1, upd_same, a3, a4, by omega, ?_, ?_⟩
  · rw [List.length_reverse]
    have := cutV_length ws (some u) (some v)
    have : sizeLine = 16777216 := sizeLine_eq
    omega
  · refine c' σ Z _ ((k.mono e2).write pz) (b6 _ _ _ e2 ?_)
    have b2' := b2.mono (ex_view e2 Z)
    have d2 := (b2'.drop u.toNat).take (v.toNat - u.toNat)
    rw [← hcut] at d2
    exact ((b2'.take _).append d2.reverse).append (b2'.drop _)
theorem rows_snoc {ow : Addr → List Nat} {i k : Nat} {q : Addr} {ws : List V} {xs : List D} (hq : H q = some (.lst ws)) (hd : DatL U K (view H Z) ws xs) : ∀ {j : Nat} {qs : List Addr} {xss : List (List D)}, RowsOk U K Y Z H ow i k j qs xss → OwnAt Y Z ow q [i, k, j + qs.length] → RowsOk U K Y Z H ow i k j (qs ++ [q]) (xss ++ [xs])
  | _, _, _, .nil, o => .cons o hq hd .nil
  | j, _, _, .cons (qs := qs) o h d r, o' => .cons o h d (rows_snoc hq hd r (by rw [show j + 1 + qs.length = j + (qs.length + 1) by omega]; exact o'))
theorem rows_len {ow : Addr → List Nat} {i k : Nat} : ∀ {j : Nat} {qs : List Addr} {xss : List (List D)}, RowsOk U K Y Z H ow i k j qs xss → qs.length = xss.length
  | _, _, _, .nil => rfl
  | _, _, _, .cons _ _ _ r => congrArg (· + 1) (rows_len r)
/-- self.x.append(list(self.y)) -/
theorem s_fapp {i : Nat} {x y : Str} (nx : NaOk U K x) (ny : NaOk U K y) : Ys U W K Y (tDrop (tBM K "list" rAppend (tFld K (tVar i) x) (tCons (tListOf K (tFld K (tVar i) y)) tNil))) fun env => match env.get i with
    | .ins t c fs => match attF x fs, attF y fs with
      | some (.old xss), some (.row xs) => match decide (xss.length < lim) with
        | true => .nx (env.set i (.ins t c (fput x (.old (xss ++ [xs])) fs)))
        | false => .bad
      | _, _ => .bad
    | _ => .bad := fun Hb D σ Z H env k hE c => by
  dsimp only at c
  split at c
  · rename_i t cn fs hg
    split at c
    · rename_i xss xs hx hy
      split at c
      · rename_i hl
        have hl := of_decide_eq_true hl
        obtain ⟨ow, q⟩ := hE.at_
        obtain ⟨C, dx, vs, h1, h2, h3, h4, h5⟩ := q i _ (get_ins hg)
        obtain ⟨n1, n2⟩ := nx cn C h3
        obtain ⟨m1, m2⟩ := ny cn C h3
        obtain ⟨v, n, g1, g2, g3, g4⟩ := h5.at hx
        obtain ⟨v', n', f1, f2, f3, f4⟩ := h5.at hy
        obtain ⟨p, qs, rfl, o1, o2, o3⟩ := g3
        obtain ⟨p', ws, rfl, o1', o2', o3'⟩ := f3
        have hql := rows_len o3
        refine ⟨_, h1, t, C, dx, vs, _, rfl, h4, n1, n2, g1, .inl ⟨rfl, _, SqL.of o2⟩, ?_⟩
        refine ⟨_, h1, t, C, dx, vs, _, rfl, h4, m1, m2, f1, p', ws, rfl, .inl (SqL.of o2'), fun l hl0 => ?_⟩
        have e : Ex H (upd H l (.lst ws)) := Ex.new hl0
        have pl : p ≠ l := fun z => by rw [z, hl0] at o2; cases o2
        have tp : t ≠ p := fun z => by
          have e := o1.at_
          rw [← z, h2.at_] at e
          cases e
        have lY : l ∉ Y := fun hy => by
          obtain ⟨o, r⟩ := hE.zt l (hE.sub l hy)
          rw [hl0] at r
          cases r
        have le : ∀ z ∈ Y, z ∈ l :: Z := fun z hz => List.mem_cons_of_mem _ (hE.sub z hz)
        have vw : Ex (view H Z) (view (upd (upd H l (.lst ws)) p (.lst (qs.map V.ref ++ [.ref l]))) (l :: Z)) := by
          rw [view_upd (List.mem_cons_of_mem _ o1.z)]
          exact ex_view_cons e hl0
        have keep : ∀ {a : Addr} {o : HO} {w : List Nat}, w ≠ [i, n] → OwnAt Y Z ow a w → H a = some o → upd (upd H l (.lst ws)) p (.lst (qs.map V.ref ++ [.ref l])) a = some o ∧ OwnAt Y (l :: Z) (owAt ow l [i, n, qs.length]) a w := fun {a o w} hw a1 a2 => by
          have ap : a ≠ p := fun z => by
            have e1 := a1.at_
            rw [z, o1.at_] at e1
            exact hw e1.symm
          have al : a ≠ l := fun z => by rw [z, hl0] at a2; cases a2
          exact ⟨by rw [upd_ne ap]; exact e _ _ a2, List.mem_cons_of_mem _ a1.z, a1.y, by rw [owAt_ne al]; exact a1.at_⟩
        refine ⟨p, qs.map V.ref, .ref l, rfl, rfl, e _ _ o2, by rw [List.length_map, hql]; exact lim_lt hl, ?_⟩
        refine c σ (l :: Z) _ ((k.new hl0 e).write ⟨List.mem_cons_of_mem _ o1.z, o1.y⟩) ?_
        refine hE.turn (ow' := owAt ow l [i, n, qs.length]) q le (Zt.upd ((hE.zt.mono e).cons upd_same)) i (fun j hj => ⟨vw, fun a o w a1 a2 => keep (fun z => hj (List.cons.inj z).1) a1 a2⟩) _ ?_
        have own_p : OwnAt Y (l :: Z) (owAt ow l [i, n, qs.length]) p [i, n] := ⟨List.mem_cons_of_mem _ o1.z, o1.y, by rw [owAt_ne pl]; exact o1.at_⟩
        refine ⟨C, dx, vs, h1, (keep (by simp) h2 h4).2, h3, (keep (by simp) h2 h4).1, ?_⟩
        have r := g4 (Z' := l :: Z) (H' := upd (upd H l (.lst ws)) p (.lst (qs.map V.ref ++ [.ref l]))) (ow' := owAt ow l [i, n, qs.length]) (v' := .ref p) (f' := .old (xss ++ [xs])) (fun m hm => ⟨vw, fun a o w a1 a2 => keep (fun z => hm (List.cons.inj (List.cons.inj z).2).1) a1 a2⟩)
          ⟨p, qs ++ [l], rfl, own_p, by rw [upd_same, List.map_append]; rfl, rows_snoc (by rw [upd_ne (Ne.symm pl)]; exact upd_same) (o3'.mono vw) ?_ ⟨List.mem_cons_self, lY, by rw [Nat.zero_add]; exact owAt_same⟩⟩
        · rw [putF_same g1] at r
          exact r
        · have rc : ∀ {j : Nat} {qs' : List Addr} {xss' : List (List PyData)}, RowsOk U K Y Z H ow i n j qs' xss' → RowsOk U K Y (l :: Z) (upd (upd H l (.lst ws)) p (.lst (qs.map V.ref ++ [.ref l]))) (owAt ow l [i, n, qs.length]) i n j qs' xss' := by
            intro j qs' xss' h
            induction h with
            | nil => exact .nil
            | cons o h d r ih => exact .cons (keep (by simp) o h).2 (keep (by simp) o h).1 (d.mono vw) ih
          exact rc o3
      · exact c.elim
    · exact c.elim
  · exact c.elim
end
end Rwl

set_option Elab.async false
set_option linter.all false
set_option maxRecDepth 100000
set_option maxHeartbeats 1000000
/-! Rwl, part Td: an attribute is a list that was popped; two names at once; new own attributes. -/
namespace Rwl
open PySem PySem.Spec PyProof.Rows L2 Evl
section
variable {U : Ux} {W : WX} {X : Cx} {K : PySem.W.Frag} {Y Z : List Addr} {σ : L2.St} {H Hb : Hp} {env : Env} {te tk : TE} {fe fk : Env → Res D} {Dd : Ends}
theorem rows_init {H' : Hp} {Z' : List Addr} {ow ow' : Addr → List Nat} {i k N : Nat} (hk : ∀ a o j, j < N → OwnAt Y Z ow a [i, k, j] → H a = some o → H' a = some o ∧ OwnAt Y Z' ow' a [i, k, j]) (vw : Ex (view H Z) (view H' Z')) :
    ∀ {j : Nat} {qs : List Addr} {xss : List (List D)}, RowsOk U K Y Z H ow i k j qs xss → j + qs.length ≤ N → RowsOk U K Y Z' H' ow' i k j qs xss := by
  intro j qs xss h
  induction h with
  | nil => exact fun _ => .nil
  | @cons j q vs xs qs xss o h d r ih =>
    intro hl
    have hl : j + (qs.length + 1) ≤ N := hl
    exact .cons (hk _ _ _ (by omega) o h).2 (hk _ _ _ (by omega) o h).1 (d.mono vw) (ih (by omega))
/-- the last one, and those ahead -/
theorem rows_last {ow : Addr → List Nat} {i k : Nat} {ys : List D} : ∀ {j : Nat} {qs : List Addr} {xss : List (List D)}, RowsOk U K Y Z H ow i k j qs xss → xss.getLast? = some ys →
    ∃ l ws, qs.getLast? = some l ∧ OwnAt Y Z ow l [i, k, j + (qs.length - 1)] ∧ H l = some (.lst ws) ∧ DatL U K (view H Z) ws ys ∧ RowsOk U K Y Z H ow i k j qs.dropLast xss.dropLast
  | _, _, _, .nil, e => nomatch e
  | j, _, _, .cons (qs := []) o h d .nil, e => by
    cases e
    exact ⟨_, _, rfl, o, h, d, .nil⟩
  | j, _, _, .cons (q := q) (xs := xs) (qs := q2 :: qs) (xss := x2 :: xss) o h d r, e => by
    have e : (x2 :: xss).getLast? = some ys := by
      rw [List.getLast?_cons_cons] at e
      exact e
    obtain ⟨l, ws, h1, h2, h3, h4, h5⟩ := rows_last r e
    refine ⟨l, ws, by rw [List.getLast?_cons_cons]; exact h1, ?_, h3, h4, ?_⟩
    · have z : j + 1 + ((q2 :: qs).length - 1) = j + ((q :: q2 :: qs).length - 1) := by
        simp only [List.length_cons]
        omega
      rw [← z]
      exact h2
    · rw [List.dropLast_cons₂, List.dropLast_cons₂]
      exact .cons o h d h5
/-- self.y = self.x.pop() -/
theorem s_fpop {i : Nat} {x y : Str} (nx : NaOk U K x) (ny : NaOk U K y) : Ys U W K Y (sFld K (tVar i) (tBM0 K "list" rPop (tFld K (tVar i) x)) y) fun env => match env.get i with
    | .ins t c fs => match attF x fs, attF y fs with
      | some (.old xss), some (.row _) => match xss.getLast? with
        | some ys => match decide (fs.length < 900) && decide (x ≠ y) with
          | true => .nx (env.set i (.ins t c (fput y (.row ys) (fput x (.old xss.dropLast) fs))))
          | false => .bad
        | none => .bad
      | _, _ => .bad
    | _ => .bad := fun Hb D σ Z H env k hE c => by
  dsimp only at c
  split at c
  · rename_i t cn fs hg
    split at c
    · rename_i xss xs hx hy
      split at c
      · rename_i ys hlast
        split at c
        · rename_i hl
          obtain ⟨hl, hxy⟩ : fs.length < 900 ∧ x ≠ y := by simpa using hl
          obtain ⟨ow, q⟩ := hE.at_
          obtain ⟨C, dx, vs, h1, h2, h3, h4, h5⟩ := q i _ (get_ins hg)
          obtain ⟨n1, n2⟩ := nx cn C h3
          obtain ⟨m1, m2⟩ := ny cn C h3
          have hvl := h5.length
          obtain ⟨v, n, g1, gn, g3, g4⟩ := h5.at hx
          obtain ⟨v', n', f1, fn, f3, f4⟩ := h5.at hy
          obtain ⟨p, qs, rfl, o1, o2, o3⟩ := g3
          obtain ⟨p', ws', rfl, o1', o2', o3'⟩ := f3
          obtain ⟨l, ws, k1, k2, k3, k4, k5⟩ := rows_last o3 hlast
          have hq1 : qs.length - 1 < qs.length := by
            cases qs with
            | nil => cases k1
            | cons _ _ => simp
          have hlast' : (qs.map V.ref)[(qs.map V.ref).length - 1]? = some (.ref l) := by
            rw [← List.getLast?_eq_getElem?, List.getLast?_map, k1]
            rfl
          rw [Nat.zero_add] at k2
          refine ⟨_, h1, t, C, dx, vs, _, rfl, h4, n1, n2, g1, .inl ⟨rfl, _, SqL.of o2⟩, p, qs.map V.ref, .ref l, rfl, rfl, o2, hlast', ?_⟩
          have ne : ∀ {a b : Addr} {w w' : List Nat}, OwnAt Y Z ow a w → OwnAt Y Z ow b w' → w ≠ w' → a ≠ b := fun ha hb hw z => hw (by rw [← ha.at_, ← hb.at_, z])
          have tp : t ≠ p := ne h2 o1 (by simp)
          refine ⟨_, h1, t, C, dx, vs, rfl, by rw [upd_ne tp]; exact h4, m1, m2, by omega, ?_⟩
          generalize hH2 : upd (upd H p (.lst (qs.map V.ref).dropLast)) t (.ins C dx (putF y (.ref l) vs)) = H2
          have vw : view H2 Z = view H Z := by rw [← hH2, view_upd h2.z, view_upd o1.z]
          have vx : Ex (view H Z) (view H2 Z) := by rw [vw]; exact Ex.refl _
          have keep : ∀ {a : Addr} {o : HO} {w : List Nat}, w ≠ [i] → w ≠ [i, n] → w ≠ [i, n, qs.length - 1] → OwnAt Y Z ow a w → H a = some o → H2 a = some o ∧ OwnAt Y Z (owAt ow l [i, n']) a w := fun {a o w} w1 w2 w3 a1 a2 => by
            refine ⟨?_, a1.z, a1.y, by rw [owAt_ne (ne a1 k2 w3)]; exact a1.at_⟩
            rw [← hH2, upd_ne (ne a1 h2 w1), upd_ne (ne a1 o1 w2)]
            exact a2
          have kp2 : Kp Hb Y Z H2 := by
            rw [← hH2]
            exact (k.write ⟨o1.z, o1.y⟩).write ⟨h2.z, h2.y⟩
          refine c σ Z H2 kp2 ?_
          have ht2 : H2 t = some (.ins C dx (putF y (.ref l) vs)) := by rw [← hH2]; exact upd_same
          have hp2 : H2 p = some (.lst (qs.map V.ref).dropLast) := by rw [← hH2, upd_ne (Ne.symm tp)]; exact upd_same
          have pl : p ≠ l := ne o1 k2 (by simp)
          have tl : t ≠ l := ne h2 k2 (by simp)
          have zt2 : Zt Z H2 := by rw [← hH2]; exact hE.zt.upd.upd
          refine hE.turn (ow' := owAt ow l [i, n']) q hE.sub zt2 i (fun j hj => ⟨vx, fun a o w a1 a2 => keep (fun z => hj (List.cons.inj z).1) (fun z => hj (List.cons.inj z).1) (fun z => hj (List.cons.inj z).1) a1 a2⟩) _ ?_
          refine ⟨C, dx, _, h1, ⟨h2.z, h2.y, by rw [owAt_ne tl]; exact h2.at_⟩, h3, ht2, ?_⟩
          have r := g4 (Z' := Z) (H' := H2) (ow' := owAt ow l [i, n']) (v' := .ref p) (f' := .old xss.dropLast) (fun m hm => ⟨vx, fun a o w a1 a2 => keep (by simp) (fun z => hm (List.cons.inj (List.cons.inj z).2).1) (fun z => hm (List.cons.inj (List.cons.inj z).2).1) a1 a2⟩)
            ⟨p, qs.dropLast, rfl, ⟨o1.z, o1.y, by rw [owAt_ne pl]; exact o1.at_⟩, by rw [hp2, List.map_dropLast], rows_init (N := qs.length - 1) (fun a o j hj a1 a2 => keep (by simp) (by simp) (by intro z; injection z with _ z; injection z with _ z; injection z with z; omega) a1 a2) vx k5 (by rw [List.length_dropLast]; omega)⟩
          rw [putF_same g1] at r
          obtain ⟨v2, n2', e1, e2, e3, e4⟩ := r.at (x := y) (f := .row xs) (by rw [attF_fput hxy hx]; exact hy)
          have en : n2' = n' := by rw [e2, fn, posF_fput hx]
          subst en
          exact e4 (Z' := Z) (H' := H2) (ow' := owAt ow l [i, n2']) (v' := .ref l) (f' := .row ys) (fun m hm => ⟨Ex.refl _, fun a o w a1 a2 => ⟨a2, a1⟩⟩) ⟨l, ws, rfl, ⟨k2.z, k2.y, owAt_same⟩, by rw [← hH2, upd_ne (Ne.symm tl), upd_ne (Ne.symm pl)]; exact k3, by rw [vw]; exact k4⟩
        · exact c.elim
      · exact c.elim
    · exact c.elim
  · exact c.elim
/-- x, y = a, b -/
theorem s_par {i j : Nat} {ta tb : TE} {fa fb : Env → Res D} (ha : Ye U W K Y ta fa) (hb : Ye U W K Y tb fb) : Ys U W K Y (tPar i j (tCons ta (tCons tb tNil))) fun env => (fa env).out env fun x => (fb env).out env fun y => .nx ((env.set i (.dat x)).set j (.dat y)) := fun Hb D σ Z H env k hE c => by
  refine ha σ Z H env hE H (Ex.refl H) _ (fin_out k hE c fun d v H1 e1 r1 c1 => ?_)
  refine hb σ Z H1 env (hE.mono e1) H1 (Ex.refl _) _ (fin_out (k.mono e1) (hE.mono e1) c1 fun d2 v2 H2 e2 r2 c2 => ?_)
  exact ⟨v, v2, rfl, c2 _ Z H2 ((k.mono e1).mono e2) ((((hE.mono e1).mono e2).set i (r1.mono (ex_view e2 Z))).set j r2)⟩
/-- an attribute that owns something new -/
theorem set_new {i t cn : Nat} {x : Str} {fs : List (Str × Fl)} {f : Fl} {p : Addr} {H' : Hp} {D : Ends} (na : NaOk U K x) (k : Kp Hb Y Z H) (hE : EnvOk U K Y Z H σ env) (hg : env.get i = .ins t cn fs) (hx : attF x fs = none) (hl : fs.length < 900) (hp : H p = none) (e : Ex H H') {o : HO} (hp' : H' p = some o)
    (hf : ∀ H2 ow', H2 p = some o → Ex (view H' (p :: Z)) (view H2 (p :: Z)) → OwnAt Y (p :: Z) ow' p [i, fs.length] → FlOk U K Y (p :: Z) H2 ow' i fs.length (.ref p) f)
    (c : Cnt U W K Y Hb D (.nx (env.set i (.ins t cn (fs ++ [(x, f)]))))) : tVar i σ H' fun z H2 => ∃ a C dx gs, z = .ref a ∧ H2 a = some (.ins C dx gs) ∧ L2.Cls K C ∧ NoAttr K C x ∧ gs.length < 1000 ∧ D.nx σ (upd H2 a (.ins C dx (putF x (.ref p) gs))) := by
  obtain ⟨ow, q⟩ := hE.at_
  obtain ⟨C, dx, vs, h1, h2, h3, h4, h5⟩ := q i _ (get_ins hg)
  obtain ⟨n1, n2⟩ := na cn C h3
  have hvl := h5.length
  have tp : t ≠ p := fun z => by rw [z, hp] at h4; cases h4
  have pY : p ∉ Y := fun hy => by
    obtain ⟨o, r⟩ := hE.zt p (hE.sub p hy)
    rw [hp] at r
    cases r
  refine ⟨_, h1, t, C, dx, vs, rfl, e _ _ h4, n1, n2, by omega, ?_⟩
  have tz : t ∈ p :: Z := List.mem_cons_of_mem _ h2.z
  have vw : Ex (view H Z) (view (upd H' t (.ins C dx (putF x (.ref p) vs))) (p :: Z)) := by
    rw [view_upd tz]
    exact ex_view_cons e hp
  have keep : ∀ {a : Addr} {o : HO} {w : List Nat}, w ≠ [i] → OwnAt Y Z ow a w → H a = some o → upd H' t (.ins C dx (putF x (.ref p) vs)) a = some o ∧ OwnAt Y (p :: Z) (owAt ow p [i, fs.length]) a w := fun {a o w} hw a1 a2 => by
    have at' : a ≠ t := fun z => hw (by rw [← a1.at_, ← h2.at_, z])
    have ap : a ≠ p := fun z => by rw [z, hp] at a2; cases a2
    exact ⟨by rw [upd_ne at']; exact e _ _ a2, List.mem_cons_of_mem _ a1.z, a1.y, by rw [owAt_ne ap]; exact a1.at_⟩
  refine c σ (p :: Z) _ ((k.new hp e).write ⟨tz, h2.y⟩) ?_
  refine hE.turn (ow' := owAt ow p [i, fs.length]) q (fun z hz => List.mem_cons_of_mem _ (hE.sub z hz)) (Zt.upd ((hE.zt.mono e).cons hp')) i (fun j hj => ⟨vw, fun a o w a1 a2 => keep (fun z => hj (List.cons.inj z).1) a1 a2⟩) _ ?_
  refine ⟨C, dx, _, h1, ⟨tz, h2.y, by rw [owAt_ne tp]; exact h2.at_⟩, h3, upd_same, ?_⟩
  refine FlsOk.snoc (FlsOk.carA (fun m => ⟨vw, fun a o w a1 a2 => keep (by simp) a1 a2⟩) h5) hx ?_
  rw [Nat.zero_add]
  exact hf _ _ (by rw [upd_ne (Ne.symm tp)]; exact hp') (by rw [view_upd tz]; exact Ex.refl _) ⟨List.mem_cons_self, pY, owAt_same⟩
theorem s_setr {i : Nat} {x : Str} (na : NaOk U K x) (h : ∀ σ Z H env, EnvOk U K Y Z H σ env → Fr U W K Z te σ H (fe env)) : Ys U W K Y (sFld K (tVar i) te x) fun env => match env.get i with
    | .ins t c fs => (fe env).out env fun d => match d with
      | .list xs => match (attF x fs).isNone && decide (fs.length < 900) with
        | true => .nx (env.set i (.ins t c (fs ++ [(x, .row xs)])))
        | false => .bad
      | _ => .bad
    | _ => .bad := fun Hb D σ Z H env k hE c => by
  dsimp only at c
  split at c
  · rename_i t cn fs hg
    refine h σ Z H env hE H (Ex.refl H) _ ?_
    cases hr : fe env with
    | ok d =>
      rw [hr] at c
      cases d with
      | list xs =>
        rw [out_ok] at c
        dsimp only at c
        split at c
        · rename_i hq
          obtain ⟨q1, q2⟩ := (Bool.and_eq_true _ _).mp hq
          intro p vs H' hp e hl hd
          exact set_new (f := .row xs) (H' := H') na k hE hg (Option.isNone_iff_eq_none.mp q1) (of_decide_eq_true q2) hp e hl (fun H2 ow' g1 g2 g3 => ⟨p, vs, rfl, g3, g1, hd.mono g2⟩) c
        · exact c.elim
      | _ => exact c.elim
    | exc c' =>
      rw [hr] at c
      obtain ⟨C, h1, h2⟩ := c
      exact ⟨C, h1, fun H' e => h2 σ Z H' (k.mono e) (hE.mono e)⟩
    | bad => rw [hr] at c; exact c.elim
  · exact c.elim
theorem s_seto {i : Nat} {x : Str} (na : NaOk U K x) : Ys U W K Y (sFld K (tVar i) (tLst tNil) x) fun env => match env.get i with
    | .ins t c fs => match (attF x fs).isNone && decide (fs.length < 900) with
      | true => .nx (env.set i (.ins t c (fs ++ [(x, .old [])])))
      | false => .bad
    | _ => .bad := fun Hb D σ Z H env k hE c => by
  dsimp only at c
  split at c
  · rename_i t cn fs hg
    split at c
    · rename_i hq
      obtain ⟨q1, q2⟩ := (Bool.and_eq_true _ _).mp hq
      refine ⟨Nat.zero_le _, fun p hp => ?_⟩
      exact set_new (f := .old []) na k hE hg (Option.isNone_iff_eq_none.mp q1) (of_decide_eq_true q2) hp (Ex.new hp) upd_same (fun H2 ow' g1 g2 g3 => ⟨p, [], rfl, g3, g1, .nil⟩) c
    · exact c.elim
  · exact c.elim
end
end Rwl

set_option Elab.async false
set_option linter.all false
set_option maxRecDepth 100000
set_option maxHeartbeats 1000000
/-! Rwl, part Te: lists that are handed over, and changed behind. -/
namespace Rwl
open PySem PySem.Spec PyProof.Rows L2 Evl
/-- ((w[0], list(w[1])), list(r)) -/
def tHnew (K : PySem.W.Frag) (w r : Nat) : TE := tTup (tCons (tTup (tCons (tOp (rIxT K) (tVar w) (tC (.int 0))) (tCons (tListOf K (tOp (rIxT K) (tVar w) (tC (.int 1)))) tNil))) (tCons (tListOf K (tVar r)) tNil))
def tH0 (K : PySem.W.Frag) (h : Nat) : TE := tOp (rIxT K) (tVar h) (tC (.int 0))
def tH1 (K : PySem.W.Frag) (h : Nat) : TE := tOp (rIxT K) (tVar h) (tC (.int 1))
def tH01 (K : PySem.W.Frag) (h : Nat) : TE := tOp (rIxT K) (tH0 K h) (tC (.int 1))
theorem ex_q {H H' : Hp} {K : PySem.W.Frag} {a : Addr} {xs : List V} (e : Ex H H') (h : SqT K H a xs) : SqT K H' a xs := ex_t e h
section
variable {U : Ux} {W : WX} {X : Cx} {K : PySem.W.Frag} {Y Z : List Addr} {σ : L2.St} {H Hb : Hp} {env : Env} {te : TE} {fe : Env → Res D} {Dd : Ends}
theorem dat_at {i : Nat} {d : D} (hE : EnvOk U K Y Z H σ env) (hg : env.get i = .dat d) : ∃ v, σ[i]? = some (some v) ∧ Dat U K (view H Z) v d := by
  obtain ⟨ow, r⟩ := hE.get i
  rw [hg] at r
  exact r
theorem Dat.two_inv {v : V} {d e : D} (h : Dat U K H v (.tuple [d, e])) : ∃ a x y, v = .ref a ∧ SqT K H a [x, y] ∧ Dat U K H x d ∧ Dat U K H y e := by
  obtain ⟨a, xs, rfl, h1, h2⟩ := h.tuple_inv
  cases h2 with
  | cons g1 h2 =>
    cases h2 with
    | cons g2 h2 =>
      cases h2
      exact ⟨a, _, _, rfl, h1, g1, g2⟩
theorem s_hnew {i w r : Nat} : Ys U W K Y (tAsg (tHnew K w r) (gName i)) fun env => match env.get w, env.get r with
    | .dat (.tuple [.int n, .list xs]), .dat (.list ys) => .nx (env.set i (.hnd n xs ys))
    | _, _ => .bad := fun Hb D σ Z H env k hE c => by
  dsimp only at c
  split at c
  · rename_i n xs ys hw hr
    obtain ⟨v, hv, dv⟩ := dat_at hE hw
    obtain ⟨u, hu, du⟩ := dat_at hE hr
    obtain ⟨a0, x0, y0, rfl, s0, d0, d1⟩ := dv.two_inv
    cases d0.int_inv
    obtain ⟨l0, ws, rfl, s1, d1⟩ := d1.list_inv
    obtain ⟨l1, us, rfl, s2, d2⟩ := du.list_inv
    have ve := view_ex H Z
    refine ⟨_, hv, a0, _, 0, .int n, rfl, rfl, ex_q ve s0, rfl, ?_⟩
    refine ⟨_, hv, a0, _, 1, .ref l0, rfl, rfl, ex_q ve s0, rfl, l0, ws, rfl, .inl (SqL.of (ve _ _ s1)), fun p hp => ?_⟩
    refine ⟨by show 2 ≤ sizeLine; decide, fun b hb => ?_⟩
    have e1 : Ex H (upd H p (.lst ws)) := Ex.new hp
    have e2 := e1.trans (Ex.new (o := .tup [V.int n, .ref p]) hb)
    refine ⟨_, hu, l1, us, rfl, .inl (SqL.of (e2 _ _ (ve _ _ s2))), fun q hq => ?_⟩
    have e3 := e2.trans (Ex.new (o := .lst us) hq)
    refine ⟨by show 2 ≤ sizeLine; decide, fun a ha => ?_⟩
    have e4 := e3.trans (Ex.new (o := .tup [V.ref b, .ref q]) ha)
    have pb : p ≠ b := fun z => by rw [← z, upd_same] at hb; cases hb
    have pq : p ≠ q := fun z => by rw [← z, upd_ne pb, upd_same] at hq; cases hq
    have pa : p ≠ a := fun z => by rw [← z, upd_ne pq, upd_ne pb, upd_same] at ha; cases ha
    have bq : b ≠ q := fun z => by rw [← z, upd_same] at hq; cases hq
    have ba : b ≠ a := fun z => by rw [← z, upd_ne bq, upd_same] at ha; cases ha
    have qa : q ≠ a := fun z => by rw [← z, upd_same] at ha; cases ha
    have H0 : ∀ {z : Addr} {H' : Hp}, Ex H H' → H' z = none → H z = none := fun e h => none_back e h
    have hb0 := H0 e1 hb
    have hq0 := H0 e2 hq
    have ha0 := H0 e3 ha
    have nY : ∀ {z : Addr}, H z = none → z ∉ Y := fun hz hy => by
      obtain ⟨o, r⟩ := hE.zt _ (hE.sub _ hy)
      rw [hz] at r
      cases r
    have nZ : ∀ {z : Addr}, H z = none → z ∉ Z := fun hz => hE.zt.not hz
    show D.nx (σ.set i (some (.ref a))) _
    generalize hH4 : upd (upd (upd (upd H p (.lst ws)) b (.tup [V.int n, .ref p])) q (.lst us)) a (.tup [V.ref b, .ref q]) = H4 at e4
    have p4 : H4 p = some (.lst ws) := by rw [← hH4, upd_ne pa, upd_ne pq, upd_ne pb, upd_same]
    have b4 : H4 b = some (.tup [V.int n, .ref p]) := by rw [← hH4, upd_ne ba, upd_ne bq, upd_same]
    have q4 : H4 q = some (.lst us) := by rw [← hH4, upd_ne qa, upd_same]
    have a4 : H4 a = some (.tup [V.ref b, .ref q]) := by rw [← hH4, upd_same]
    have old : ∀ {z : Addr} {o : HO}, H z = some o → z ≠ p ∧ z ≠ q := fun hz => ⟨fun e => (by rw [e, hp] at hz; cases hz), fun e => (by rw [e, hq0] at hz; cases hz)⟩
    have vw : Ex (view H Z) (view H4 (q :: p :: Z)) := fun z o hz => by
      have z1 : z ∉ Z := fun y => by rw [view_in y] at hz; cases hz
      rw [view_out z1] at hz
      obtain ⟨o1, o2⟩ := old hz
      rw [view_out (by simp only [List.mem_cons, not_or]; exact ⟨o2, o1, z1⟩)]
      exact e4 _ _ hz
    obtain ⟨ow, Q⟩ := hE.at_
    refine c _ (q :: p :: Z) H4 (fun z o hz => ?_) (hE.put (ow' := owAt (owAt ow p [i, 0]) q [i, 1]) Q (fun z hz => List.mem_cons_of_mem _ (List.mem_cons_of_mem _ (hE.sub z hz))) (((hE.zt.mono e4).cons p4).cons q4) i (fun j hj => ⟨vw, fun z o w a1 a2 => ?_⟩) _ _ ?_)
    · obtain ⟨n1, r⟩ := sv_some (k z o hz)
      obtain ⟨o1, o2⟩ := old r
      refine sv_of (fun y => ?_) (e4 _ _ r)
      rcases List.mem_cons.mp y.1 with y1 | y1
      · exact o2 y1
      · rcases List.mem_cons.mp y1 with y1 | y1
        · exact o1 y1
        · exact n1 ⟨y1, y.2⟩
    · obtain ⟨o1, o2⟩ := old a2
      exact ⟨e4 _ _ a2, List.mem_cons_of_mem _ (List.mem_cons_of_mem _ a1.z), a1.y, by rw [owAt_ne o2, owAt_ne o1]; exact a1.at_⟩
    · have out : ∀ {z : Addr}, z ≠ p → z ≠ q → H z = none → z ∉ q :: p :: Z := fun z1 z2 z3 => by
        simp only [List.mem_cons, not_or]
        exact ⟨z2, z1, nZ z3⟩
      refine ⟨a, b, p, q, ws, us, rfl, SqT.of ?_, SqT.of ?_, ⟨List.mem_cons_of_mem _ List.mem_cons_self, nY hp, by rw [owAt_ne pq]; exact owAt_same⟩, ⟨List.mem_cons_self, nY hq0, owAt_same⟩, p4, q4, d1.mono vw, d2.mono vw⟩
      · rw [view_out (out (Ne.symm pa) (Ne.symm qa) ha0)]
        exact a4
      · rw [view_out (out (Ne.symm pb) bq hb0)]
        exact b4
  · exact c.elim
theorem get_hnd {i : Nat} {n : Int} {xs ys : List D} (h : env.get i = .hnd n xs ys) : env[i]? = some (.hnd n xs ys) := by
  unfold Env.get at h
  cases e : env[i]? with
  | none => rw [e] at h; cases h
  | some s => rw [e] at h; exact congrArg some h
/-- h[0][1].append(e), h[1].append(e) -/
def tHz (K : PySem.W.Frag) (i : Nat) : Bool → TE
  | true => tH01 K i
  | false => tH1 K i
theorem s_happ {i : Nat} {z : Bool} (h : Ye U W K Y te fe) : Ys U W K Y (tDrop (tBM K "list" rAppend (tHz K i z) (tCons te tNil))) fun env => match env.get i with
    | .hnd n xs ys => (fe env).out env fun d => match decide (xs.length < lim) && decide (ys.length < lim) with
      | true => .nx (env.set i (match z with
        | true => .hnd n (xs ++ [d]) ys
        | false => .hnd n xs (ys ++ [d])))
      | false => .bad
    | _ => .bad := fun Hb D σ Z H env k hE c => by
  dsimp only at c
  split at c
  · rename_i n xs ys hg
    obtain ⟨ow, q⟩ := hE.at_
    obtain ⟨a, b, p1, p2, ws, us, h1, h2, h3, h4, h5, h6, h7, h8, h9⟩ := q i _ (get_hnd hg)
    have ve := view_ex H Z
    have pne : p1 ≠ p2 := fun z => by
      have e := h4.at_
      rw [z, h5.at_] at e
      cases e
    have fin : ∀ p zs, (p = p1 ∧ zs = ws ∧ z = true ∨ p = p2 ∧ zs = us ∧ z = false) → H p = some (.lst zs) → te σ H fun v H' => rAppend (.ref p) [v] H' fun _ H2 => D.nx σ H2 := fun p zs hz hp => by
      refine h σ Z H env hE H (Ex.refl H) _ (fin_out k hE c fun d v H' e rb c' => ?_)
      split at c'
      · rename_i hl
        obtain ⟨hl1, hl2⟩ : xs.length < lim ∧ ys.length < lim := by simpa using hl
        have q' : Ats U K Y Z H' ow σ env := fun j s r => (q j s r).carry (.ex e j)
        have mv := ex_view e Z
        refine ⟨p, zs, v, rfl, rfl, e _ _ hp, ?_, ?_⟩
        · rcases hz with ⟨_, rfl, _⟩ | ⟨_, rfl, _⟩
          · rw [h8.length]; exact lim_lt hl1
          · rw [h9.length]; exact lim_lt hl2
        · rcases hz with ⟨rfl, rfl, rfl⟩ | ⟨rfl, rfl, rfl⟩
          · refine c' σ Z _ ((k.mono e).write ⟨h4.z, h4.y⟩) ((hE.mono e).write q' i h4 ⟨a, b, p, p2, zs ++ [v], us, h1, ?_, ?_, h4, h5, upd_same, ?_, ?_, ?_⟩)
            · rw [view_upd h4.z]; exact ex_q mv h2
            · rw [view_upd h4.z]; exact ex_q mv h3
            · rw [upd_ne (Ne.symm pne)]; exact e _ _ h7
            · rw [view_upd h4.z]; exact (h8.mono mv).append (.one rb)
            · rw [view_upd h4.z]; exact h9.mono mv
          · refine c' σ Z _ ((k.mono e).write ⟨h5.z, h5.y⟩) ((hE.mono e).write q' i h5 ⟨a, b, p1, p, ws, zs ++ [v], h1, ?_, ?_, h4, h5, ?_, upd_same, ?_, ?_⟩)
            · rw [view_upd h5.z]; exact ex_q mv h2
            · rw [view_upd h5.z]; exact ex_q mv h3
            · rw [upd_ne pne]; exact e _ _ h6
            · rw [view_upd h5.z]; exact h8.mono mv
            · rw [view_upd h5.z]; exact (h9.mono mv).append (.one rb)
      · exact c'.elim
    cases z with
    | true => exact ⟨_, h1, a, _, 0, .ref b, rfl, rfl, ex_q ve h2, rfl, b, _, 1, .ref p1, rfl, rfl, ex_q ve h3, rfl, .inl ⟨rfl, ws, SqL.of h6⟩, fin p1 ws (.inl ⟨rfl, rfl, rfl⟩) h6⟩
    | false => exact ⟨_, h1, a, _, 1, .ref p2, rfl, rfl, ex_q ve h2, rfl, .inl ⟨rfl, us, SqL.of h7⟩, fin p2 us (.inr ⟨rfl, rfl, rfl⟩) h7⟩
  · exact c.elim
/-- what __init__ promises of lists that others may change later: they are copied -/
def spJ (U : Ux) (K : PySem.W.Frag) (f : Fm) : Sp := fun vs H Q E => vs.length = 3 ∧ ∃ x b l1 l2 n ws us xs ys C dx Z, vs = [.ref x, .ref b, .ref l2] ∧ U.oc 0 = some C ∧ H x = some (.ins C dx []) ∧ x ∉ Z ∧ Zt Z H ∧ SqT K (view H (x :: Z)) b [.int n, .ref l1] ∧ H l1 = some (.lst ws) ∧ H l2 = some (.lst us) ∧
  DatL U K (view H (x :: Z)) ws xs ∧ DatL U K (view H (x :: Z)) us ys ∧ match f [] [.tuple [.int n, .list xs], .list ys] with
  | .ok fs _ => ∀ H' Z' ow', Kp (sv H (x :: Z) Z) Z Z' H' → (∀ z ∈ Z, z ∈ Z') → Zt Z' H' → ObjAt U K Z Z' H' ow' 0 x fs → Q .non H'
  | _ => False
def BOkJ (U : Ux) (X : Cx) (x : Str) (f : Fm) : Prop :=
  ∃ (k : Nat) (C fa : Addr) (fd : FuncData) (ps : List Str), Room (k + 1) X.A ∧ U.oc 0 = some C ∧ X.mg x = some (.ref C) ∧ Mk X.K C fa ∧ Binds X.K fd ps [] ∧ FnOk X.prog X.w X.K X.mg X.base (L2.CX X.prog X.w) k fa fd ps (spJ U X.K f)
theorem s_hmk {i h : Nat} {f : Fm} {C : Addr} {E : L2.St → XK} (ho : U.oc 0 = some C) : Ys U W K Y (tAsg (tMakeS C (spJ U K f) E (tCons (tH0 K h) (tCons (tH1 K h) tNil))) (gName i)) fun env => match env.get h with
    | .hnd n xs ys => match f [] [.tuple [.int n, .list xs], .list ys] with
      | .ok fs _ => .nx (env.set i (.obj fs))
      | _ => .bad
    | _ => .bad := fun Hb D σ Z H env k hE c => by
  dsimp only at c
  split at c
  · rename_i n xs ys hg
    split at c
    · rename_i fs dd hf
      obtain ⟨ow, q⟩ := hE.at_
      obtain ⟨a, b, p1, p2, ws, us, h1, h2, h3, h4, h5, h6, h7, h8, h9⟩ := q h _ (get_hnd hg)
      have ve := view_ex H Z
      refine ⟨_, h1, a, _, 0, .ref b, rfl, rfl, ex_q ve h2, rfl, ?_⟩
      refine ⟨_, h1, a, _, 1, .ref p2, rfl, rfl, ex_q ve h2, rfl, fun x dx hx hdx hne => ?_⟩
      have ed : Ex H (upd H dx (.own x)) := Ex.new hdx
      have hx2 : upd H dx (.own x) x = none := by rw [upd_ne (Ne.symm hne)]; exact hx
      have ex : Ex H (upd (upd H dx (.own x)) x (.ins C dx [])) := ed.trans (Ex.new hx2)
      have hxZ : x ∉ Z := hE.zt.not hx
      have vw := ex_view_cons (Z := Z) ex hx
      refine ⟨rfl, x, b, p1, p2, n, ws, us, xs, ys, C, dx, Z, rfl, ho, upd_same, hxZ, hE.zt.mono ex, ex_q vw h3, ex _ _ h6, ex _ _ h7, h8.mono vw, h9.mono vw, ?_⟩
      rw [hf]
      generalize upd (upd H dx (.own x)) x (.ins C dx []) = H2 at ex vw
      refine fun H' Z' ow' k' sub' zt' hO => ⟨rfl, ?_⟩
      have up : ∀ {z : Addr} {o : HO}, H z = some o → sv H2 (x :: Z) Z z = some o := fun {z o} hz => by
        refine sv_of (fun y => ?_) (ex _ _ hz)
        rcases List.mem_cons.mp y.1 with y1 | y1
        · rw [y1, hx] at hz; cases hz
        · exact y.2 y1
      have k2 : Kp Hb Y Z' H' := fun z o hz => by
        obtain ⟨n1, r⟩ := sv_some (k z o hz)
        obtain ⟨n2, r2⟩ := sv_some (k' z o (up r))
        refine sv_of (fun y => ?_) r2
        by_cases zz : z ∈ Z
        · exact n1 ⟨zz, y.2⟩
        · exact n2 ⟨y.1, zz⟩
      refine c _ Z' H' k2 (hE.put (ow' := fun z => @ite _ (z ∈ Z' ∧ z ∉ Z) (Classical.propDecidable _) (i :: (ow' z).tail) (ow z)) q (fun z hz => sub' z (hE.sub z hz)) zt' i (fun j hj => ⟨vw.trans (k'.view fun z hz => List.mem_cons_of_mem _ hz), fun z o w a1 a2 => ⟨(sv_some (k' z o (up a2))).2, sub' z a1.z, a1.y, ?_⟩⟩) (some (.ref x)) (.obj fs) ?_)
      · show @ite _ (z ∈ Z' ∧ z ∉ Z) (Classical.propDecidable _) (i :: (ow' z).tail) (ow z) = _
        rw [if_neg (fun y => y.2 a1.z)]
        exact a1.at_
      · obtain ⟨g1, C', dx', vs', g2, g3, g4⟩ := hO.shift (Y' := Y) (j := i) (ow' := fun z => @ite _ (z ∈ Z' ∧ z ∉ Z) (Classical.propDecidable _) (i :: (ow' z).tail) (ow z)) ⟨Ex.refl _, fun z o w a1 a2 => ⟨a2, a1.z, fun y => a1.y (hE.sub z y), by
          show @ite _ (z ∈ Z' ∧ z ∉ Z) (Classical.propDecidable _) (i :: (ow' z).tail) (ow z) = _
          rw [if_pos ⟨a1.z, a1.y⟩, a1.at_]
          rfl⟩⟩
        exact ⟨x, C', dx', vs', rfl, g1, g2, g3, g4⟩
    · exact c.elim
  · exact c.elim
end
end Rwl

set_option Elab.async false
set_option linter.all false
set_option maxRecDepth 100000
set_option maxHeartbeats 2000000
/-! Rwl, part K: the checker of expressions, and that it is sound. -/
namespace Rwl
open PySem PySem.Spec PyProof.Rows L2 Evl

/-! ### the checker -/
/-- N: the frame's names; sc: the block's scope; inn: within a comprehension, its own scope; T: the defs that are called, by number; F: attributes; M: methods; B: classes -/
structure Ck where
  N : List Str
  sc : Scope
  inn : Option Scope
  T : List (Str × Nat)
  F : List Str := []
  M : List (Str × Nat) := []
  B : List (Str × Nat) := []
def visC (sc : Scope) (x : Str) : Bool := match sc.names.lookup x with
  | some .local => true
  | some .cell => true
  | some .free => true
  | _ => false
def locC (sc : Scope) (inn : Option Scope) (x : Str) : Bool := match sc.names.lookup x with
  | some .local => true
  | some .cell => match inn with
    | none => true
    | some s => match s.names.lookup x with
      | some .cell => true
      | _ => false
  | _ => false
def Ck.var (c : Ck) (i : Nat) (x : Str) : Bool := decide (c.N[i]? = some x) && visC c.sc x && !(x == ("__debug__" : Str)) && !(x == ("__classdict__" : Str))
def Ck.loc (c : Ck) (i : Nat) (x : Str) : Bool := decide (c.N[i]? = some x) && locC c.sc c.inn x
def Ck.gl (c : Ck) (x : Str) : Bool := (match c.sc.names.lookup x with
  | some .globalImplicit => true
  | _ => false) && !(x == ("__debug__" : Str))
def Ty.nm : Ty → Str
  | .int => "int"
  | .bool => "bool"
  | .tuple => "tuple"
  | .cls 0 => "BadKind"
  | .cls 1 => "BadOrder"
  | .cls 2 => "BadSpot"
  | .cls 3 => "BadText"
  | .cls 4 => "BadWeb"
  | .cls 5 => "LayError"
  | .cls _ => "ValueError"
def E.len : E → Nat
  | .cons _ b => b.len + 1
  | _ => 0
def ownN (N : List Str) (own : List Nat) : List (Str × Nat) := own.map fun i => ((N[i]?).getD ("" : Str), i)
def chkNames (c : Ck) : List Nat → List Expr → Bool
  | [], es => match es with
    | [] => true
    | _ => false
  | i :: is, es => match es with
    | .Name x _ :: r => c.loc i x && chkNames c is r
    | _ => false
def chkTg (c : Ck) (t : Tg) (e : Expr) : Bool := match t.many with
  | false => match t.is, e with
    | [i], .Name x _ => c.loc i x
    | _, _ => false
  | true => match e with
    | .Tuple es _ _ => chkNames c t.is es
    | _ => false
/-- within a comprehension -/
def Ck.cmp (c : Ck) (scope : Scope) : Ck := { c with sc := relS scope c.sc, inn := some scope }
structure Chk where
  e : Expr → Bool := fun _ => false
  t : Expr → Bool := fun _ => false
  l : List Expr → Bool := fun _ => false
  tl : List Expr → Bool := fun _ => false
  i : Expr → Bool := fun _ => false
def Chk.both (f : Expr → Bool) : Chk := { e := f, t := f, i := f }
def pickCO (i : E) (f : Expr → Bool) : Option Expr → Bool := match i with
  | .nop => fun o => match o with
    | none => true
    | some _ => false
  | _ => fun o => match o with
    | some x => f x
    | none => false
def pickCP (i : E) (f : Expr → Bool) : List Expr → Bool := match i with
  | .nop => fun o => match o with
    | [] => true
    | _ => false
  | _ => fun o => match o with
    | [x] => f x
    | _ => false
def chk : E → Ck → Chk
  | .var i, c => .both fun e => match e with
    | .Name x _ => c.var i x
    | _ => false
  | .int n, _ => .both fun e => match e with
    | .Constant (.int m) _ _ => decide (n = m)
    | _ => false
  | .str s, _ => .both fun e => match e with
    | .Constant (.str t) _ _ => decide (s = t)
    | _ => false
  | .bl b, _ => .both fun e => match e with
    | .Constant (.bool k) _ _ => decide (b = k)
    | _ => false
  | .non, _ => .both fun e => match e with
    | .Constant .none _ _ => true
    | _ => false
  | .glb x _, c => .both fun e => match e with
    | .Name y _ => decide (x = y) && c.gl y
    | _ => false
  | .bin o a b, c => .both fun e => match e with
    | .BinOp x op y _ => decide (op = o.op) && (chk a c).e x && (chk b c).e y
    | _ => false
  | .neg a, c => .both fun e => match e with
    | .UnaryOp .USub x _ => (chk a c).e x
    | _ => false
  | .not a, c => {
    e := fun e => match e with
      | .UnaryOp .Not x _ => (chk a c).e x
      | _ => false
    t := fun e => match e with
      | .UnaryOp .Not x _ => (chk a c).t x
      | _ => false }
  | .cmp o a b, c => .both fun e => match e with
    | .Compare x [op] [y] _ => decide (op = o.op) && nset y && (chk a c).e x && (chk b c).e y
    | _ => false
  | .ch2 o p a b d, c => .both fun e => match e with
    | .Compare x [op, op2] [y, z] _ => decide (op = o.op) && decide (op2 = p.op) && !lastMarks [o.op, p.op] [y, z] && (chk a c).e x && (chk b c).e y && (chk d c).e z
    | _ => false
  | .ch3 o p q a b d f, c => .both fun e => match e with
    | .Compare x [op, op2, op3] [y, z, w] _ => decide (op = o.op) && decide (op2 = p.op) && decide (op3 = q.op) && !lastMarks [o.op, p.op, q.op] [y, z, w] && (chk a c).e x && (chk b c).e y && (chk d c).e z && (chk f c).e w
    | _ => false
  | .and es, c => {
    e := fun e => match e with
      | .BoolOp .And vs _ => (chk es c).l vs
      | _ => false
    t := fun e => match e with
      | .BoolOp .And vs _ => (chk es c).tl vs
      | _ => false
    i := fun e => match e with
      | .BoolOp .And vs _ => (chk es c).l vs
      | _ => false }
  | .or es, c => {
    e := fun e => match e with
      | .BoolOp .Or vs _ => (chk es c).l vs
      | _ => false
    t := fun e => match e with
      | .BoolOp .Or vs _ => (chk es c).tl vs
      | _ => false
    i := fun e => match e with
      | .BoolOp .Or vs _ => (chk es c).l vs
      | _ => false }
  | .ite t a b, c => {
    e := fun e => match e with
      | .IfExp x y z _ => (chk t c).t x && (chk a c).e y && (chk b c).e z
      | _ => false
    i := fun e => match e with
      | .IfExp x y z _ => (chk t c).t x && (chk a c).e y && (chk b c).e z
      | _ => false }
  | .nil, _ => { l := fun es => match es with
    | [] => true
    | _ => false }
  | .cons a b, c => {
    l := fun es => match es with
      | e :: r => nst e && (chk a c).e e && (chk b c).l r
      | _ => false
    tl := fun es => match b with
      | .nil => match es with
        | [e] => (chk a c).t e
        | _ => false
      | _ => match es with
        | e :: x :: r => (chk a c).t e && (chk b c).tl (x :: r)
        | _ => false }
  | .tup es, c => .both fun e => match e with
    | .Tuple vs _ _ => (chk es c).l vs
    | _ => false
  | .lst es, c => .both fun e => match e with
    | .List vs _ => (chk es c).l vs
    | _ => false
  | .ix a i, c => .both fun e => match e with
    | .Subscript x y _ => nsl y && (chk a c).e x && (chk i c).e y
    | _ => false
  | .nop, _ => {}
  | .sl a lo hi, c => .both fun e => match e with
    | .Subscript x (.Slice l h none _) _ => (chk a c).e x && pickCO lo (chk lo c).e l && pickCO hi (chk hi c).e h
    | _ => false
  | .rev a, c => .both fun e => match e with
    | .Subscript x (.Slice none none (some (.UnaryOp .USub (.Constant (.int 1) _ _) _)) _) _ => (chk a c).e x
    | _ => false
  | .bi k es, c => .both fun e => match e with
    | .Call (.Name x _) (a :: as) [] _ => decide (x = k.name) && c.gl x && (a :: as).all nst && (chk es c).l (a :: as)
    | _ => false
  | .maxd a d, c => .both fun e => match e with
    | .Call (.Name x _) [y] [⟨some w, z, _⟩] _ => decide (x = ("max" : Str)) && decide (w = ("default" : Str)) && c.gl x && nst y && (chk a c).e y && (chk d c).e z
    | _ => false
  | .lrg a, c => .both fun e => match e with
    | .Call (.Name x _) [.Call (.Name y _) [z] [] _] [] _ => decide (x = ("list" : Str)) && decide (y = ("range" : Str)) && c.gl x && c.gl y && nst z && (chk a c).e z
    | _ => false
  | .isi a t, c => .both fun e => match e with
    | .Call (.Name x _) [y, .Name z _] [] _ => decide (x = ("isinstance" : Str)) && decide (z = t.nm) && c.gl x && c.gl z && nst y && (chk a c).e y
    | _ => false
  | .call k _ es, c => .both fun e => match e with
    | .Call (.Name x _) (a :: as) [] _ => decide (c.T[k]? = some (x, es.len)) && c.gl x && (a :: as).all nst && (chk es c).l (a :: as)
    | _ => false
  | .ind n a b, c => .both fun e => match e with
    | .Compare x [op] [y] _ => decide (op = (cmN n).op) && nset y && (chk a c).e x && (chk b c).e y
    | _ => false
  | .srt a, c => .both fun e => match e with
    | .Call (.Name x _) [y] [] _ => decide (x = ("sorted" : Str)) && c.gl x && nst y && (chk a c).e y
    | _ => false
  | .srs a, c => .both fun e => match e with
    | .Call (.Name x _) [.Call (.Name z _) [y] [] _] [] _ => decide (x = ("sorted" : Str)) && decide (z = ("set" : Str)) && c.gl x && c.gl z && nst y && (chk a c).e y
    | _ => false
  | .rvs a, c => { i := fun e => match e with
    | .Call (.Name x _) [y] [] _ => decide (x = ("reversed" : Str)) && c.gl x && nst y && (chk a c).e y
    | _ => false }
  | .att a x, c => .both fun e => match e with
    | .Attribute o nm _ => decide (nm = x) && nsup o && decide (x ∈ c.F) && (chk a c).e o
    | _ => false
  | .mth k m _ a es, c => .both fun e => match e with
    | .Call (.Attribute o nm ap) as [] pos => decide (nm = m) && decide (c.M[k]? = some (m, es.len)) && nsup o && (ap.endLine == pos.line) && as.all nst && decide (as.length < 29) && (chk a c).e o && (chk es c).l as
    | _ => false
  | .mk k _ es, c => .both fun e => match e with
    | .Call (.Name x _) (a :: as) [] _ => decide (c.B[k]? = some (x, es.len)) && c.gl x && (a :: as).all nst && (chk es c).l (a :: as)
    | _ => false
  | .mt m a es, c => .both fun e => match e with
    | .Call (.Attribute o nm ap) [y] [] pos => decide (nm = m.nm) && nsup o && nst y && (ap.endLine == pos.line) && (chk a c).e o && (chk es c).l [y]
    | _ => false
  | .ms m a es, c => .both fun e => match e with
    | .Call (.Attribute o nm ap) [y] [] pos => decide (nm = m.nm) && nsup o && nst y && (ap.endLine == pos.line) && (chk a c).e o && (chk es c).l [y]
    | _ => false
  | .lc own t it cn el, c => .both fun e => match e with
    | .ListComp elt [⟨tg, iter, ifs, 0⟩] scope _ => c.inn.isNone && blkC c.N c.sc scope (ownN c.N own) && nset iter && !own.isEmpty && t.is.all (fun i => own.contains i) && chkTg (c.cmp scope) t tg && (chk it c).i iter && pickCP cn (chk cn (c.cmp scope)).t ifs && (chk el (c.cmp scope)).e elt
    | _ => false
  | .rng1 a, c => { i := fun e => match e with
    | .Call (.Name x _) [y] [] _ => decide (x = ("range" : Str)) && c.gl x && nst y && (chk a c).e y
    | _ => false }
  | .rng2 a b, c => { i := fun e => match e with
    | .Call (.Name x _) [y, z] [] _ => decide (x = ("range" : Str)) && c.gl x && nst y && nst z && (chk a c).e y && (chk b c).e z
    | _ => false }
def chkE (c : Ck) (i : E) (e : Expr) : Bool := (chk i c).e e
def chkT (c : Ck) (i : E) (e : Expr) : Bool := (chk i c).t e
def chkL (c : Ck) (i : E) (es : List Expr) : Bool := (chk i c).l es
def chkTL (c : Ck) (i : E) (es : List Expr) : Bool := (chk i c).tl es
def chkI (c : Ck) (i : E) (e : Expr) : Bool := (chk i c).i e
def chkO (c : Ck) (i : E) (e : Option Expr) : Bool := pickCO i (chk i c).e e
def chkP (c : Ck) (i : E) (es : List Expr) : Bool := pickCP i (chk i c).t es
example (a : E) (env : Env) : evE env (.neg a) = (evE env a).bind negD := rfl
example (a : E) (c : Ck) (x : Expr) (pos : Pos) : chkE c (.neg a) (.UnaryOp .USub x pos) = chkE c a x := rfl
end Rwl

set_option Elab.async false
set_option linter.all false
set_option maxRecDepth 100000
set_option maxHeartbeats 2000000
/-! Rwl, part L: the checker of expressions is sound. -/
namespace Rwl
open PySem PySem.Spec PyProof.Rows L2 Evl

/-- what a context must bear -/
structure Cok (U : Ux) (c : Ck) (X : Cx) (W : WX) : Prop where
  N : X.N = c.N
  nd : c.N.Nodup
  sc : X.env.scope = c.sc
  fn : ∀ x, locC c.sc c.inn x = true → X.fn x = true ∨ X.env.scope.names.lookup x = some .local
  calm : X.calm = true
  tk : Takes X W
  hu : X.A.units + 64 < cLine
  bi : ∀ k : Bi, X.mg k.name = none
  rg : X.mg "range" = none
  isi : X.mg "isinstance" = none
  ty : ∀ t : Ty, TyIs U X t.nm t
  na : ∀ x, x ∈ c.F → NaOk U X.K x
  rv : X.mg "reversed" = none
  set : X.mg "set" = none
  ndi : U.nd = NDict X.prog X.w
  fr : c.inn = none → X.stack = X.env :: X.outer ∧ X.env.frame = some X.env.locals
def FC (U : Ux) (c : Ck) (X : Cx) : Nat → Nat → (List D → Res D) → Prop
  | 0, k, f => ∃ x m, c.T[k]? = some (x, m) ∧ FOk U X x m f
  | 1, k, f => ∃ x m, c.M[k]? = some (x, m) ∧ MOk U X x m f
  | 3, k, f => ∃ x m, c.T[k]? = some (x, m) ∧ FOkF U X x m f
  | 4, k, f => ∃ x m, c.M[k]? = some (x, m) ∧ MOkF U X x m f
  | _, k, f => ∃ x m, c.B[k]? = some (x, m) ∧ BOk U X x m f
/-- the calls that change an object: methods, defs, the making of one -/
def FM (U : Ux) (c : Ck) (X : Cx) : Nat → Nat → Fm → Prop
  | 0, k, f => ∃ x m, c.M[k]? = some (x, m) ∧ MOkM U X x m f
  | 1, k, f => ∃ x m, c.T[k]? = some (x, m + 1) ∧ FOkM U X x m f
  | _, k, f => ∃ x, c.B[k]? = some (x, 2) ∧ BOkJ U X x f
def GC (U : Ux) (X : Cx) : Str → D → Prop := fun x d => ∃ v cv, X.mg x = some cv ∧ RelV v cv ∧ ∀ H, Dat U X.K H v d
/-- what is called, what is read of the module -/
def E.cl (pc : Nat → Nat → (List D → Res D) → Prop) (pg : Str → D → Prop) : E → Prop
  | .glb x d => pg x d
  | .bin _ a b => a.cl pc pg ∧ b.cl pc pg
  | .neg a => a.cl pc pg
  | .not a => a.cl pc pg
  | .cmp _ a b => a.cl pc pg ∧ b.cl pc pg
  | .ch2 _ _ a b c => a.cl pc pg ∧ b.cl pc pg ∧ c.cl pc pg
  | .ch3 _ _ _ a b c d => a.cl pc pg ∧ b.cl pc pg ∧ c.cl pc pg ∧ d.cl pc pg
  | .and es => es.cl pc pg
  | .or es => es.cl pc pg
  | .ite c a b => c.cl pc pg ∧ a.cl pc pg ∧ b.cl pc pg
  | .cons a b => a.cl pc pg ∧ b.cl pc pg
  | .tup es => es.cl pc pg
  | .lst es => es.cl pc pg
  | .ix a i => a.cl pc pg ∧ i.cl pc pg
  | .sl a lo hi => a.cl pc pg ∧ lo.cl pc pg ∧ hi.cl pc pg
  | .rev a => a.cl pc pg
  | .bi _ es => es.cl pc pg
  | .maxd a d => a.cl pc pg ∧ d.cl pc pg
  | .lrg a => a.cl pc pg
  | .isi a _ => a.cl pc pg
  | .call k f es => pc 0 k f ∧ es.cl pc pg
  | .att a _ => a.cl pc pg
  | .ind _ a b => a.cl pc pg ∧ b.cl pc pg
  | .srt a => a.cl pc pg
  | .srs a => a.cl pc pg
  | .rvs a => a.cl pc pg
  | .mth k _ f a es => pc 1 k f ∧ a.cl pc pg ∧ es.cl pc pg
  | .mk k f es => pc 2 k f ∧ es.cl pc pg
  | .mt _ a es => a.cl pc pg ∧ es.cl pc pg
  | .ms _ a es => a.cl pc pg ∧ es.cl pc pg
  | .lc _ _ it c e => it.cl pc pg ∧ c.cl pc pg ∧ e.cl pc pg
  | .rng1 a => a.cl pc pg
  | .rng2 a b => a.cl pc pg ∧ b.cl pc pg
  | _ => True
section
variable {U : Ux} {Y : List Addr} {X : Cx} {W : WX} {c : Ck}
abbrev E.ok (U : Ux) (c : Ck) (X : Cx) (i : E) : Prop := i.cl (FC U c X) (GC U X)
theorem and2 {a b : Bool} (h : (a && b) = true) : a = true ∧ b = true := by simpa using h
theorem not1 {a : Bool} (h : (!a) = true) : a = false := by simpa using h
theorem gl_of (k : Cok U c X W) {x : Str} (h : c.gl x = true) : Gl X x ∧ (x == ("__debug__" : Str)) = false := by
  obtain ⟨h1, h2⟩ := and2 h
  refine ⟨?_, not1 h2⟩
  show X.env.scope.names.lookup x = _
  rw [k.sc]
  split at h1
  · assumption
  · cases h1
theorem var_pe (k : Cok U c X W) {i : Nat} {x : Str} {pos : Pos} (h : c.var i x = true) : PE X (.Name x pos) (tVar i) := by
  obtain ⟨h, h4⟩ := and2 h
  obtain ⟨h, h3⟩ := and2 h
  obtain ⟨h1, h2⟩ := and2 h
  refine pe_var (by rw [k.N]; exact of_decide_eq_true h1) ?_ (not1 h3) (not1 h4)
  unfold Vis
  rw [k.sc]
  unfold visC at h2
  split at h2
  · exact .inl (by assumption)
  · exact .inr (.inl (by assumption))
  · exact .inr (.inr (by assumption))
  · cases h2
theorem loc_of (k : Cok U c X W) {i : Nat} {x : Str} (h : c.loc i x = true) : X.N[i]? = some x ∧ L2.Loc X.env.scope x ∧ (X.fn x = true ∨ X.env.scope.names.lookup x = some .local) := by
  obtain ⟨h1, h2⟩ := and2 h
  refine ⟨by rw [k.N]; exact of_decide_eq_true h1, ?_, k.fn x h2⟩
  unfold L2.Loc
  rw [k.sc]
  unfold locC at h2
  split at h2
  · exact .inl (by assumption)
  · exact .inr (by assumption)
  · cases h2
theorem nd_of (k : Cok U c X W) : X.N.Nodup := by rw [k.N]; exact k.nd
theorem names_len {env : PySem.Env} : ∀ {is : List Nat} {es : List Expr}, chkNames c is es = true → (assignEach es env).length = is.length ∧ (assignEach es env).findIdx? (·.1) = none
  | [], es, h => by
    cases es with
    | nil => exact ⟨rfl, rfl⟩
    | cons _ _ => cases h
  | i :: is, es, h => by
    cases es with
    | nil => cases h
    | cons e r =>
      cases e with
      | Name x pos =>
        obtain ⟨h1, h2⟩ := names_len (env := env) (and2 h).2
        refine ⟨congrArg (· + 1) h1, ?_⟩
        show List.findIdx? (·.1) ((false, assign (.Name x pos) env) :: assignEach r env) = none
        rw [List.findIdx?_cons, h2]
        rfl
      | _ => cases h
theorem names_pg (k : Cok U c X W) : ∀ {is : List Nat} {es : List Expr}, chkNames c is es = true → PGs X es (gNames is)
  | [], es, h => by
    cases es with
    | nil => exact pgs_nil
    | cons _ _ => cases h
  | i :: is, es, h => by
    cases es with
    | nil => cases h
    | cons e r =>
      cases e with
      | Name x pos =>
        obtain ⟨h1, h2⟩ := and2 h
        obtain ⟨l1, l2, l3⟩ := loc_of k h1
        exact pgs_cons (pg_name (nd_of k) l1 l2 l3) (names_pg k h2)
      | _ => cases h
theorem tg_pg (k : Cok U c X W) {t : Tg} {e : Expr} (h : chkTg c t e = true) : PG X e (t.g X.K) := by
  obtain ⟨m, is⟩ := t
  cases m with
  | false =>
    match is, h with
    | [], h => cases h
    | [i], h =>
      cases e with
      | Name x pos =>
        obtain ⟨l1, l2, l3⟩ := loc_of k h
        exact pg_name (nd_of k) l1 l2 l3
      | _ => cases h
    | _ :: _ :: _, h => cases h
  | true =>
    cases e with
    | Tuple es kk pos =>
      have h : chkNames c is es = true := h
      obtain ⟨q1, q2⟩ := names_len (env := X.env) h
      exact pg_tup k.calm (names_pg k h) q1 q2
    | _ => cases h
theorem cok_blk (k : Cok U c X W) (scope : Scope) (σ : L2.St) (s : Shared) (H0 : Hp) (C : Addr) (cl : List (Str × Addr)) (fp : List Addr) : Cok U (c.cmp scope) (blkW X (Wc W σ) s H0 scope (compEnvC scope cl C X.env) fp) (Wc W σ) := by
  have hs : (compEnvC scope cl C X.env).scope = relS scope c.sc := by
    show relabel scope X.env = _
    rw [← k.sc]
    rfl
  refine ⟨k.N, k.nd, hs, fun x h => ?_, k.calm, blkW_takes, k.hu, k.bi, k.rg, k.isi, (fun t => ⟨(k.ty t).val⟩), k.na, k.rv, k.set, k.ndi, (fun h => nomatch h)⟩
  have h : locC (relS scope c.sc) (some scope) x = true := h
  show (scope.names.lookup x == some .cell) = true ∨ (compEnvC scope cl C X.env).scope.names.lookup x = some .local
  rw [hs]
  unfold locC at h
  split at h
  · exact .inr (by assumption)
  · dsimp only at h
    split at h
    · left
      rename_i q
      rw [q]
      rfl
    · cases h
  · cases h

/-! ### soundness, by kinds -/
def SndE (U : Ux) (Y : List Addr) (i : E) : Prop := ∀ {c : Ck} {X : Cx} {W : WX} {e : Expr}, Cok U c X W → i.ok U c X → chkE c i e = true → ∀ {σ : L2.St} {Z : List Addr} {H : Hp} {env : Env}, EnvOk U X.K Y Z H σ env → Yl U W (RE U X.K Z) (Ew X e) σ H (evE env i)
def SndC (U : Ux) (Y : List Addr) (i : E) : Prop := ∀ {c : Ck} {X : Cx} {W : WX} {e : Expr}, Cok U c X W → i.ok U c X → chkE c i e = true → ∀ {σ : L2.St} {Z : List Addr} {H : Hp} {env : Env}, EnvOk U X.K Y Z H σ env → Yl U W (RC U X.K Z) (Ew X e) σ H (evC env i)
def SndT (U : Ux) (Y : List Addr) (i : E) : Prop := ∀ {c : Ck} {X : Cx} {W : WX} {e : Expr}, Cok U c X W → i.ok U c X → chkT c i e = true → ∀ {σ : L2.St} {Z : List Addr} {H : Hp} {env : Env}, EnvOk U X.K Y Z H σ env → Yl U W RQ (Tw X e) σ H (evT env i)
def SndL (U : Ux) (Y : List Addr) (i : E) : Prop := ∀ {c : Ck} {X : Cx} {W : WX} {es : List Expr}, Cok U c X W → i.ok U c X → chkL c i es = true → ∀ {σ : L2.St} {Z : List Addr} {H : Hp} {env : Env}, EnvOk U X.K Y Z H σ env → Yl U W (RL U X.K Z) (Aw X es) σ H (evL env i)
def SndA (U : Ux) (Y : List Addr) (i : E) : Prop := ∀ {c : Ck} {X : Cx} {W : WX} {es : List Expr} {pos : Pos}, Cok U c X W → i.ok U c X → chkL c i es = true → ∀ {σ : L2.St} {Z : List Addr} {H : Hp} {env : Env}, EnvOk U X.K Y Z H σ env → Yl U W (RE U X.K Z) (Ew X (.BoolOp .And es pos)) σ H (evAnd env i)
def SndR (U : Ux) (Y : List Addr) (i : E) : Prop := ∀ {c : Ck} {X : Cx} {W : WX} {es : List Expr} {pos : Pos}, Cok U c X W → i.ok U c X → chkL c i es = true → ∀ {σ : L2.St} {Z : List Addr} {H : Hp} {env : Env}, EnvOk U X.K Y Z H σ env → Yl U W (RE U X.K Z) (Ew X (.BoolOp .Or es pos)) σ H (evOr env i)
def SndTA (U : Ux) (Y : List Addr) (i : E) : Prop := ∀ {c : Ck} {X : Cx} {W : WX} {es : List Expr} {pos : Pos}, Cok U c X W → i.ok U c X → chkTL c i es = true → ∀ {σ : L2.St} {Z : List Addr} {H : Hp} {env : Env}, EnvOk U X.K Y Z H σ env → Yl U W RQ (Bw X (.BoolOp .And es pos)) σ H (evTAnd env i)
def SndTR (U : Ux) (Y : List Addr) (i : E) : Prop := ∀ {c : Ck} {X : Cx} {W : WX} {es : List Expr} {pos : Pos}, Cok U c X W → i.ok U c X → chkTL c i es = true → ∀ {σ : L2.St} {Z : List Addr} {H : Hp} {env : Env}, EnvOk U X.K Y Z H σ env → Yl U W RQ (Bw X (.BoolOp .Or es pos)) σ H (evTOr env i)
def SndO (U : Ux) (Y : List Addr) (i : E) : Prop := ∀ {c : Ck} {X : Cx} {W : WX} {e : Option Expr}, Cok U c X W → i.ok U c X → chkO c i e = true → ∀ {σ : L2.St} {Z : List Addr} {H : Hp} {env : Env}, EnvOk U X.K Y Z H σ env → Yl U W RQ (Ow X e) σ H (evO env i)
def SndP (U : Ux) (Y : List Addr) (i : E) : Prop := ∀ {c : Ck} {X : Cx} {W : WX} {es : List Expr}, Cok U c X W → i.ok U c X → chkP c i es = true → ∀ {σ : L2.St} {Z : List Addr} {H : Hp} {env : Env}, EnvOk U X.K Y Z H σ env → Yl U W RQ (Pw X es) σ H (evP env i)
def SndI (U : Ux) (Y : List Addr) (i : E) : Prop := ∀ {c : Ck} {X : Cx} {W : WX} {tg e : Expr}, Cok U c X W → i.ok U c X → chkI c i e = true → ∀ {σ : L2.St} {Z : List Addr} {H : Hp} {env : Env}, EnvOk U X.K Y Z H σ env → Yl U W (RI U X.K Z) (Iw X tg e) σ H (evI env i)
structure Snd (U : Ux) (Y : List Addr) (i : E) : Prop where
  e : SndE U Y i
  c : SndC U Y i
  t : SndT U Y i
  l : SndL U Y i
  a : SndA U Y i
  r : SndR U Y i
  ta : SndTA U Y i
  tr : SndTR U Y i
  o : SndO U Y i
  p : SndP U Y i
  i : SndI U Y i
theorem Snd.mk0 {i : E} (hE : SndE U Y i) (hT : SndT U Y i) (h1 : ∀ env, evC env i = evE env i := by intro _; rfl) (h2 : ∀ c es, chkL c i es = false := by intros; rfl) (h3 : ∀ c es, chkTL c i es = false := by intros; rfl)
    (h4 : ∀ c, chkO c i none = false := by intros; rfl) (h4' : ∀ c x, chkO c i (some x) = chkE c i x := by intros; rfl) (h5 : ∀ env, evO env i = (evE env i).bind fun x => (asInt x).bind fun i => .ok (some i) := by intros; rfl)
    (h6 : ∀ c, chkP c i [] = false := by intros; rfl) (h6' : ∀ c x, chkP c i [x] = chkT c i x := by intros; rfl) (h6'' : ∀ c x y r, chkP c i (x :: y :: r) = false := by intros; rfl) (h7 : ∀ env, evP env i = evT env i := by intros; rfl)
    (h8 : ∀ {c e}, chkI c i e = true → chkE c i e = true := by intro _ _ h; first | exact h | cases h) : Snd U Y i := by
  refine ⟨hE, fun k o h σ Z H env hE' => ?_, hT, fun k o h => ?_, fun k o h => ?_, fun k o h => ?_, fun k o h => ?_, fun k o h => ?_, fun {c X W e} k o h σ Z H env hE' => ?_, fun {c X W es} k o h σ Z H env hE' => ?_, fun k o h σ Z H env hE' => y_seq (hE k o (h8 h) hE')⟩
  · rw [h1]; exact y_con (hE k o h hE')
  · rw [h2] at h; cases h
  · rw [h2] at h; cases h
  · rw [h2] at h; cases h
  · rw [h3] at h; cases h
  · rw [h3] at h; cases h
  · cases e with
    | none => rw [h4] at h; cases h
    | some x => rw [h4'] at h; rw [h5]; exact y_O1 (hE k o h hE')
  · match es, h with
    | [], h => rw [h6] at h; cases h
    | [x], h => rw [h6'] at h; rw [h7]; exact y_P1 (hT k o h hE')
    | _ :: _ :: _, h => rw [h6''] at h; cases h
/-- a test that is the value's truth -/
theorem sndT_of {i : E} (hE : SndE U Y i) (h1 : ∀ {c e}, chkT c i e = true → chkE c i e = true ∧ ntest e = true) (h2 : ∀ env, evT env i = (evE env i).bind tru := by intro _; rfl) : SndT U Y i := fun k o h σ Z H env hE' => by
  rw [h2]
  exact y_T (h1 h).2 (y_con (hE k o (h1 h).1 hE'))
theorem sndT_no {i : E} (h1 : ∀ c e, chkT c i e = false := by intros; rfl) : SndT U Y i := fun k o h => by rw [h1] at h; cases h
theorem bind_assoc {α β γ : Type} (r : Res α) (f : α → Res β) (g : β → Res γ) : (r.bind f).bind g = r.bind fun a => (f a).bind g := by cases r <;> rfl
theorem bind_eta {α : Type} (r : Res α) : (r.bind fun k => .ok k) = r := by cases r <;> rfl
theorem evL_len {env : Env} : ∀ {i : E} {ds : List D}, evL env i = .ok ds → ds.length = i.len := by
  intro i
  induction i with
  | nil => intro ds h; cases ok_inj h; rfl
  | cons a b _ ih =>
    intro ds h
    obtain ⟨x, _, h⟩ := bind_ok_inv h
    obtain ⟨xs, h2, h⟩ := bind_ok_inv h
    cases ok_inj h
    exact congrArg (· + 1) (ih h2)
  | _ => intro ds h; cases h
theorem ownN_snd (N : List Str) (own : List Nat) : (ownN N own).map (·.2) = own := by
  unfold ownN
  rw [List.map_map]
  exact List.map_id' own
theorem isBool_cmp {α : Type} {r : Res α} {f : α → Res D} (h : ∀ a d, f a = .ok d → ∃ k, d = .bool k) (d : D) (hd : r.bind f = .ok d) : ∃ k, d = .bool k := by
  obtain ⟨a, _, h2⟩ := bind_ok_inv hd
  exact h a d h2
end
end Rwl

set_option Elab.async false
set_option linter.all false
set_option maxRecDepth 100000
set_option maxHeartbeats 2000000
/-! Rwl, part M: the checker of expressions is sound: by induction. -/
namespace Rwl
open PySem PySem.Spec PyProof.Rows L2 Evl
section
variable {U : Ux} {Y : List Addr}
theorem no {p : Prop} (h : false = true) : p := Bool.noConfusion h
theorem both_T {i : E} {f : Ck → Expr → Bool} (n : ∀ c e, f c e = true → ntest e = true) (h : ∀ c, chk i c = .both (f c)) (h2 : ∀ env, evT env i = (evE env i).bind tru) (hE : SndE U Y i) : SndT U Y i :=
  sndT_of hE (fun {c e} q => by
    have q : (chk i c).t e = true := q
    rw [h] at q
    refine ⟨?_, n c e q⟩
    show (chk i c).e e = true
    rw [h]
    exact q) h2
theorem snd_var (i : Nat) : Snd U Y (.var i) := by
  have hE : SndE U Y (.var i) := fun {c X W e} k o h σ Z H env hE => by
    cases e with
    | Name x pos =>
      have p := var_pe (pos := pos) k (show c.var i x = true from h)
      cases hg : env.get i with
      | dat d =>
        have q := y_var (W := W) p hE hg
        rw [show evE env (.var i) = .ok d by show (match env.get i with | .dat d => Res.ok d | _ => .bad) = _; rw [hg]]
        exact q
      | _ =>
        rw [show evE env (.var i) = .bad by show (match env.get i with | .dat d => Res.ok d | _ => .bad) = _; rw [hg]]
        exact Yl.bad
    | _ => cases h
  have hC : SndC U Y (.var i) := fun {c X W e} k o h σ Z H env hE' => by
    cases e with
    | Name x pos =>
      have p := var_pe (pos := pos) k (show c.var i x = true from h)
      cases hg : env.get i with
      | dat d =>
        rw [show evC env (.var i) = .ok d by show (match env.get i with | .dat d => Res.ok d | .own xs => .ok (.list xs) | .dcn kvs => .ok (ndD kvs) | _ => .bad) = _; rw [hg]]
        exact y_con (y_var p hE' hg)
      | own xs =>
        rw [show evC env (.var i) = .ok (.list xs) by show (match env.get i with | .dat d => Res.ok d | .own xs => .ok (.list xs) | .dcn kvs => .ok (ndD kvs) | _ => .bad) = _; rw [hg]]
        exact y_own p hE' hg
      | dcn kvs =>
        rw [show evC env (.var i) = .ok (ndD kvs) by show (match env.get i with | .dat d => Res.ok d | .own xs => .ok (.list xs) | .dcn kvs => .ok (ndD kvs) | _ => .bad) = _; rw [hg]]
        exact y_ownN p hE' hg
      | _ =>
        rw [show evC env (.var i) = .bad by show (match env.get i with | .dat d => Res.ok d | .own xs => .ok (.list xs) | .dcn kvs => .ok (ndD kvs) | _ => .bad) = _; rw [hg]]
        exact Yl.bad
    | _ => cases h
  have hT : SndT U Y (.var i) := fun {c X W e} k o h σ Z H env hE' => by
    have h' : chkE c (.var i) e = true := h
    cases e with
    | Name x pos =>
      have q := y_T (W := W) (a := .Name x pos) rfl (hC k o h' hE')
      cases hg : env.get i with
      | dat d =>
        rw [show evC env (.var i) = .ok d by show (match env.get i with | .dat d => Res.ok d | .own xs => .ok (.list xs) | .dcn kvs => .ok (ndD kvs) | _ => .bad) = _; rw [hg]] at q
        rw [show evT env (.var i) = tru d by show (match env.get i with | .own xs => Res.ok (!xs.isEmpty) | .dat d => tru d | _ => .bad) = _; rw [hg]]
        exact q
      | own xs =>
        rw [show evC env (.var i) = .ok (.list xs) by show (match env.get i with | .dat d => Res.ok d | .own xs => .ok (.list xs) | .dcn kvs => .ok (ndD kvs) | _ => .bad) = _; rw [hg]] at q
        rw [show evT env (.var i) = .ok (!xs.isEmpty) by show (match env.get i with | .own xs => Res.ok (!xs.isEmpty) | .dat d => tru d | _ => .bad) = _; rw [hg]]
        exact q
      | _ =>
        rw [show evT env (.var i) = .bad by show (match env.get i with | .own xs => Res.ok (!xs.isEmpty) | .dat d => tru d | _ => .bad) = _; rw [hg]]
        exact Yl.bad
    | _ => cases h
  refine ⟨hE, hC, hT, fun k o h => no h, fun k o h => no h, fun k o h => no h, fun k o h => no h, fun k o h => no h, fun {c X W e} k o h σ Z H env hE' => ?_, fun {c X W es} k o h σ Z H env hE' => ?_, fun k o h σ Z H env hE' => y_seq (hE k o h hE')⟩
  · cases e with
    | none => cases h
    | some x => exact y_O1 (hE k o h hE')
  · match es, h with
    | [], h => cases h
    | [x], h => exact y_P1 (hT k o h hE')
    | _ :: _ :: _, h => cases h
/-- a construct whose test is its value's -/
theorem snd_both {i : E} {f : Ck → Expr → Bool} (h : ∀ c, chk i c = .both (f c)) (n : ∀ c e, f c e = true → ntest e = true) (hE : SndE U Y i) (h2 : ∀ env, evT env i = (evE env i).bind tru := by intro _; rfl)
    (h1 : ∀ env, evC env i = evE env i := by intro _; rfl) (h2' : ∀ c es, chkL c i es = false := by intros; rfl) (h3 : ∀ c es, chkTL c i es = false := by intros; rfl)
    (h4 : ∀ c, chkO c i none = false := by intros; rfl) (h4' : ∀ c x, chkO c i (some x) = chkE c i x := by intros; rfl) (h5 : ∀ env, evO env i = (evE env i).bind fun x => (asInt x).bind fun i => .ok (some i) := by intros; rfl)
    (h6 : ∀ c, chkP c i [] = false := by intros; rfl) (h6' : ∀ c x, chkP c i [x] = chkT c i x := by intros; rfl) (h6'' : ∀ c x y r, chkP c i (x :: y :: r) = false := by intros; rfl) (h7 : ∀ env, evP env i = evT env i := by intros; rfl) : Snd U Y i :=
  Snd.mk0 hE (both_T n h h2 hE) h1 h2' h3 h4 h4' h5 h6 h6' h6'' h7 fun {c e} q => by
    have q : (chk i c).i e = true := q
    rw [h] at q
    show (chk i c).e e = true
    rw [h]
    exact q
theorem snd_int (m : Int) : Snd U Y (.int m) := snd_both (fun _ => rfl) (fun c e h => by cases e <;> first | rfl | cases h) fun {c X W e} k o h σ Z H env hE => by
  cases e with
  | Constant v j pos =>
    cases v with
    | int n =>
      have e : m = n := of_decide_eq_true h
      subst e
      exact y_c pe_int fun _ => .int _
    | _ => cases h
  | _ => cases h
theorem snd_str (m : Str) : Snd U Y (.str m) := snd_both (fun _ => rfl) (fun c e h => by cases e <;> first | rfl | cases h) fun {c X W e} k o h σ Z H env hE => by
  cases e with
  | Constant v j pos =>
    cases v with
    | str n =>
      have e : m = n := of_decide_eq_true h
      subst e
      exact y_c pe_str fun _ => .str _
    | _ => cases h
  | _ => cases h
theorem snd_bl (m : Bool) : Snd U Y (.bl m) := snd_both (fun _ => rfl) (fun c e h => by cases e <;> first | rfl | cases h) fun {c X W e} k o h σ Z H env hE => by
  cases e with
  | Constant v j pos =>
    cases v with
    | bool n =>
      have e : m = n := of_decide_eq_true h
      subst e
      exact y_c pe_bl fun _ => .bl _
    | _ => cases h
  | _ => cases h
theorem snd_non : Snd U Y .non := snd_both (fun _ => rfl) (fun c e h => by cases e <;> first | rfl | cases h) fun {c X W e} k o h σ Z H env hE => by
  cases e with
  | Constant v j pos =>
    cases v with
    | none => exact y_c pe_non fun _ => .non
    | _ => cases h
  | _ => cases h
theorem snd_glb (x : Str) (d : D) : Snd U Y (.glb x d) := snd_both (fun _ => rfl) (fun c e h => by cases e <;> first | rfl | cases h) fun {c X W e} k o h σ Z H env hE => by
  cases e with
  | Name y pos =>
    obtain ⟨h1, h2⟩ := and2 (show (decide (x = y) && c.gl y) = true from h)
    have e : x = y := of_decide_eq_true h1
    subst e
    obtain ⟨g1, g2⟩ := gl_of k h2
    obtain ⟨v, cv, q1, q2, q3⟩ := (show GC U X x d from o)
    exact y_c (pe_glob g1 q1 q2 g2) q3
  | _ => cases h
theorem snd_bin (p : O2) {a b : E} (ha : Snd U Y a) (hb : Snd U Y b) : Snd U Y (.bin p a b) := snd_both (fun _ => rfl) (fun c e h => by cases e <;> first | rfl | cases h) fun {c X W e} k o h σ Z H env hE => by
  cases e with
  | BinOp x op y pos =>
    obtain ⟨h, h3⟩ := and2 (show (decide (op = p.op) && (chk a c).e x && (chk b c).e y) = true from h)
    obtain ⟨h1, h2⟩ := and2 h
    cases of_decide_eq_true h1
    exact y_bin p hE.zt (ha.e k o.1 h2 hE) (hb.e k o.2 h3 hE)
  | _ => cases h
theorem snd_neg {a : E} (ha : Snd U Y a) : Snd U Y (.neg a) := snd_both (fun _ => rfl) (fun c e h => by
    cases e with
    | UnaryOp op _ _ => cases op <;> first | rfl | cases h
    | _ => first | rfl | cases h) fun {c X W e} k o h σ Z H env hE => by
  cases e with
  | UnaryOp op x pos =>
    cases op with
    | USub => exact y_neg (ha.e k o h hE)
    | _ => cases h
  | _ => cases h
theorem snd_not {a : E} (ha : Snd U Y a) : Snd U Y (.not a) := Snd.mk0 (fun {c X W e} k o h σ Z H env hE => by
  cases e with
  | UnaryOp op x pos =>
    cases op with
    | Not => exact y_not (ha.e k o h hE)
    | _ => cases h
  | _ => cases h) (fun {c X W e} k o h σ Z H env hE => by
  cases e with
  | UnaryOp op x pos =>
    cases op with
    | Not => exact y_notT (ha.t k o h hE)
    | _ => cases h
  | _ => cases h)
theorem cmp_inv {c : Ck} {p : Cm} {a b : E} {e : Expr} (h : (chk (.cmp p a b) c).e e = true) : ∃ x y pos, e = .Compare x [p.op] [y] pos ∧ nset y = true ∧ chkE c a x = true ∧ chkE c b y = true := by
  cases e with
  | Compare x ops vs pos =>
    match ops, vs, h with
    | [op], [y], h =>
      obtain ⟨h, h4⟩ := and2 (show (decide (op = p.op) && nset y && (chk a c).e x && (chk b c).e y) = true from h)
      obtain ⟨h, h3⟩ := and2 h
      obtain ⟨h1, h2⟩ := and2 h
      cases of_decide_eq_true h1
      exact ⟨x, y, pos, rfl, h2, h3, h4⟩
    | [], _, h => cases h
    | [_], [], h => cases h
    | [_], _ :: _ :: _, h => cases h
    | _ :: _ :: _, _, h => cases h
  | _ => cases h
theorem snd_cmp (p : Cm) {a b : E} (ha : Snd U Y a) (hb : Snd U Y b) : Snd U Y (.cmp p a b) := Snd.mk0 (fun {c X W e} k o h σ Z H env hE => by
  obtain ⟨x, y, pos, rfl, h2, h3, h4⟩ := cmp_inv h
  exact y_cmp k.hu p (marks_no h2) (ha.e k o.1 h3 hE) (hb.e k o.2 h4 hE)) (fun {c X W e} k o h σ Z H env hE => by
  obtain ⟨x, y, pos, rfl, h2, h3, h4⟩ := cmp_inv h
  exact y_cmpT k.hu p (marks_no h2) (ha.e k o.1 h3 hE) (hb.e k o.2 h4 hE))
theorem ch2_inv {c : Ck} {p q : Cm} {a b d : E} {e : Expr} (h : (chk (.ch2 p q a b d) c).e e = true) : ∃ x y z pos, e = .Compare x [p.op, q.op] [y, z] pos ∧ lastMarks [p.op, q.op] [y, z] = false ∧ chkE c a x = true ∧ chkE c b y = true ∧ chkE c d z = true := by
  cases e with
  | Compare x ops vs pos =>
    match ops, vs, h with
    | [op, op2], [y, z], h =>
      obtain ⟨h, h6⟩ := and2 (show (decide (op = p.op) && decide (op2 = q.op) && !lastMarks [p.op, q.op] [y, z] && (chk a c).e x && (chk b c).e y && (chk d c).e z) = true from h)
      obtain ⟨h, h5⟩ := and2 h
      obtain ⟨h, h4⟩ := and2 h
      obtain ⟨h, h3⟩ := and2 h
      obtain ⟨h1, h2⟩ := and2 h
      cases of_decide_eq_true h1
      cases of_decide_eq_true h2
      exact ⟨x, y, z, pos, rfl, not1 h3, h4, h5, h6⟩
    | [], _, h => cases h
    | [_], _, h => cases h
    | [_, _], [], h => cases h
    | [_, _], [_], h => cases h
    | [_, _], _ :: _ :: _ :: _, h => cases h
    | _ :: _ :: _ :: _, _, h => cases h
  | _ => cases h
theorem snd_ch2 (p q : Cm) {a b d : E} (ha : Snd U Y a) (hb : Snd U Y b) (hd : Snd U Y d) : Snd U Y (.ch2 p q a b d) := Snd.mk0 (fun {c X W e} k o h σ Z H env hE => by
  obtain ⟨x, y, z, pos, rfl, h3, h4, h5, h6⟩ := ch2_inv h
  exact y_ch2 k.hu p q h3 (ha.e k o.1 h4 hE) (hb.e k o.2.1 h5 hE) (hd.e k o.2.2 h6 hE)) (fun {c X W e} k o h σ Z H env hE => by
  obtain ⟨x, y, z, pos, rfl, h3, h4, h5, h6⟩ := ch2_inv h
  have r := yt_ch2 (W := W) k.hu p q (ha.e k o.1 h4 hE) (hb.e k o.2.1 h5 hE) (hd.e k o.2.2 h6 hE)
  refine Yl.imp (fun _ _ _ q' => tw_chain2 (op_cm (U := U) (Z := Z) k.hu p) (op_cm (U := U) (Z := Z) k.hu q) h3 q') (y_tB r fun d hd => ?_)
  obtain ⟨x', _, hd⟩ := bind_ok_inv hd
  obtain ⟨y', _, hd⟩ := bind_ok_inv hd
  obtain ⟨b', _, hd⟩ := bind_ok_inv hd
  cases b' with
  | false => exact ⟨_, (ok_inj hd).symm⟩
  | true =>
    obtain ⟨z', _, hd⟩ := bind_ok_inv hd
    obtain ⟨b', _, hd⟩ := bind_ok_inv hd
    exact ⟨_, (ok_inj hd).symm⟩)
theorem ch3_inv {c : Ck} {p q r : Cm} {a b d f : E} {e : Expr} (h : (chk (.ch3 p q r a b d f) c).e e = true) : ∃ x y z w pos, e = .Compare x [p.op, q.op, r.op] [y, z, w] pos ∧ lastMarks [p.op, q.op, r.op] [y, z, w] = false ∧ chkE c a x = true ∧ chkE c b y = true ∧ chkE c d z = true ∧ chkE c f w = true := by
  cases e with
  | Compare x ops vs pos =>
    match ops, vs, h with
    | [op, op2, op3], [y, z, w], h =>
      obtain ⟨h, h8⟩ := and2 (show (decide (op = p.op) && decide (op2 = q.op) && decide (op3 = r.op) && !lastMarks [p.op, q.op, r.op] [y, z, w] && (chk a c).e x && (chk b c).e y && (chk d c).e z && (chk f c).e w) = true from h)
      obtain ⟨h, h7⟩ := and2 h
      obtain ⟨h, h6⟩ := and2 h
      obtain ⟨h, h5⟩ := and2 h
      obtain ⟨h, h4⟩ := and2 h
      obtain ⟨h, h3⟩ := and2 h
      obtain ⟨h1, h2⟩ := and2 h
      cases of_decide_eq_true h1
      cases of_decide_eq_true h2
      cases of_decide_eq_true h3
      exact ⟨x, y, z, w, pos, rfl, not1 h4, h5, h6, h7, h8⟩
    | [], _, h => cases h
    | [_], _, h => cases h
    | [_, _], _, h => cases h
    | [_, _, _], [], h => cases h
    | [_, _, _], [_], h => cases h
    | [_, _, _], [_, _], h => cases h
    | [_, _, _], _ :: _ :: _ :: _ :: _, h => cases h
    | _ :: _ :: _ :: _ :: _, _, h => cases h
  | _ => cases h
theorem snd_ch3 (p q r : Cm) {a b d f : E} (ha : Snd U Y a) (hb : Snd U Y b) (hd : Snd U Y d) (hf : Snd U Y f) : Snd U Y (.ch3 p q r a b d f) := Snd.mk0 (fun {c X W e} k o h σ Z H env hE => by
  obtain ⟨x, y, z, w, pos, rfl, h3, h4, h5, h6, h7⟩ := ch3_inv h
  exact Yl.imp (fun _ _ _ q' => ew_of (pe_ch3 (op_cm (U := U) (Z := Z) k.hu p) (op_cm (U := U) (Z := Z) k.hu q) (op_cm (U := U) (Z := Z) k.hu r) ew ew ew ew h3) q')
    (yt_ch3 k.hu p q r (ha.e k o.1 h4 hE) (hb.e k o.2.1 h5 hE) (hd.e k o.2.2.1 h6 hE) (hf.e k o.2.2.2 h7 hE))) (fun {c X W e} k o h σ Z H env hE => by
  obtain ⟨x, y, z, w, pos, rfl, h3, h4, h5, h6, h7⟩ := ch3_inv h
  have r' := yt_ch3 (W := W) k.hu p q r (ha.e k o.1 h4 hE) (hb.e k o.2.1 h5 hE) (hd.e k o.2.2.1 h6 hE) (hf.e k o.2.2.2 h7 hE)
  refine Yl.imp (fun _ _ _ q' => tw_of (pt_ch3 (op_cm (U := U) (Z := Z) k.hu p) (op_cm (U := U) (Z := Z) k.hu q) (op_cm (U := U) (Z := Z) k.hu r) ew ew ew ew h3) q') (y_tB r' fun d hd => ?_)
  obtain ⟨x', _, hd⟩ := bind_ok_inv hd
  obtain ⟨y', _, hd⟩ := bind_ok_inv hd
  obtain ⟨b', _, hd⟩ := bind_ok_inv hd
  cases b' with
  | false => exact ⟨_, (ok_inj hd).symm⟩
  | true =>
    obtain ⟨z', _, hd⟩ := bind_ok_inv hd
    obtain ⟨b', _, hd⟩ := bind_ok_inv hd
    cases b' with
    | false => exact ⟨_, (ok_inj hd).symm⟩
    | true =>
      obtain ⟨z', _, hd⟩ := bind_ok_inv hd
      obtain ⟨b', _, hd⟩ := bind_ok_inv hd
      exact ⟨_, (ok_inj hd).symm⟩)
theorem snd_and {es : E} (h : Snd U Y es) : Snd U Y (.and es) := Snd.mk0 (fun {c X W e} k o q σ Z H env hE => by
  cases e with
  | BoolOp op vs pos =>
    cases op with
    | And => exact h.a k o q hE
    | Or => cases q
  | _ => cases q) (fun {c X W e} k o q σ Z H env hE => by
  cases e with
  | BoolOp op vs pos =>
    cases op with
    | And => exact y_bw (h.ta k o q hE)
    | Or => cases q
  | _ => cases q)
theorem snd_or {es : E} (h : Snd U Y es) : Snd U Y (.or es) := Snd.mk0 (fun {c X W e} k o q σ Z H env hE => by
  cases e with
  | BoolOp op vs pos =>
    cases op with
    | Or => exact h.r k o q hE
    | And => cases q
  | _ => cases q) (fun {c X W e} k o q σ Z H env hE => by
  cases e with
  | BoolOp op vs pos =>
    cases op with
    | Or => exact y_bw (h.tr k o q hE)
    | And => cases q
  | _ => cases q)
theorem snd_ite {t a b : E} (ht : Snd U Y t) (ha : Snd U Y a) (hb : Snd U Y b) : Snd U Y (.ite t a b) := Snd.mk0 (fun {c X W e} k o q σ Z H env hE => by
  cases e with
  | IfExp x y z pos =>
    obtain ⟨q, q3⟩ := and2 (show ((chk t c).t x && (chk a c).e y && (chk b c).e z) = true from q)
    obtain ⟨q1, q2⟩ := and2 q
    exact y_ite (ht.t k o.1 q1 hE) (ha.e k o.2.1 q2 hE) (hb.e k o.2.2 q3 hE)
  | _ => cases q) (sndT_no)
theorem snd_nil : Snd U Y .nil := by
  refine ⟨fun k o h => no h, fun k o h => no h, fun k o h => no h, fun {c X W es} k o h σ Z H env hE => ?_, fun {c X W es pos} k o h σ Z H env hE => Yl.bad, fun {c X W es pos} k o h σ Z H env hE => Yl.bad,
    fun k o h => no h, fun k o h => no h, fun {c X W e} k o h => ?_, fun {c X W es} k o h => ?_, fun k o h => no h⟩
  · cases es with
    | nil => exact y_nil
    | cons _ _ => cases h
  · cases e <;> cases h
  · match es, h with
    | [], h => cases h
    | [x], h => cases h
    | _ :: _ :: _, h => cases h
theorem cons_l {c : Ck} {a b : E} {es : List Expr} (h : chkL c (.cons a b) es = true) : ∃ e r, es = e :: r ∧ nst e = true ∧ chkE c a e = true ∧ chkL c b r = true := by
  cases es with
  | nil => cases h
  | cons e r =>
    obtain ⟨h, h3⟩ := and2 (show (nst e && (chk a c).e e && (chk b c).l r) = true from h)
    obtain ⟨h1, h2⟩ := and2 h
    exact ⟨e, r, rfl, h1, h2, h3⟩
theorem nil_l {c : Ck} {es : List Expr} (h : chkL c .nil es = true) : es = [] := by
  cases es with
  | nil => rfl
  | cons e r => cases h
theorem tl_nil {c : Ck} {a : E} {es : List Expr} (h : chkTL c (.cons a .nil) es = true) : ∃ e, es = [e] ∧ chkT c a e = true := by
  match es, h with
  | [], h => cases h
  | [e], h => exact ⟨e, rfl, h⟩
  | _ :: _ :: _, h => cases h
theorem tl_cons {c : Ck} {a b d : E} {es : List Expr} (h : chkTL c (.cons a (.cons b d)) es = true) : ∃ e x r, es = e :: x :: r ∧ chkT c a e = true ∧ chkTL c (.cons b d) (x :: r) = true := by
  match es, h with
  | [], h => cases h
  | [e], h => cases h
  | e :: x :: r, h =>
    obtain ⟨h1, h2⟩ := and2 (show ((chk a c).t e && (chk (.cons b d) c).tl (x :: r)) = true from h)
    exact ⟨e, x, r, rfl, h1, h2⟩
/-- a list of operands is nil or cons -/
theorem l_shape {c : Ck} {b : E} {r : List Expr} (h : chkL c b r = true) : b = .nil ∨ ∃ x y, b = .cons x y := by
  cases b <;> first | exact .inl rfl | exact .inr ⟨_, _, rfl⟩ | cases h
theorem tl_shape {c : Ck} {b : E} {r : List Expr} (h : chkTL c b r = true) : ∃ x y, b = .cons x y := by
  cases b <;> first | exact ⟨_, _, rfl⟩ | cases h
theorem tl_second {c : Ck} {a b : E} {es : List Expr} (h : chkTL c (.cons a b) es = true) : b = .nil ∨ ∃ x y, b = .cons x y := by
  cases b <;> first
    | exact .inl rfl
    | exact .inr ⟨_, _, rfl⟩
    | (exfalso
       match es, h with
       | [], h => cases h
       | [e], h => cases h
       | e :: x :: r, h => exact Bool.noConfusion ((and2 h).2))
theorem snd_cons {a b : E} (ha : Snd U Y a) (hb : Snd U Y b) : Snd U Y (.cons a b) := by
  refine ⟨fun k o h => no h, fun k o h => no h, fun k o h => no h, fun {c X W es} k o h σ Z H env hE => ?_, fun {c X W es pos} k o h σ Z H env hE => ?_, fun {c X W es pos} k o h σ Z H env hE => ?_,
    fun {c X W es pos} k o h σ Z H env hE => ?_, fun {c X W es pos} k o h σ Z H env hE => ?_, fun {c X W e} k o h => ?_, fun {c X W es} k o h => ?_, fun k o h => no h⟩
  · obtain ⟨e, r, rfl, h1, h2, h3⟩ := cons_l h
    exact y_cons h1 (ha.e k o.1 h2 hE) (hb.l k o.2 h3 hE)
  · obtain ⟨e, r, rfl, h1, h2, h3⟩ := cons_l h
    rcases l_shape h3 with rfl | ⟨x, y, rfl⟩
    · cases nil_l h3
      exact y_one (ha.e k o.1 h2 hE)
    · obtain ⟨e2, r2, rfl, _⟩ := cons_l h3
      exact y_and (ha.e k o.1 h2 hE) (hb.a k o.2 h3 hE)
  · obtain ⟨e, r, rfl, h1, h2, h3⟩ := cons_l h
    rcases l_shape h3 with rfl | ⟨x, y, rfl⟩
    · cases nil_l h3
      exact y_one (ha.e k o.1 h2 hE)
    · obtain ⟨e2, r2, rfl, _⟩ := cons_l h3
      exact y_or (ha.e k o.1 h2 hE) (hb.r k o.2 h3 hE)
  · rcases tl_second h with rfl | ⟨x, y, rfl⟩
    · obtain ⟨e, rfl, h1⟩ := tl_nil h
      exact y_and1B (ha.t k o.1 h1 hE)
    · obtain ⟨e, e2, r, rfl, h1, h2⟩ := tl_cons h
      exact y_andB (ha.t k o.1 h1 hE) (hb.ta k o.2 h2 hE)
  · rcases tl_second h with rfl | ⟨x, y, rfl⟩
    · obtain ⟨e, rfl, h1⟩ := tl_nil h
      exact y_or1B (ha.t k o.1 h1 hE)
    · obtain ⟨e, e2, r, rfl, h1, h2⟩ := tl_cons h
      exact y_orB (ha.t k o.1 h1 hE) (hb.tr k o.2 h2 hE)
  · cases e <;> cases h
  · match es, h with
    | [], h => cases h
    | [x], h => cases h
    | _ :: _ :: _, h => cases h
end
end Rwl

set_option Elab.async false
set_option linter.all false
set_option maxRecDepth 100000
set_option maxHeartbeats 2000000
/-! Rwl, part N: the rest of the constructs; all together. -/
namespace Rwl
open PySem PySem.Spec PyProof.Rows L2 Evl
section
variable {U : Ux} {Y : List Addr}
theorem snd_tup {es : E} (h : Snd U Y es) : Snd U Y (.tup es) := snd_both (fun _ => rfl) (fun c e h => by cases e <;> first | rfl | cases h) fun {c X W e} k o q σ Z H env hE => by
  cases e with
  | Tuple vs kk pos => exact y_tup hE.zt (h.l k o q hE)
  | _ => cases q
theorem f_lstE {es : E} (h : Snd U Y es) {c : Ck} {X : Cx} {W : WX} {e : Expr} (k : Cok U c X W) (o : (E.lst es).ok U c X) (q : chkE c (.lst es) e = true) {σ : L2.St} {Z : List Addr} {H : Hp} {env : Env} (hE : EnvOk U X.K Y Z H σ env) :
    Fr U W X.K Z (Ew X e) σ H (evE env (.lst es)) := by
  cases e with
  | List vs pos => exact f_lst hE.zt (h.l k o q hE)
  | _ => cases q
theorem snd_lst {es : E} (h : Snd U Y es) : Snd U Y (.lst es) := snd_both (fun _ => rfl) (fun c e h => by cases e <;> first | rfl | cases h) fun {c X W e} k o q σ Z H env hE => by
  cases e with
  | List vs pos => exact y_lst hE.zt (h.l k o q hE)
  | _ => cases q
theorem i1_var {env : Env} {a : E} {kvs : List (Int × D)} (h : evI1 env a = some kvs) : ∃ i, a = .var i ∧ env.get i = .dct kvs := by
  cases a with
  | var i =>
    refine ⟨i, rfl, ?_⟩
    have h : (match env.get i with | .dct kvs => some kvs | _ => none) = some kvs := h
    cases hg : env.get i with
    | dct kk => rw [hg] at h; cases h; rfl
    | _ => rw [hg] at h; cases h
  | _ => cases h
theorem snd_ix {a i : E} (ha : Snd U Y a) (hi : Snd U Y i) : Snd U Y (.ix a i) := snd_both (fun _ => rfl) (fun c e h => by cases e <;> first | rfl | cases h) fun {c X W e} k o q σ Z H env hE => by
  cases e with
  | Subscript x y pos =>
    obtain ⟨q, q3⟩ := and2 (show (nsl y && (chk a c).e x && (chk i c).e y) = true from q)
    obtain ⟨q1, q2⟩ := and2 q
    show Yl U W (RE U X.K Z) (Ew X (.Subscript x y pos)) σ H (match evI1 env a with
      | some kvs => (evE env i).bind fun y => (asInt y).bind fun k => ofO (klook kvs k)
      | none => (evC env a).bind fun x => (evE env i).bind fun y => ixD x y)
    cases hv : evI1 env a with
    | none => exact y_ix k.hu k.ndi q1 (ha.c k o.1 q2 hE) (hi.e k o.2 q3 hE)
    | some kvs =>
      obtain ⟨j, rfl, hg⟩ := i1_var hv
      cases x with
      | Name z p2 => exact y_dget k.hu q1 (var_pe k q2) hE hg (hi.e k o.2 q3 hE)
      | _ => cases q2
  | _ => cases q
theorem snd_nop : Snd U Y .nop := by
  refine ⟨fun k o h => no h, fun k o h => no h, fun k o h => no h, fun k o h => no h, fun k o h => no h, fun k o h => no h, fun k o h => no h, fun k o h => no h, fun {c X W e} k o h σ Z H env hE => ?_, fun {c X W es} k o h σ Z H env hE => ?_, fun k o h => no h⟩
  · cases e with
    | none => exact y_O0
    | some x => cases h
  · cases es with
    | nil => exact y_P0
    | cons _ _ => cases h
theorem snd_sl {a lo hi : E} (ha : Snd U Y a) (h1 : Snd U Y lo) (h2 : Snd U Y hi) : Snd U Y (.sl a lo hi) := snd_both (fun _ => rfl) (fun c e h => by cases e <;> first | rfl | cases h) fun {c X W e} k o q σ Z H env hE => by
  cases e with
  | Subscript x s pos =>
    cases s with
    | Slice l h st p2 =>
      cases st with
      | none =>
        obtain ⟨q, q3⟩ := and2 (show ((chk a c).e x && pickCO lo (chk lo c).e l && pickCO hi (chk hi c).e h) = true from q)
        obtain ⟨q1, q2⟩ := and2 q
        exact y_sl hE.zt (ha.c k o.1 q1 hE) (h1.o k o.2.1 q2 hE) (h2.o k o.2.2 q3 hE)
      | some _ => cases q
    | _ => cases q
  | _ => cases q
theorem snd_rev {a : E} (ha : Snd U Y a) : Snd U Y (.rev a) := snd_both (fun _ => rfl) (fun c e h => by cases e <;> first | rfl | cases h) fun {c X W e} k o q σ Z H env hE => by
  unfold chkE chk Chk.both at q
  dsimp only at q
  split at q
  · exact y_rev hE.zt (ha.c k o q hE)
  · cases q
theorem bi_inv {c : Ck} {b : Bi} {es : E} {e : Expr} (h : chkE c (.bi b es) e = true) : ∃ p a as pos, e = .Call (.Name b.name p) (a :: as) [] pos ∧ c.gl b.name = true ∧ (a :: as).all nst = true ∧ chkL c es (a :: as) = true := by
  unfold chkE chk Chk.both at h
  dsimp only at h
  split at h
  · obtain ⟨h, h4⟩ := and2 h
    obtain ⟨h, h3⟩ := and2 h
    obtain ⟨h1, h2⟩ := and2 h
    cases of_decide_eq_true h1
    exact ⟨_, _, _, _, rfl, h2, h3, h4⟩
  · cases h
theorem snd_bi (b : Bi) {es : E} (h : Snd U Y es) : Snd U Y (.bi b es) := snd_both (fun _ => rfl) (fun c e h => by cases e <;> first | rfl | cases h) fun {c X W e} k o q σ Z H env hE => by
  obtain ⟨p, a, as, pos, rfl, h2, h3, h4⟩ := bi_inv q
  exact y_bi b k.calm (gl_of k h2).1 (k.bi b) hE.zt h3 (h.l k o h4 hE)
theorem snd_maxd {a d : E} (ha : Snd U Y a) (hd : Snd U Y d) : Snd U Y (.maxd a d) := snd_both (fun _ => rfl) (fun c e h => by cases e <;> first | rfl | cases h) fun {c X W e} k o q σ Z H env hE => by
  unfold chkE chk Chk.both at q
  dsimp only at q
  split at q
  · obtain ⟨q, q6⟩ := and2 q
    obtain ⟨q, q5⟩ := and2 q
    obtain ⟨q, q4⟩ := and2 q
    obtain ⟨q, q3⟩ := and2 q
    obtain ⟨q1, q2⟩ := and2 q
    cases of_decide_eq_true q1
    cases of_decide_eq_true q2
    exact y_maxd k.calm k.hu (gl_of k q3).1 (k.bi .max) q4 (ha.e k o.1 q5 hE) (hd.e k o.2 q6 hE)
  · cases q
theorem lrg_inv {c : Ck} {a : E} {e : Expr} (q : chkE c (.lrg a) e = true) : ∃ p p2 z pos2 pos, e = .Call (.Name "list" p) [.Call (.Name "range" p2) [z] [] pos2] [] pos ∧ c.gl "list" = true ∧ c.gl "range" = true ∧ nst z = true ∧ chkE c a z = true := by
  unfold chkE chk Chk.both at q
  dsimp only at q
  split at q
  · obtain ⟨q, q6⟩ := and2 q
    obtain ⟨q, q5⟩ := and2 q
    obtain ⟨q, q4⟩ := and2 q
    obtain ⟨q, q3⟩ := and2 q
    obtain ⟨q1, q2⟩ := and2 q
    cases of_decide_eq_true q1
    cases of_decide_eq_true q2
    exact ⟨_, _, _, _, _, rfl, q3, q4, q5, q6⟩
  · cases q
theorem snd_lrg {a : E} (ha : Snd U Y a) : Snd U Y (.lrg a) := snd_both (fun _ => rfl) (fun c e h => by cases e <;> first | rfl | cases h) fun {c X W e} k o q σ Z H env hE => by
  obtain ⟨_, _, _, _, _, rfl, q3, q4, q5, q6⟩ := lrg_inv q
  exact y_lrg k.calm (gl_of k q3).1 (k.bi .list) (gl_of k q4).1 k.rg hE.zt q5 (ha.e k o q6 hE)
theorem snd_isi {a : E} (t : Ty) (ha : Snd U Y a) : Snd U Y (.isi a t) := snd_both (fun _ => rfl) (fun c e h => by cases e <;> first | rfl | cases h) fun {c X W e} k o q σ Z H env hE => by
  unfold chkE chk Chk.both at q
  dsimp only at q
  split at q
  · obtain ⟨q, q6⟩ := and2 q
    obtain ⟨q, q5⟩ := and2 q
    obtain ⟨q, q4⟩ := and2 q
    obtain ⟨q, q3⟩ := and2 q
    obtain ⟨q1, q2⟩ := and2 q
    cases of_decide_eq_true q1
    cases of_decide_eq_true q2
    exact y_isi (k.ty t) (gl_of k q3).1 k.isi (gl_of k q4).1 (gl_of k q4).2 q5 (ha.e k o q6 hE)
  · cases q
theorem snd_call (j : Nat) (f : List D → Res D) {es : E} (h : Snd U Y es) : Snd U Y (.call j f es) := snd_both (fun _ => rfl) (fun c e h => by cases e <;> first | rfl | cases h) fun {c X W e} k o q σ Z H env hE => by
  unfold chkE chk Chk.both at q
  dsimp only at q
  split at q
  · obtain ⟨q, q4⟩ := and2 q
    obtain ⟨q, q3⟩ := and2 q
    obtain ⟨q1, q2⟩ := and2 q
    have q1 := of_decide_eq_true q1
    obtain ⟨x, m, hx, F⟩ := (show FC U c X 0 j f from o.1)
    rw [q1] at hx
    cases hx
    exact y_call k.tk F (gl_of k q2).1 (gl_of k q2).2 hE.zt q3 (fun ds hd => evL_len hd) (h.l k o.2 q4 hE)
  · cases q
theorem ind_inv {c : Ck} {n : Bool} {a b : E} {e : Expr} (h : (chk (.ind n a b) c).e e = true) : ∃ x y pos, e = .Compare x [(cmN n).op] [y] pos ∧ nset y = true ∧ chkE c a x = true ∧ chkE c b y = true := by
  unfold chk Chk.both at h
  dsimp only at h
  split at h
  · obtain ⟨h, h4⟩ := and2 h
    obtain ⟨h, h3⟩ := and2 h
    obtain ⟨h1, h2⟩ := and2 h
    cases of_decide_eq_true h1
    exact ⟨_, _, _, rfl, h2, h3, h4⟩
  · cases h
theorem snd_ind (n : Bool) {a b : E} (ha : Snd U Y a) (hb : Snd U Y b) : Snd U Y (.ind n a b) := Snd.mk0 (fun {c X W e} k o h σ Z H env hE => by
  obtain ⟨x, y, pos, rfl, h2, h3, h4⟩ := ind_inv h
  exact y_ind k.hu k.ndi n (marks_no h2) (ha.e k o.1 h3 hE) (hb.c k o.2 h4 hE)) (fun {c X W e} k o h σ Z H env hE => by
  obtain ⟨x, y, pos, rfl, h2, h3, h4⟩ := ind_inv h
  have q := y_indT (pos := pos) k.hu k.ndi n (marks_no h2) (ha.e k o.1 h3 hE) (hb.c k o.2 h4 hE)
  have z : evT env (.ind n a b) = (evE env a).bind fun x => (evC env b).bind fun y => (inND x y).bind fun k => .ok (xor n k) := by
    show ((evE env a).bind fun x => (evC env b).bind fun y => (inND x y).bind fun k => .ok (.bool (xor n k))).bind tru = _
    simp only [bind_assoc, bind_ok, tru]
  rw [z]
  exact q)
theorem snd_srt {a : E} (ha : Snd U Y a) : Snd U Y (.srt a) := snd_both (fun _ => rfl) (fun c e h => by cases e <;> first | rfl | cases h) fun {c X W e} k o q σ Z H env hE => by
  unfold chkE chk Chk.both at q
  dsimp only at q
  split at q
  · obtain ⟨q, q4⟩ := and2 q
    obtain ⟨q, q3⟩ := and2 q
    obtain ⟨q1, q2⟩ := and2 q
    cases of_decide_eq_true q1
    exact y_srt k.calm k.hu k.ndi (gl_of k q2).1 (k.bi .sorted) hE.zt q3 (ha.c k o q4 hE)
  · cases q
theorem snd_srs {a : E} (ha : Snd U Y a) : Snd U Y (.srs a) := snd_both (fun _ => rfl) (fun c e h => by cases e <;> first | rfl | cases h) fun {c X W e} k o q σ Z H env hE => by
  unfold chkE chk Chk.both at q
  dsimp only at q
  split at q
  · obtain ⟨q, q6⟩ := and2 q
    obtain ⟨q, q5⟩ := and2 q
    obtain ⟨q, q4⟩ := and2 q
    obtain ⟨q, q3⟩ := and2 q
    obtain ⟨q1, q2⟩ := and2 q
    cases of_decide_eq_true q1
    cases of_decide_eq_true q2
    exact y_srs k.calm k.hu (gl_of k q3).1 (k.bi .sorted) (gl_of k q4).1 k.set hE.zt q5 (ha.c k o q6 hE)
  · cases q
theorem snd_rvs {a : E} (ha : Snd U Y a) : Snd U Y (.rvs a) := by
  refine ⟨fun k o h => no h, fun k o h => no h, fun k o h => no h, fun k o h => no h, fun k o h => no h, fun k o h => no h, fun k o h => no h, fun k o h => no h, fun {c X W e} k o h σ Z H env hE => ?_, fun {c X W es} k o h σ Z H env hE => ?_, fun {c X W tg e} k o q σ Z H env hE => ?_⟩
  · cases e <;> cases h
  · match es, h with
    | [], h => cases h
    | [x], h => cases h
    | _ :: _ :: _, h => cases h
  · unfold chkI chk at q
    dsimp only at q
    split at q
    · obtain ⟨q, q4⟩ := and2 q
      obtain ⟨q, q3⟩ := and2 q
      obtain ⟨q1, q2⟩ := and2 q
      cases of_decide_eq_true q1
      exact y_rvs (gl_of k q2).1 k.rv q3 (ha.e k o q4 hE)
    · cases q
theorem snd_att (x : Str) {a : E} (ha : Snd U Y a) : Snd U Y (.att a x) := snd_both (fun _ => rfl) (fun c e h => by cases e <;> first | rfl | cases h) fun {c X W e} k o q σ Z H env hE => by
  cases e with
  | Attribute e1 nm pos =>
    obtain ⟨q, q4⟩ := and2 (show (decide (nm = x) && nsup e1 && decide (x ∈ c.F) && (chk a c).e e1) = true from q)
    obtain ⟨q, q3⟩ := and2 q
    obtain ⟨q1, q2⟩ := and2 q
    cases of_decide_eq_true q1
    have na := k.na _ (of_decide_eq_true q3)
    show Yl U W (RE U X.K Z) (Ew X (.Attribute e1 x pos)) σ H (pickA env a x (evE env a))
    have gen := y_att (pos := pos) q2 na (ha.e k o q4 hE)
    unfold pickA
    split
    · rename_i i
      split
      · rename_i t cn fs hg
        split
        · rename_i d hx
          cases e1 with
          | Name z p2 => exact y_attO q2 na (var_pe k q4) hE hg hx
          | _ => cases q4
        · exact Yl.bad
      · exact gen
    · exact gen
  | _ => cases q
theorem l_nil {c : Ck} {es : E} (h : chkL c es [] = true) : es = .nil := by
  cases es with
  | nil => rfl
  | _ => cases h
theorem snd_mth (j : Nat) (m : Str) (f : List D → Res D) {a es : E} (ha : Snd U Y a) (h : Snd U Y es) : Snd U Y (.mth j m f a es) := snd_both (fun _ => rfl) (fun c e h => by cases e <;> first | rfl | cases h) fun {c X W e} k o q σ Z H env hE => by
  unfold chkE chk Chk.both at q
  dsimp only at q
  split at q
  · obtain ⟨q, q8⟩ := and2 q
    obtain ⟨q, q7⟩ := and2 q
    obtain ⟨q, q6⟩ := and2 q
    obtain ⟨q, q5⟩ := and2 q
    obtain ⟨q, q4⟩ := and2 q
    obtain ⟨q, q3⟩ := and2 q
    obtain ⟨q1, q2⟩ := and2 q
    cases of_decide_eq_true q1
    have q2 := of_decide_eq_true q2
    obtain ⟨x, n, hx, M⟩ := (show FC U c X 1 j f from o.1)
    rw [q2] at hx
    cases hx
    refine y_mth k.tk M q3 q4 hE.zt q5 (of_decide_eq_true q6) (fun z => ?_) (fun ds hd => evL_len hd) (ha.e k o.2.1 q7 hE) (h.l k o.2.2 q8 hE)
    subst z
    cases l_nil q8
    rfl
  · cases q
theorem snd_mk (j : Nat) (f : List D → Res D) {es : E} (h : Snd U Y es) : Snd U Y (.mk j f es) := snd_both (fun _ => rfl) (fun c e h => by cases e <;> first | rfl | cases h) fun {c X W e} k o q σ Z H env hE => by
  unfold chkE chk Chk.both at q
  dsimp only at q
  split at q
  · obtain ⟨q, q4⟩ := and2 q
    obtain ⟨q, q3⟩ := and2 q
    obtain ⟨q1, q2⟩ := and2 q
    have q1 := of_decide_eq_true q1
    obtain ⟨x, m, hx, B⟩ := (show FC U c X 2 j f from o.1)
    rw [q1] at hx
    cases hx
    exact y_mk k.tk B (gl_of k q2).1 (gl_of k q2).2 hE.zt q3 (fun ds hd => evL_len hd) (h.l k o.2 q4 hE)
  · cases q
theorem snd_mt (m : Mt) {a es : E} (ha : Snd U Y a) (h : Snd U Y es) : Snd U Y (.mt m a es) := snd_both (fun _ => rfl) (fun c e h => by cases e <;> first | rfl | cases h) fun {c X W e} k o q σ Z H env hE => by
  unfold chkE chk Chk.both at q
  dsimp only at q
  split at q
  · obtain ⟨q, q6⟩ := and2 q
    obtain ⟨q, q5⟩ := and2 q
    obtain ⟨q, q4⟩ := and2 q
    obtain ⟨q, q3⟩ := and2 q
    obtain ⟨q1, q2⟩ := and2 q
    cases of_decide_eq_true q1
    exact y_mt m k.hu q2 q3 q4 (ha.e k o.1 q5 hE) (h.l k o.2 q6 hE)
  · cases q
theorem snd_ms (m : Ms) {a es : E} (ha : Snd U Y a) (h : Snd U Y es) : Snd U Y (.ms m a es) := snd_both (fun _ => rfl) (fun c e h => by cases e <;> first | rfl | cases h) fun {c X W e} k o q σ Z H env hE => by
  unfold chkE chk Chk.both at q
  dsimp only at q
  split at q
  · obtain ⟨q, q6⟩ := and2 q
    obtain ⟨q, q5⟩ := and2 q
    obtain ⟨q, q4⟩ := and2 q
    obtain ⟨q, q3⟩ := and2 q
    obtain ⟨q1, q2⟩ := and2 q
    cases of_decide_eq_true q1
    exact y_ms m hE.zt q2 q3 q4 (ha.e k o.1 q5 hE) (h.l k o.2 q6 hE)
  · cases q
/-! ### comprehensions -/
structure LcIs (c : Ck) (own : List Nat) (t : Tg) (it cn el : E) (elt tg iter : Expr) (ifs : List Expr) (scope : Scope) : Prop where
  top : c.inn = none
  blk : BlkOk c.N c.sc scope (ownN c.N own)
  set : nset iter = true
  ne : own ≠ []
  sub : ∀ i ∈ t.is, i ∈ own
  tg : chkTg (c.cmp scope) t tg = true
  it : chkI c it iter = true
  cn : chkP (c.cmp scope) cn ifs = true
  el : chkE (c.cmp scope) el elt = true
theorem lc_inv {c : Ck} {own : List Nat} {t : Tg} {it cn el : E} {e : Expr} (q : chkE c (.lc own t it cn el) e = true) : ∃ elt tg iter ifs scope pos, e = .ListComp elt [⟨tg, iter, ifs, 0⟩] scope pos ∧ LcIs c own t it cn el elt tg iter ifs scope := by
  unfold chkE chk Chk.both at q
  dsimp only at q
  split at q
  · obtain ⟨q, q8⟩ := and2 q
    obtain ⟨q, q7⟩ := and2 q
    obtain ⟨q, q6⟩ := and2 q
    obtain ⟨q, q5⟩ := and2 q
    obtain ⟨q, q4⟩ := and2 q
    obtain ⟨q, q3⟩ := and2 q
    obtain ⟨q, q2⟩ := and2 q
    obtain ⟨q0, q1⟩ := and2 q
    refine ⟨_, _, _, _, _, _, rfl, Option.isNone_iff_eq_none.mp q0, blkOk_by q1, q2, ?_, ?_, q5, q6, q7, q8⟩
    · intro z
      rw [z] at q3
      cases q3
    · intro i hi
      have z := List.all_eq_true.mp q4 i hi
      simpa using z
  · cases q
theorem lc_fr {own : List Nat} {t : Tg} {it cn el : E} (hi : Snd U Y it) (hc : Snd U Y cn) (he : Snd U Y el) {c : Ck} {X : Cx} {W : WX} {elt tg iter : Expr} {ifs : List Expr} {scope : Scope} (k : Cok U c X W) (o : (E.lc own t it cn el).ok U c X) (I : LcIs c own t it cn el elt tg iter ifs scope)
    {σ : L2.St} {Z : List Addr} {H : Hp} {env : Env} (hE : EnvOk U X.K Y Z H σ env) : Fr U W X.K Z (Lw X W scope (ownN c.N own) t tg iter elt ifs) σ H (evE env (.lc own t it cn el)) := by
  have w := ownN_snd c.N own
  have r := f_lcT (U := U) (W := W) (X := X) (Y := Y) (Z := Z) (σ := σ) (H := H) (scope := scope) (own := ownN c.N own) (tg := tg) (iter := iter) (elt := elt) (ifs := ifs) (t := t) (env := env) (c := cn) (e := el) (ri := evI env it) hE (hi.i k o.1 I.it hE)
    (by rw [w]; exact I.ne) (by rw [w]; exact I.sub)
    (fun σ' H' Z' env' hE' H1 e1 Q q s H0 C cl fp => hc.p (cok_blk k scope σ s H0 C cl fp) o.2.1 I.cn (σ := σ') (Z := Z') (H := H') (env := env') hE' H1 e1 Q q)
    (fun σ' H' Z' env' hE' H1 e1 Q q s H0 C cl fp => he.e (cok_blk k scope σ s H0 C cl fp) o.2.2 I.el (σ := σ') (Z := Z') (H := H') (env := env') hE' H1 e1 Q q)
  rw [w] at r
  unfold Lw
  rw [w]
  exact r
theorem lc_pg {c : Ck} {X : Cx} {W : WX} {own : List Nat} {t : Tg} {it cn el : E} {elt tg iter : Expr} {ifs : List Expr} {scope : Scope} (k : Cok U c X W) (I : LcIs c own t it cn el elt tg iter ifs scope) (σ : L2.St) (s : Shared) (H : Hp) (C : Addr) (cl : List (Str × Addr)) (fp : List Addr) :
    PG (blkW X (Wc W σ) s H scope (compEnvC scope cl C X.env) fp) tg (t.g X.K) := tg_pg (cok_blk k scope σ s H C cl fp) I.tg
theorem lc_blk {c : Ck} {X : Cx} {W : WX} {own : List Nat} {t : Tg} {it cn el : E} {elt tg iter : Expr} {ifs : List Expr} {scope : Scope} (k : Cok U c X W) (I : LcIs c own t it cn el elt tg iter ifs scope) : BlkOk X.N X.env.scope scope (ownN c.N own) := by
  rw [k.N, k.sc]
  exact I.blk
theorem lc_list {own : List Nat} {t : Tg} {it cn el : E} {env : Env} (d : D) (h : evE env (.lc own t it cn el) = .ok d) : ∃ ds, d = .list ds := by
  obtain ⟨ds, _, h⟩ := bind_ok_inv (show (evI env it).bind _ = .ok d from h)
  obtain ⟨_, h⟩ := req_ok h
  obtain ⟨ys, _, h⟩ := bind_ok_inv h
  exact ⟨ys, (ok_inj h).symm⟩
theorem lc_ew {own : List Nat} {t : Tg} {it cn el : E} (hi : Snd U Y it) (hc : Snd U Y cn) (he : Snd U Y el) {c : Ck} {X : Cx} {W : WX} {e : Expr} (k : Cok U c X W) (o : (E.lc own t it cn el).ok U c X) (q : chkE c (.lc own t it cn el) e = true)
    {σ : L2.St} {Z : List Addr} {H : Hp} {env : Env} (hE : EnvOk U X.K Y Z H σ env) : Fr U W X.K Z (Ew X e) σ H (evE env (.lc own t it cn el)) := by
  obtain ⟨elt, tg, iter, ifs, scope, pos, rfl, I⟩ := lc_inv q
  exact Fr.imp (X := X) (fun _ _ _ q => ew_of (pe_lcw k.calm (k.fr I.top).1 (k.fr I.top).2 k.tk (nd_of k) (lc_blk k I) (lc_pg k I) I.set) q) (lc_fr hi hc he k o I hE)
theorem snd_lc (own : List Nat) (t : Tg) {it cn el : E} (hi : Snd U Y it) (hc : Snd U Y cn) (he : Snd U Y el) : Snd U Y (.lc own t it cn el) := snd_both (fun _ => rfl) (fun c e h => by cases e <;> first | rfl | cases h) fun {c X W e} k o q σ Z H env hE =>
  Fr.yl hE.zt lc_list (lc_ew hi hc he k o q hE)
theorem rng_seq {b : Bool} {ds : List D} : (req b (.ok (.list ds)) : Res D).bind seqOf = req b (.ok ds) := by cases b <;> rfl
theorem asInt_back (r : Res Int) : (r.bind fun n => (.ok (.int n) : Res D)).bind asInt = r := by cases r <;> rfl
theorem y_N {W : WX} {K : PySem.W.Frag} {Z : List Addr} {te : TE} {σ : L2.St} {H : Hp} {env : Env} {e : E} (h : Ye U W K Y te fun env => evE env e) (hE : EnvOk U K Y Z H σ env) : Yl U W (RE U K Z) te σ H ((pickN (evE env e) (evE env.frz e)).bind fun n => .ok (.int n)) := by
  have h1 : Yl U W (RE U K Y) te σ H (evE env.frz e) := h σ Y H env.frz hE.frz
  have h2 : Yl U W (RE U K Z) te σ H (evE env e) := h σ Z H env hE
  cases hr : evE env e with
  | ok d =>
    rw [hr] at h2
    cases d <;> first | exact h2 | exact fun H1 e1 Q q => (False.elim q)
  | exc c => rw [hr] at h2; exact h2
  | bad =>
    cases hr1 : evE env.frz e with
    | ok d =>
      rw [hr1] at h1
      cases d with
      | int n => exact fun H1 e1 Q q => h1 H1 e1 Q fun b H2 e2 r => q b H2 e2 (r.scal rfl _)
      | _ => exact fun H1 e1 Q q => (False.elim q)
    | exc c => rw [hr1] at h1; exact fun H1 e1 Q q => h1 H1 e1 Q q
    | bad => exact fun H1 e1 Q q => (False.elim q)
theorem snd_rng1 {a : E} (ha : Snd U Y a) : Snd U Y (.rng1 a) := by
  refine ⟨fun k o h => no h, fun k o h => no h, fun k o h => no h, fun k o h => no h, fun k o h => no h, fun k o h => no h, fun k o h => no h, fun k o h => no h, fun {c X W e} k o h σ Z H env hE => ?_, fun {c X W es} k o h σ Z H env hE => ?_, fun {c X W tg e} k o q σ Z H env hE => ?_⟩
  · cases e <;> cases h
  · match es, h with
    | [], h => cases h
    | [x], h => cases h
    | _ :: _ :: _, h => cases h
  · unfold chkI chk at q
    dsimp only at q
    split at q
    · obtain ⟨q, q4⟩ := and2 q
      obtain ⟨q, q3⟩ := and2 q
      obtain ⟨q1, q2⟩ := and2 q
      cases of_decide_eq_true q1
      have z : evI env (.rng1 a) = ((pickN (evE env a) (evE env.frz a)).bind fun n => .ok (.int n)).bind fun x => (asInt x).bind fun n => req (decide (-1000000 ≤ n) && decide (n ≤ 1000000)) (.ok (rngD 0 n)) := by
        show ((pickN (evE env a) (evE env.frz a)).bind fun n => req (decide (-1000000 ≤ n) && decide (n ≤ 1000000)) (.ok (.list (rngD 0 n)))).bind seqOf = _
        simp only [bind_assoc, rng_seq, bind_ok, asInt]
      rw [z]
      exact y_rng1 (gl_of k q2).1 k.rg q3 (y_N (fun σ Z H env hE => ha.e k o q4 hE) hE)
    · cases q
theorem snd_rng2 {a b : E} (ha : Snd U Y a) (hb : Snd U Y b) : Snd U Y (.rng2 a b) := by
  refine ⟨fun k o h => no h, fun k o h => no h, fun k o h => no h, fun k o h => no h, fun k o h => no h, fun k o h => no h, fun k o h => no h, fun k o h => no h, fun {c X W e} k o h σ Z H env hE => ?_, fun {c X W es} k o h σ Z H env hE => ?_, fun {c X W tg e} k o q σ Z H env hE => ?_⟩
  · cases e <;> cases h
  · match es, h with
    | [], h => cases h
    | [x], h => cases h
    | _ :: _ :: _, h => cases h
  · unfold chkI chk at q
    dsimp only at q
    split at q
    · obtain ⟨q, q6⟩ := and2 q
      obtain ⟨q, q5⟩ := and2 q
      obtain ⟨q, q4⟩ := and2 q
      obtain ⟨q, q3⟩ := and2 q
      obtain ⟨q1, q2⟩ := and2 q
      cases of_decide_eq_true q1
      have z : evI env (.rng2 a b) = ((pickN (evE env a) (evE env.frz a)).bind fun n => .ok (.int n)).bind fun x => (asInt x).bind fun m => ((pickN (evE env b) (evE env.frz b)).bind fun n => .ok (.int n)).bind fun y => (asInt y).bind fun n => req (decide (-1000000 ≤ m) && decide (m ≤ 1000000) && decide (-1000000 ≤ n) && decide (n ≤ 1000000)) (.ok (rngD m n)) := by
        show ((pickN (evE env a) (evE env.frz a)).bind fun m => (pickN (evE env b) (evE env.frz b)).bind fun n => req (decide (-1000000 ≤ m) && decide (m ≤ 1000000) && decide (-1000000 ≤ n) && decide (n ≤ 1000000)) (.ok (.list (rngD m n)))).bind seqOf = _
        simp only [bind_assoc, rng_seq, bind_ok, asInt]
      rw [z]
      exact y_rng2 (gl_of k q2).1 k.rg q3 q4 (y_N (fun σ Z H env hE => ha.e k o.1 q5 hE) hE) (fun H1 e1 => y_N (fun σ Z H env hE => hb.e k o.2 q6 hE) hE H1 e1)
    · cases q
/-- the checker of expressions is sound -/
theorem snd_all (i : E) : Snd U Y i := by
  induction i with
  | var i => exact snd_var i
  | int n => exact snd_int n
  | str s => exact snd_str s
  | bl b => exact snd_bl b
  | non => exact snd_non
  | glb x d => exact snd_glb x d
  | bin o a b ha hb => exact snd_bin o ha hb
  | neg a ha => exact snd_neg ha
  | not a ha => exact snd_not ha
  | cmp o a b ha hb => exact snd_cmp o ha hb
  | ch2 o p a b c ha hb hc => exact snd_ch2 o p ha hb hc
  | ch3 o p q a b c d ha hb hc hd => exact snd_ch3 o p q ha hb hc hd
  | and es h => exact snd_and h
  | or es h => exact snd_or h
  | ite c a b hc ha hb => exact snd_ite hc ha hb
  | nil => exact snd_nil
  | cons a b ha hb => exact snd_cons ha hb
  | tup es h => exact snd_tup h
  | lst es h => exact snd_lst h
  | ix a i ha hi => exact snd_ix ha hi
  | nop => exact snd_nop
  | sl a lo hi ha h1 h2 => exact snd_sl ha h1 h2
  | rev a ha => exact snd_rev ha
  | bi k es h => exact snd_bi k h
  | maxd a d ha hd => exact snd_maxd ha hd
  | lrg a ha => exact snd_lrg ha
  | isi a t ha => exact snd_isi t ha
  | call k f es h => exact snd_call k f h
  | att a x ha => exact snd_att x ha
  | ind n a b ha hb => exact snd_ind n ha hb
  | srt a ha => exact snd_srt ha
  | srs a ha => exact snd_srs ha
  | rvs a ha => exact snd_rvs ha
  | mth k m f a es ha h => exact snd_mth k m f ha h
  | mk k f es h => exact snd_mk k f h
  | mt m a es ha h => exact snd_mt m ha h
  | ms m a es ha h => exact snd_ms m ha h
  | lc own t it c e hi hc he => exact snd_lc own t hi hc he
  | rng1 a ha => exact snd_rng1 ha
  | rng2 a b ha hb => exact snd_rng2 ha hb
end
end Rwl

set_option Elab.async false
set_option linter.all false
set_option maxRecDepth 100000
set_option maxHeartbeats 2000000
/-! Rwl, part O: the checker of statements; that it is sound; a def by its checked body. -/
namespace Rwl
open PySem PySem.Spec PyProof.Rows L2 Evl

def nlc : Expr → Bool
  | .ListComp _ _ _ _ => false
  | .SetComp _ _ _ _ => false
  | .DictComp _ _ _ _ _ => false
  | _ => true
def ntup : Expr → Bool
  | .Tuple _ _ _ => false
  | _ => true
theorem sw_plain {v : Expr} {t : Option Expr} {l : Nat} {env : PySem.Env} (h : nlc v = true) : swapsWith v t l env = pure false := by
  cases v <;> first | rfl | cases h
theorem sws_plain {v t : Expr} {l : Nat} {env : PySem.Env} (h : nlc v = true) : swapsWithSole [t] v l env = pure false := sw_plain h
theorem sub_asg {o i : Expr} {pos : Pos} {env : PySem.Env} (h : nsl i = true) (v : Value) : assign (.Subscript o i pos) env v = (do
      let ov ← holding [v] (eval o env)
      let iv ← holding [v, ov] (eval i env)
      standAt pos
      holding [v, ov, iv] (setItem ov iv v)
      release [v, ov, iv] []) := by
  cases i <;> first | rfl | cases h
theorem ss_none {tg v : Expr} {env : PySem.Env} (h : ntup v = true) : swappedStores [tg] v env = pure none := by
  cases v <;> first | (cases tg <;> rfl) | cases h
theorem ss_sub {o i v : Expr} {p : Pos} {env : PySem.Env} : swappedStores [.Subscript o i p] v env = pure none := by
  cases v <;> rfl
structure ChkS where
  s : Stmt → Bool := fun _ => false
  b : List Stmt → Bool := fun _ => false
/-- a fresh list -/
def chkF (c : Ck) (i : E) (e : Expr) : Bool := match i with
  | .lst _ => chkE c i e
  | .lrg _ => chkE c i e
  | .bi .list (.cons _ .nil) => chkE c i e
  | .bin .mul _ _ => chkE c i e
  | .lc _ _ _ _ _ => chkE c i e
  | .sl _ _ _ => chkE c i e
  | _ => false
/-- s.x, an attribute of the object of slot i -/
def Ck.fld (c : Ck) (i : Nat) (x : Str) (e : Expr) : Bool := match e with
  | .Attribute (.Name s _) y _ => decide (y = x) && c.var i s && decide (x ∈ c.F)
  | _ => false
def Ck.nam (c : Ck) (i : Nat) (e : Expr) : Bool := match e with
  | .Name s _ => c.var i s
  | _ => false
/-- h[n] -/
def Ck.hix (c : Ck) (i : Nat) (n : Int) (e : Expr) : Bool := match e with
  | .Subscript (.Name s _) (.Constant (.int m) _ _) _ => decide (m = n) && c.var i s
  | _ => false
def Ck.hix2 (c : Ck) (i : Nat) (e : Expr) : Bool := match e with
  | .Subscript o (.Constant (.int 1) _ _) _ => c.hix i 0 o
  | _ => false
/-- what is not folded ahead -/
def npar (e : Expr) : Bool := nst e && !foldedForSure 8 e && !constantsAlone 8 e
def chks : S → Ck → ChkS
  | .nil, _ => { b := fun ss => match ss with
    | [] => true
    | _ => false }
  | .cons s r, c => { b := match s with
    | .frz => (chks r c).b
    | .frz1 _ => (chks r c).b
    | _ => fun ss => match ss with
      | st :: rest => (chks s c).s st && (chks r c).b rest
      | [] => false }
  | .asg i e, c => { s := fun st => match st with
    | .Assign [.Name x _] v _ => c.loc i x && chkE c e v
    | _ => false }
  | .asgT is e, c => { s := fun st => match st with
    | .Assign [.Tuple es _ _] v _ => chkNames c is es && nlc v && ntup v && chkE c e v
    | _ => false }
  | .new i e, c => { s := fun st => match st with
    | .Assign [.Name x _] v _ => c.loc i x && chkF c e v
    | _ => false }
  | .newd i, c => { s := fun st => match st with
    | .Assign [.Name x _] (.Dict [] [] _) _ => c.loc i x
    | _ => false }
  | .app i e, c => { s := fun st => match st with
    | .Expr (.Call (.Attribute (.Name x _) nm ap) [v] [] pos) _ => decide (nm = ("append" : Str)) && c.var i x && (ap.endLine == pos.line) && nst v && chkE c e v
    | _ => false }
  | .ext i e, c => { s := fun st => match st with
    | .Expr (.Call (.Attribute (.Name x _) nm ap) [v] [] pos) _ => decide (nm = ("extend" : Str)) && c.var i x && (ap.endLine == pos.line) && nst v && chkE c e v
    | _ => false }
  | .seti i k e, c => { s := fun st => match st with
    | .Assign [.Subscript (.Name x _) y _] v _ => c.var i x && nlc v && nsl y && chkE c k y && chkE c e v
    | _ => false }
  | .setd i k e, c => { s := fun st => match st with
    | .Assign [.Subscript (.Name x _) y _] v _ => c.var i x && nlc v && chkE c k y && chkE c e v
    | _ => false }
  | .appPop i j e, c => { s := fun st => match st with
    | .Expr (.Call (.Attribute (.Name x _) nm ap) [.Call (.Attribute (.Name y _) nm2 ap2) [v] [] pos2] [] pos) _ => decide (nm = ("append" : Str)) && decide (nm2 = ("pop" : Str)) && c.var i x && c.var j y && (ap.endLine == pos.line) && (ap2.endLine == pos2.line) && nst v && chkE c e v
    | _ => false }
  | .seta i x e, c => { s := fun st => match st with
    | .Assign [.Attribute (.Name y _) nm _] v _ => decide (nm = x) && decide (x ∈ c.F) && c.var i y && nlc v && chkE c e v
    | _ => false }
  | .newn i, c => { s := fun st => match st with
    | .Assign [.Name x _] (.Dict [] [] _) _ => c.loc i x
    | _ => false }
  | .newk i k e, c => { s := fun st => match st with
    | .Assign [.Name x _] (.Dict [some y] [v] _) _ => c.loc i x && chkE c k y && chkE c e v
    | _ => false }
  | .setn i k e, c => { s := fun st => match st with
    | .Assign [.Subscript (.Name x _) y _] v _ => c.var i x && nlc v && nsl y && chkE c k y && chkE c e v
    | _ => false }
  | .newr i own t it, c => { s := fun st => match st with
    | .Assign [.Name x _] (.ListComp (.List [] _) [⟨tg, iter, [], 0⟩] scope _) _ => c.loc i x && c.inn.isNone && blkC c.N c.sc scope (ownN c.N own) && nset iter && !own.isEmpty && own.contains t && chkTg (c.cmp scope) ⟨false, [t]⟩ tg && chkI c it iter
    | _ => false }
  | .appr i k e, c => { s := fun st => match st with
    | .Expr (.Call (.Attribute (.Subscript (.Name x _) y _) nm ap) [v] [] pos) _ => decide (nm = ("append" : Str)) && c.var i x && (ap.endLine == pos.line) && nsl y && nst v && chkE c k y && chkE c e v
    | _ => false }
  | .forp t j k m _ a b, c => { s := fun st => match st with
    | .For tg (.Call (.Attribute o nm ap) [.Call (.Attribute (.Name y _) nm2 ap2) [] [] pos2] [] pos) body [] _ => decide (nm = m) && decide (nm2 = ("pop" : Str)) && decide (c.M[k]? = some (m, 1)) && nsup o && (ap.endLine == pos.line) && (ap2.endLine == pos2.line) && chkTg c t tg && c.var j y && chkE c a o && (chks b c).b body
    | _ => false }
  | .drop e, c => { s := fun st => match st with
    | .Expr v _ => nlc v && chkE c e v
    | _ => false }
  | .ifs t a b, c => { s := fun st => match st with
    | .If x y z _ => chkT c t x && (chks a c).b y && (chks b c).b z
    | _ => false }
  | .forr t it b, c => { s := fun st => match st with
    | .For tg iter body [] _ => nset iter && chkTg c t tg && chkI c it iter && (chks b c).b body
    | _ => false }
  | .whil _ t b, c => { s := fun st => match st with
    | .While x body [] _ => chkT c t x && (chks b c).b body
    | _ => false }
  | .ret e, c => { s := fun st => match st with
    | .Return (some v) _ => chkE c e v
    | _ => false }
  | .rai k, c => { s := fun st => match st with
    | .Raise (some (.Call (.Name x _) [.Constant (.str _) _ _] [] _)) none _ => decide (k < 5) && decide (x = (Ty.cls k).nm) && c.gl x
    | _ => false }
  | .brk, _ => { s := fun st => match st with
    | .Break _ => true
    | _ => false }
  | .tryk b k j i, c => { s := fun st => match st with
    | .Try body [.ExceptHandler (some (.Name x _)) (some n) [.Assign [.Name m _] (.Name n2 _) _] _] [] [] _ => decide (k < 6) && decide (x = (Ty.cls k).nm) && c.gl x && decide (c.N[i]? = some n) && decide (c.sc.names.lookup n = some .local) &&
        decide (c.N[j]? = some m) && decide (c.sc.names.lookup m = some .local) && decide (n2 = n) && !(n == ("__debug__" : Str)) && !(n == ("__classdict__" : Str)) && (i != j) && (chks b c).b body
    | _ => false }
  | .frz, _ => {}
  | .retf i, c => { s := fun st => match st with
    | .Return (some (.Name x _)) _ => c.var i x
    | _ => false }
  | .rete e, c => { s := fun st => match st with
    | .Return (some v) _ => chkF c e v
    | _ => false }
  | .retc k _ es, c => { s := fun st => match st with
    | .Return (some (.Call (.Name x _) (a :: as) [] _)) _ => decide (c.T[k]? = some (x, es.len)) && c.gl x && (a :: as).all nst && chkL c es (a :: as)
    | _ => false }
  | .retm e, c => { s := fun st => match st with
    | .Return (some v) _ => chkE c e v
    | _ => false }
  | .dapp k m _ a e, c => { s := fun st => match st with
    | .Expr (.Call (.Attribute (.Call (.Attribute o nm ap) [] [] p1) nm2 ap2) [v] [] pos) _ => decide (nm = m) && decide (nm2 = ("append" : Str)) && decide (c.M[k]? = some (m, 0)) && nsup o && (ap.endLine == p1.line) && (ap2.endLine == pos.line) && nst v && chkE c a o && chkE c e v
    | _ => false }
  | .callm i k m _ es, c => { s := fun st => match st with
    | .Expr (.Call (.Attribute o nm ap) as [] pos) _ => decide (nm = m) && decide (c.M[k]? = some (m, es.len)) && c.nam i o && (ap.endLine == pos.line) && as.all nst && decide (as.length < 29) && chkL c es as
    | _ => false }
  | .ifx me i k x _ es e a b, c => { s := fun st => match st with
    | .If (.Compare ce [.NotEq] [y] _) body els _ => nset y && chkE c e y && (chks a c).b body && (chks b c).b els && (match me with
      | true => match ce with
        | .Call (.Attribute o nm ap) as [] pos => decide (nm = x) && decide (c.M[k]? = some (x, es.len)) && c.nam i o && (ap.endLine == pos.line) && as.all nst && decide (as.length < 29) && chkL c es as
        | _ => false
      | false => match ce with
        | .Call (.Name g _) (o :: as) [] _ => decide (g = x) && decide (c.T[k]? = some (x, es.len + 1)) && c.gl g && c.nam i o && (o :: as).all nst && chkL c es as
        | _ => false)
    | _ => false }
  | .frz1 _, _ => {}
  | .fapp i x y, c => { s := fun st => match st with
    | .Expr (.Call (.Attribute o nm ap) [.Call (.Name l _) [o2] [] _] [] pos) _ => decide (nm = ("append" : Str)) && decide (l = ("list" : Str)) && c.gl l && c.fld i x o && c.fld i y o2 && nsup o && nst o2 && (ap.endLine == pos.line)
    | _ => false }
  | .fswp i x a b, c => { s := fun st => match st with
    | .Assign [.Tuple [.Subscript o1 a1 _, .Subscript o2 b1 _] _ _] (.Tuple [.Subscript o3 b2 _, .Subscript o4 a2 _] _ _) _ => c.fld i x o1 && c.fld i x o2 && c.fld i x o3 && c.fld i x o4 && c.nam a a1 && c.nam b b1 && c.nam b b2 && c.nam a a2
    | _ => false }
  | .fins i x a b, c => { s := fun st => match st with
    | .Expr (.Call (.Attribute o nm ap) [b1, .Call (.Attribute o2 nm2 ap2) [a1] [] pos2] [] pos) _ => decide (nm = ("insert" : Str)) && decide (nm2 = ("pop" : Str)) && c.fld i x o && c.fld i x o2 && c.nam a a1 && c.nam b b1 && (ap.endLine == pos.line) && (ap2.endLine == pos2.line)
    | _ => false }
  | .frev i x a b, c => { s := fun st => match st with
    | .Assign [.Subscript o1 (.Slice (some a1) (some b1) none _) _] (.Subscript (.Subscript o2 (.Slice (some a2) (some b2) none _) _) (.Slice none none (some (.UnaryOp .USub (.Constant (.int 1) _ _) _)) _) _) _ => c.fld i x o1 && c.fld i x o2 && c.nam a a1 && c.nam b b1 && c.nam a a2 && c.nam b b2
    | _ => false }
  | .fpop i x y, c => { s := fun st => match st with
    | .Assign [.Attribute (.Name s _) y1 _] (.Call (.Attribute o nm ap) [] [] pos) _ => decide (nm = ("pop" : Str)) && decide (y1 = y) && c.var i s && decide (y ∈ c.F) && c.fld i x o && (ap.endLine == pos.line)
    | _ => false }
  | .swp i a b, c => { s := fun st => match st with
    | .Assign [.Tuple [.Subscript o1 a1 _, .Subscript o2 b1 _] _ _] (.Tuple [.Subscript o3 b2 _, .Subscript o4 a2 _] _ _) _ => c.nam i o1 && c.nam i o2 && c.nam i o3 && c.nam i o4 && c.nam a a1 && c.nam b b1 && c.nam b b2 && c.nam a a2
    | _ => false }
  | .par i j a b, c => { s := fun st => match st with
    | .Assign [.Tuple [.Name x px, .Name y py] _ _] (.Tuple [u, v] _ _) _ => decide (c.N[i]? = some x) && decide (c.N[j]? = some y) && (i != j) && decide (c.sc.names.lookup x = some .local) && decide (c.sc.names.lookup y = some .local) && (py.line == px.line) && npar u && npar v && chkE c a u && chkE c b v
    | _ => false }
  | .setr i x e, c => { s := fun st => match st with
    | .Assign [.Attribute (.Name s _) y _] v _ => decide (y = x) && c.var i s && decide (x ∈ c.F) && nlc v && chkF c e v
    | _ => false }
  | .seto i x, c => { s := fun st => match st with
    | .Assign [.Attribute (.Name s _) y _] (.List [] _) _ => decide (y = x) && c.var i s && decide (x ∈ c.F)
    | _ => false }
  | .hnew i w r, c => { s := fun st => match st with
    | .Assign [.Name h _] (.Tuple [.Tuple [w1, .Call (.Name l1 _) [w2] [] _] _ _, .Call (.Name l2 _) [r1] [] _] _ _) _ => c.loc i h && c.hix w 0 w1 && c.hix w 1 w2 && c.nam r r1 && decide (l1 = ("list" : Str)) && decide (l2 = ("list" : Str)) && c.gl l1 && c.gl l2
    | _ => false }
  | .hmk i h k _, c => { s := fun st => match st with
    | .Assign [.Name o _] (.Call (.Name cl _) [h1, h2] [] _) _ => c.loc i o && decide (c.B[k]? = some (cl, 2)) && c.gl cl && c.hix h 0 h1 && c.hix h 1 h2
    | _ => false }
  | .happ i z e, c => { s := fun st => match st with
    | .Expr (.Call (.Attribute o nm ap) [v] [] pos) _ => decide (nm = ("append" : Str)) && (match z with
      | true => c.hix2 i o
      | false => c.hix i 1 o) && (ap.endLine == pos.line) && nst v && chkE c e v
    | _ => false }
/-- what a body's context must bear -/
structure CokS (U : Ux) (c : Ck) (X : Cx) (W : WX) : Prop extends Cok U c X W where
  kind : X.env.scope.kind = .function
  stack : X.stack = X.env :: X.outer
  frame : X.env.frame = some X.env.locals
  ex : X.ex = []
  ps : PassesOwn (model X.prog X.w) X.A X.env X.xe
  rai : ∀ k, k < 5 → ∃ C, U.ec k = some C ∧ ∃ (B newId initId : String) (bmB : List Value), ExcBaseFacts B newId initId bmB ∧ PySem.W.excIn X.K C bmB newId = true ∧ X.mg (Ty.cls k).nm = some (.ref C) ∧ PySem.W.keepIn X.K (.ref C) = true ∧ Raises X (.ref C)
  exm : ∀ k, k < 6 → ∃ cv, X.mg (Ty.cls k).nm = some cv ∧ ∀ c', c' < 5 → ∃ C, U.ec c' = some C ∧ PySem.W.exmOne X.K (.ref C) cv = some (below c' k)
def S.cl (pc : Nat → Nat → (List D → Res D) → Prop) (pg : Str → D → Prop) (pm : Nat → Nat → Fm → Prop) : S → Prop
  | .cons s r => s.cl pc pg pm ∧ r.cl pc pg pm
  | .asg _ e => e.cl pc pg
  | .asgT _ e => e.cl pc pg
  | .new _ e => e.cl pc pg
  | .app _ e => e.cl pc pg
  | .ext _ e => e.cl pc pg
  | .seti _ k e => k.cl pc pg ∧ e.cl pc pg
  | .setd _ k e => k.cl pc pg ∧ e.cl pc pg
  | .appPop _ _ e => e.cl pc pg
  | .seta _ _ e => e.cl pc pg
  | .newk _ k e => k.cl pc pg ∧ e.cl pc pg
  | .setn _ k e => k.cl pc pg ∧ e.cl pc pg
  | .newr _ _ _ it => it.cl pc pg
  | .appr _ k e => k.cl pc pg ∧ e.cl pc pg
  | .forp _ _ k _ f a b => pc 1 k f ∧ a.cl pc pg ∧ b.cl pc pg pm
  | .drop e => e.cl pc pg
  | .ifs c a b => c.cl pc pg ∧ a.cl pc pg pm ∧ b.cl pc pg pm
  | .forr _ it b => it.cl pc pg ∧ b.cl pc pg pm
  | .whil _ c b => c.cl pc pg ∧ b.cl pc pg pm
  | .ret e => e.cl pc pg
  | .tryk b _ _ _ => b.cl pc pg pm
  | .rete e => e.cl pc pg
  | .retc k f es => pc 3 k f ∧ es.cl pc pg
  | .retm e => e.cl pc pg
  | .dapp k _ f a e => pc 4 k f ∧ a.cl pc pg ∧ e.cl pc pg
  | .callm _ k _ f es => pm 0 k f ∧ es.cl pc pg
  | .ifx me _ k _ f es e a b => pm (match me with
    | true => 0
    | false => 1) k f ∧ es.cl pc pg ∧ e.cl pc pg ∧ a.cl pc pg pm ∧ b.cl pc pg pm
  | .par _ _ a b => a.cl pc pg ∧ b.cl pc pg
  | .setr _ _ e => e.cl pc pg
  | .hmk _ _ k f => pm 2 k f
  | .happ _ _ e => e.cl pc pg
  | _ => True
section
variable {U : Ux} {Y : List Addr} {X : Cx} {W : WX} {c : Ck}
theorem ye_of (i : E) {e : Expr} (k : Cok U c X W) (o : i.ok U c X) (h : chkE c i e = true) : Ye U W X.K Y (Ew X e) fun env => evE env i := fun σ Z H env hE => (snd_all i).e k o h hE
theorem fr_of (i : E) {v : Expr} (k : Cok U c X W) (o : i.ok U c X) (hf : chkF c i v = true) : ∀ σ Z H env, EnvOk U X.K Y Z H σ env → Fr U W X.K Z (Ew X v) σ H (evE env i) := fun σ Z H env hE => by
  unfold chkF at hf
  split at hf
  · exact f_lstE (snd_all _) k o hf hE
  · rename_i i a0
    obtain ⟨_, _, _, _, _, rfl, q3, q4, q5, q6⟩ := lrg_inv hf
    exact f_lrg k.calm (gl_of k q3).1 (k.bi .list) (gl_of k q4).1 k.rg q5 ((snd_all a0).e k o q6 hE)
  · obtain ⟨p, a, as, pos, rfl, h2, h3, h4⟩ := bi_inv hf
    rename_i i a0
    obtain ⟨e2, r2, e3, n2, q2, q3⟩ := cons_l h4
    cases e3
    cases nil_l q3
    have r := f_list (p := p) (pos := pos) (gl_of k h2).1 (k.bi .list) n2 ((snd_all a0).e k o.1 q2 hE)
    have z : evE env (.bi .list (.cons a0 .nil)) = (evE env a0).bind fun x => bi .list [x] := by
      show ((evE env a0).bind fun x => (Res.ok []).bind fun xs => Res.ok (x :: xs)).bind (bi .list) = _
      rw [bind_assoc]
      rfl
    rw [z]
    exact r
  · rename_i i a b
    cases v with
    | BinOp x op y pos =>
      obtain ⟨hf, h3⟩ := and2 (show (decide (op = O2.mul.op) && chkE c a x && chkE c b y) = true from hf)
      obtain ⟨h1, h2⟩ := and2 hf
      cases of_decide_eq_true h1
      exact f_mul hE.zt ((snd_all a).e k o.1 h2 hE) ((snd_all b).e k o.2 h3 hE)
    | _ => cases hf
  · exact lc_ew (snd_all _) (snd_all _) (snd_all _) k o hf hE
  · rename_i i a lo hi
    cases v with
    | Subscript x s pos =>
      cases s with
      | Slice l h st p2 =>
        cases st with
        | none =>
          obtain ⟨q, q3⟩ := and2 (show ((chk a c).e x && pickCO lo (chk lo c).e l && pickCO hi (chk hi c).e h) = true from hf)
          obtain ⟨q1, q2⟩ := and2 q
          have r := f_sl (p2 := p2) (pos := pos) ((snd_all a).c k o.1 q1 hE) ((snd_all lo).o k o.2.1 q2 hE) ((snd_all hi).o k o.2.2 q3 hE)
          intro H1 e1 Q q
          refine r H1 e1 Q ?_
          have q : FinF U W X.K Z σ H1 Q ((evC env a).bind fun x => (evO env lo).bind fun l => (evO env hi).bind fun h => slD l h x) := q
          cases h1 : evC env a with
          | ok d =>
            rw [h1] at q
            cases h2 : evO env lo with
            | ok d2 =>
              rw [h2] at q
              cases h3 : evO env hi with
              | ok d3 =>
                rw [h3] at q
                cases d with
                | list xs => exact q
                | str x =>
                  have q : FinF U W X.K Z σ H1 Q (req (decide (x.length ≤ lim)) (.ok (.str ⟨(cut x.cps.toList d2 d3).toArray⟩))) := q
                  cases hd : decide (x.length ≤ lim) <;> rw [hd] at q <;> exact (show False from q).elim
                | _ => exact (show False from q).elim
              | exc c' => rw [h3] at q; exact q
              | bad => rw [h3] at q; exact q
            | exc c' => rw [h2] at q; exact q
            | bad => rw [h2] at q; exact q
          | exc c' => rw [h1] at q; exact q
          | bad => rw [h1] at q; exact q
        | some _ => cases hf
      | _ => cases hf
    | _ => cases hf
  · cases hf
/-- name = value: the rule, with its reading -/
theorem asg_ps (i : E) {n : Nat} {x : Str} {p sp : Pos} {v : Expr} (k : CokS U c X W) (o : i.ok U c X) (hx : c.loc n x = true) (h : chkE c i v = true) :
    ∃ te, PS X (.Assign [.Name x p] v sp) (tAsg te (gName n)) ∧ Ye U W X.K Y te (fun env => evE env i) ∧ (chkF c i v = true → ∀ σ Z H env, EnvOk U X.K Y Z H σ env → Fr U W X.K Z te σ H (evE env i)) := by
  obtain ⟨l1, l2, l3⟩ := loc_of k.toCok hx
  have plain : swapsWith v (some (.Name x p)) sp.line X.env = pure false → PS X (.Assign [.Name x p] v sp) (tAsg (Ew X v) (gName n)) := fun hs => ps_set (nd_of k.toCok) l1 l2 ew hs l3
  have fr : chkF c i v = true → ∀ σ Z H env, EnvOk U X.K Y Z H σ env → Fr U W X.K Z (Ew X v) σ H (evE env i) := fun hf => fr_of i k.toCok o hf
  by_cases hl : nlc v = true
  · exact ⟨_, plain (sw_plain hl), ye_of i k.toCok o h, fr⟩
  · cases v with
    | ListComp elt gs scope pos =>
      have hi : ∃ own t it cn el, i = .lc own t it cn el := by cases i <;> first | exact ⟨_, _, _, _, _, rfl⟩ | cases h
      obtain ⟨own, t, it, cn, el, rfl⟩ := hi
      obtain ⟨elt', tg, iter, ifs, scope', pos', e, I⟩ := lc_inv h
      cases e
      cases hs : ((match X.env.scope.names.lookup x with | some .local => true | _ => false) && (p.line == pos.line) && !(scope.names.any fun (n, k) => n == x && (k == .local || k == .cell))) with
      | true =>
        obtain ⟨hs, h3⟩ := and2 hs
        obtain ⟨h1, h2⟩ := and2 hs
        have h1 : X.env.scope.names.lookup x = some .local := by
          split at h1
          · assumption
          · cases h1
        refine ⟨_, ps_lcw k.calm k.stack k.frame k.tk (nd_of k.toCok) k.kind l1 h1 h2 (not1 h3) (lc_blk k.toCok I) (lc_pg k.toCok I) I.set, fun σ Z H env hE => Fr.yl hE.zt lc_list (lc_fr (snd_all _) (snd_all _) (snd_all _) k.toCok o I hE), fun _ σ Z H env hE => lc_fr (snd_all _) (snd_all _) (snd_all _) k.toCok o I hE⟩
      | false =>
        refine ⟨_, plain ?_, ye_of _ k.toCok o h, fr⟩
        have hb : X.env.blockKind = .function := by unfold PySem.Env.blockKind; rw [k.kind]; rfl
        show (pure (X.env.blockKind == .function && X.env.kindOf x == some .local && p.line == pos.line && !(scope.names.any fun (n, k) => n == x && (k == .local || k == .cell))) : Sem Bool) = pure false
        congr 1
        rw [hb]
        cases hk : X.env.scope.names.lookup x with
        | none =>
          have e : X.env.kindOf x = none := hk
          rw [e]; rfl
        | some kd =>
          have e : X.env.kindOf x = some kd := hk
          rw [e]
          rw [hk] at hs
          cases kd with
          | «local» => exact hs
          | _ => rfl
    | SetComp _ _ _ _ => cases i <;> cases h
    | DictComp _ _ _ _ _ => cases i <;> cases h
    | _ => exact absurd rfl hl
end
end Rwl

set_option Elab.async false
set_option linter.all false
set_option maxRecDepth 100000
set_option maxHeartbeats 2000000
/-! Rwl, part Oa: the checker of the statements about objects is sound. -/
namespace Rwl
open PySem PySem.Spec PyProof.Rows L2 Evl
theorem ss_subs {o1 a1 o2 b1 : Expr} {p1 p2 pt pt2 : Pos} {k1 k2 : Nat} {vs : List Expr} {env : PySem.Env} : swappedStores [.Tuple [.Subscript o1 a1 p1, .Subscript o2 b1 p2] k1 pt] (.Tuple vs k2 pt2) env = pure none := by
  unfold swappedStores
  dsimp only [List.filterMap, List.length]
  split
  · rfl
  · split
    · rfl
    · rfl
theorem ss_par2 {x y : Str} {u v : Expr} {px py pt pt2 : Pos} {k1 k2 : Nat} {env : PySem.Env} (hb : env.blockKind = .function) (hx : env.kindOf x = some .local) (hy : env.kindOf y = some .local) (hl : (py.line == px.line) = true) (hxy : x ≠ y) (hu : npar u = true) (hv : npar v = true) :
    swappedStores [.Tuple [.Name x px, .Name y py] k1 pt] (.Tuple [u, v] k2 pt2) env = pure (some [x, y]) := by
  unfold npar at hu hv
  obtain ⟨hu, u3⟩ := and2 hu
  obtain ⟨u1, u2⟩ := and2 hu
  obtain ⟨hv, v3⟩ := and2 hv
  obtain ⟨v1, v2⟩ := and2 hv
  have hyx : (y == x) = false := by rw [beq_eq_false_iff_ne]; exact fun z => hxy z.symm
  have s : ∀ {e : Expr}, nst e = true → (match e with | .Starred .. => true | _ => false) = false := fun {e} h => by cases e <;> first | rfl | cases h
  have hm : ∀ (f : Expr → Option Str), f (.Name x px) = some x → f (.Name y py) = some y → [Expr.Name x px, .Name y py].filterMap f = [x, y] := fun f h1 h2 => by
    simp [List.filterMap, h1, h2]
  have hd : ([x, y] : List Str).eraseDups.length = 2 := by
    simp [List.eraseDups_cons, hyx]
  unfold swappedStores
  dsimp only
  refine (if_neg ?_).trans ?_
  · rw [hb]
    simp
  refine (if_neg ?_).trans ?_
  · intro h
    rcases (Bool.or_eq_true _ _).mp h with h1 | h1
    · exact Bool.false_ne_true ((s u1).symm.trans h1)
    · rcases (Bool.or_eq_true _ _).mp h1 with h1 | h1
      · exact Bool.false_ne_true ((s v1).symm.trans h1)
      · cases h1
  rw [hm _ (if_pos (by rw [hx]; simp [Expr.pos])) (if_pos (by rw [hy]; simpa [Expr.pos] using hl))]
  refine (if_neg ?_).trans ?_
  · rw [hd]
    simp
  refine (if_neg ?_).trans ?_
  · simp [List.all, not1 u2]
  refine (if_neg ?_).trans ?_
  · simp [List.all, not1 u3]
  rfl
theorem few_ok2 {env : PySem.Env} {cpos : Pos} {e e2 : Expr} (h : nst e = true) (h2 : nst e2 = true) : ((backTo cpos (starEach [e, e2] env)).all (fun x => !x.1) && (backToKw cpos (keywordEach [] env)).all (fun x => x.1.isSome) && decide (([e, e2] : List Expr).length + ([] : List Keyword).length + (if ([] : List Keyword).isEmpty then 0 else 1) < 30)) = true := by
  have q : (backTo cpos (starEach [e, e2] env)).all (fun x => !x.1) = true := star_few (by simp [h, h2])
  rw [q]
  rfl
section
variable {U : Ux} {Y : List Addr} {X : Cx} {W : WX} {c : Ck}
abbrev S.ok (U : Ux) (c : Ck) (X : Cx) (i : S) : Prop := i.cl (FC U c X) (GC U X) (FM U c X)
structure SndS (U : Ux) (Y : List Addr) (i : S) : Prop where
  s : ∀ {c : Ck} {X : Cx} {W : WX} {st : Stmt}, CokS U c X W → i.ok U c X → (chks i c).s st = true → Ys U W X.K Y (Sw X st) (exS i)
  b : ∀ {c : Ck} {X : Cx} {W : WX} {ss : List Stmt}, CokS U c X W → i.ok U c X → (chks i c).b ss = true → Ys U W X.K Y (Bs X ss) (exS i)
theorem SndS.mk0 {i : S} (h : ∀ {c : Ck} {X : Cx} {W : WX} {st : Stmt}, CokS U c X W → i.ok U c X → (chks i c).s st = true → Ys U W X.K Y (Sw X st) (exS i)) (h2 : ∀ c ss, (chks i c).b ss = false := by intros; rfl) : SndS U Y i :=
  ⟨h, fun k o q => by rw [h2] at q; cases q⟩
theorem yt_of (i : E) {e : Expr} (k : Cok U c X W) (o : i.ok U c X) (h : chkT c i e = true) : ∀ σ Z H env, EnvOk U X.K Y Z H σ env → Yl U W RQ (Tw X e) σ H (evT env i) := fun σ Z H env hE => (snd_all i).t k o h hE
theorem yi_of (i : E) {tg e : Expr} (k : Cok U c X W) (o : i.ok U c X) (h : chkI c i e = true) : ∀ σ Z H env, EnvOk U X.K Y Z H σ env → Yl U W (RI U X.K Z) (Iw X tg e) σ H (evI env i) := fun σ Z H env hE => (snd_all i).i k o h hE

/-! ### reading the parts -/
theorem fld_pe (k : Cok U c X W) {i : Nat} {x : Str} {e : Expr} (h : c.fld i x e = true) : PE X e (tFld X.K (tVar i) x) ∧ NaOk U X.K x := by
  unfold Ck.fld at h
  split at h
  · obtain ⟨h, h3⟩ := and2 h
    obtain ⟨h1, h2⟩ := and2 h
    cases of_decide_eq_true h1
    exact ⟨pe_fld (var_pe k h2) (attr_base rfl), k.na _ (of_decide_eq_true h3)⟩
  · cases h
theorem nam_pe (k : Cok U c X W) {i : Nat} {e : Expr} (h : c.nam i e = true) : PE X e (tVar i) := by
  unfold Ck.nam at h
  split at h
  · exact var_pe k h
  · cases h
theorem hix_pe (k : Cok U c X W) {i : Nat} {n : Int} {e : Expr} (h : c.hix i n e = true) : PE X e (tOp (rIxT X.K) (tVar i) (tC (.int n))) := by
  unfold Ck.hix at h
  split at h
  · obtain ⟨h1, h2⟩ := and2 h
    cases of_decide_eq_true h1
    exact pe_ix ix_tup (var_pe k h2) pe_int (plain_ix rfl)
  · cases h
theorem hix2_pe (k : Cok U c X W) {i : Nat} {e : Expr} (h : c.hix2 i e = true) : PE X e (tH01 X.K i) := by
  unfold Ck.hix2 at h
  split at h
  · exact pe_ix ix_tup (hix_pe k h) pe_int (plain_ix rfl)
  · cases h
theorem hix_nst {i : Nat} {n : Int} {e : Expr} (h : c.hix i n e = true) : nst e = true := by
  unfold Ck.hix at h
  split at h
  · rfl
  · cases h
theorem hix_sup {i : Nat} {n : Int} {e : Expr} (h : c.hix i n e = true) : nsup e = true := by
  unfold Ck.hix at h
  split at h
  · rfl
  · cases h
theorem hix2_sup {i : Nat} {e : Expr} (h : c.hix2 i e = true) : nsup e = true := by
  unfold Ck.hix2 at h
  split at h
  · rfl
  · cases h
theorem fld_sup {i : Nat} {x : Str} {e : Expr} (h : c.fld i x e = true) : nsup e = true := by
  unfold Ck.fld at h
  split at h
  · rfl
  · cases h
theorem fld_nst {i : Nat} {x : Str} {e : Expr} (h : c.fld i x e = true) : nst e = true := by
  unfold Ck.fld at h
  split at h
  · rfl
  · cases h
theorem nam_sup {i : Nat} {e : Expr} (h : c.nam i e = true) : nsup e = true := by
  unfold Ck.nam at h
  split at h
  · rfl
  · cases h
theorem nam_nst {i : Nat} {e : Expr} (h : c.nam i e = true) : nst e = true := by
  unfold Ck.nam at h
  split at h
  · rfl
  · cases h
theorem nam_nsl {i : Nat} {e : Expr} (h : c.nam i e = true) : nsl e = true := by
  unfold Ck.nam at h
  split at h
  · rfl
  · cases h

/-! ### the statements -/
theorem ss_retf (n : Nat) : SndS U Y (.retf n) := .mk0 fun {c X W st} k o q => by
  unfold chks at q
  dsimp only at q
  split at q
  · exact Ys.one (ps_ret (var_pe k.toCok q)) s_retf
  · cases q
theorem ss_rete (i : E) : SndS U Y (.rete i) := .mk0 fun {c X W st} k o q => by
  unfold chks at q
  dsimp only at q
  split at q
  · exact Ys.one (ps_ret ew) (s_rete (fr_of i k.toCok o q))
  · cases q
theorem ss_retm (i : E) : SndS U Y (.retm i) := .mk0 fun {c X W st} k o q => by
  unfold chks at q
  dsimp only at q
  split at q
  · exact Ys.one (ps_ret ew) (s_retm (ye_of i k.toCok o q))
  · cases q
theorem ss_retc (n : Nat) (f : List D → Res D) (i : E) : SndS U Y (.retc n f i) := .mk0 fun {c X W st} k o q => by
  unfold chks at q
  dsimp only at q
  split at q
  · obtain ⟨q, q4⟩ := and2 q
    obtain ⟨q, q3⟩ := and2 q
    obtain ⟨q1, q2⟩ := and2 q
    have q1 := of_decide_eq_true q1
    obtain ⟨x, m, hx, F⟩ := (show FC U c X 3 n f from o.1)
    rw [q1] at hx
    cases hx
    exact Ys.one (ps_ret ew) (s_rete (fe := fun env => (evL env i).bind f) fun σ Z H env hE => f_call k.tk F (gl_of k.toCok q2).1 (gl_of k.toCok q2).2 hE.zt q3 (fun ds hd => evL_len hd) ((snd_all i).l k.toCok o.2 q4 hE))
  · cases q
theorem ss_dapp (n : Nat) (m : Str) (f : List D → Res D) (a i : E) : SndS U Y (.dapp n m f a i) := .mk0 fun {c X W st} k o q => by
  unfold chks at q
  dsimp only at q
  split at q
  · obtain ⟨q, q9⟩ := and2 q
    obtain ⟨q, q8⟩ := and2 q
    obtain ⟨q, q7⟩ := and2 q
    obtain ⟨q, q6⟩ := and2 q
    obtain ⟨q, q5⟩ := and2 q
    obtain ⟨q, q4⟩ := and2 q
    obtain ⟨q, q3⟩ := and2 q
    obtain ⟨q1, q2⟩ := and2 q
    cases of_decide_eq_true q1
    cases of_decide_eq_true q2
    have q3 := of_decide_eq_true q3
    obtain ⟨x, m', hx, kk, C, fa, fd, ps, hr, ho, hc, hm, hbd, F⟩ := (show FC U c X 4 n f from o.1)
    rw [q3] at hx
    cases hx
    exact Ys.one (ps_expr (pe_bm PySem.F.plainAttrs_list PySem.F.slot_list_append PySem.F.type_list_append mt_append (pe_methX0 (ta := Ew X _) ew hc hm F hr hbd (fun σ => passAt k.tk σ) (eval_meth q4 q5 rfl (by decide))) (pa_cons ew pa_nil (star_cons q7)) rfl (few_ok q7) q6 (star_cons q7) rfl) (sw_plain rfl))
      (s_dapp (te := Ew X _) (fun σ Z H env hE => f_methT hE.zt ho ((snd_all a).e k.toCok o.2.1 q8 hE)) (ye_of i k.toCok o.2.2 q9))
  · cases q
/-- the call that changes an object, checked -/
theorem yx_meth (i n : Nat) (m : Str) (f : Fm) (es : E) {o : Expr} {as : List Expr} {ap pos : Pos} (k : Cok U c X W) (om : FM U c X 0 n f) (oe : es.ok U c X) (q : (decide (c.M[n]? = some (m, es.len)) && c.nam i o && (ap.endLine == pos.line) && as.all nst && decide (as.length < 29) && chkL c es as) = true) :
    Yx U W X.K Y (Ew X (.Call (.Attribute o m ap) as [] pos)) i m f fun env => evL env es := fun Hb σ Z H env fs mk Q kp hE h1 h2 r => by
  obtain ⟨q, q6⟩ := and2 q
  obtain ⟨q, q5⟩ := and2 q
  obtain ⟨q, q4⟩ := and2 q
  obtain ⟨q, q3⟩ := and2 q
  obtain ⟨q1, q2⟩ := and2 q
  have q1 := of_decide_eq_true q1
  obtain ⟨x, m', hx, M⟩ := om
  rw [q1] at hx
  cases hx
  refine st_meth k.tk M (nam_pe k q2) (nam_sup q2) q3 q4 (of_decide_eq_true q5) (fun z => ?_) (fun ds hd => evL_len hd) kp hE h1 h2 ((snd_all es).l k oe q6 hE) r
  subst z
  cases l_nil q6
  rfl
theorem yx_call (i n : Nat) (x : Str) (f : Fm) (es : E) {o : Expr} {as : List Expr} {gp pos : Pos} (k : Cok U c X W) (om : FM U c X 1 n f) (oe : es.ok U c X) (q : (decide (c.T[n]? = some (x, es.len + 1)) && c.gl x && c.nam i o && (o :: as).all nst && chkL c es as) = true) :
    Yx U W X.K Y (Ew X (.Call (.Name x gp) (o :: as) [] pos)) i x f fun env => evL env es := fun Hb σ Z H env fs mk Q kp hE h1 h2 r => by
  obtain ⟨q, q5⟩ := and2 q
  obtain ⟨q, q4⟩ := and2 q
  obtain ⟨q, q3⟩ := and2 q
  obtain ⟨q1, q2⟩ := and2 q
  have q1 := of_decide_eq_true q1
  obtain ⟨x', m', hx, M⟩ := om
  rw [q1] at hx
  cases hx
  exact st_call k.tk M (gl_of k q2).1 (gl_of k q2).2 (nam_pe k q3) q4 (fun ds hd => evL_len hd) kp hE h1 ((snd_all es).l k oe q5 hE) r
theorem ss_callm (i n : Nat) (m : Str) (f : Fm) (es : E) : SndS U Y (.callm i n m f es) := .mk0 fun {c X W st} k o q => by
  unfold chks at q
  dsimp only at q
  split at q
  · obtain ⟨q, q7⟩ := and2 q
    obtain ⟨q, q6⟩ := and2 q
    obtain ⟨q, q5⟩ := and2 q
    obtain ⟨q, q4⟩ := and2 q
    obtain ⟨q, q3⟩ := and2 q
    obtain ⟨q1, q2⟩ := and2 q
    cases of_decide_eq_true q1
    exact Ys.one (ps_expr ew (sw_plain rfl)) (s_callm (r := fun env => evL env es) (yx_meth i n _ f es k.toCok o.1 o.2 (by rw [q2, q3, q4, q5, q6, q7]; rfl)))
  · cases q
theorem ss_ifx (me : Bool) (i n : Nat) (x : Str) (f : Fm) (es e : E) {a b : S} (ha : SndS U Y a) (hb : SndS U Y b) : SndS U Y (.ifx me i n x f es e a b) := .mk0 fun {c X W st} k o q => by
  unfold chks at q
  dsimp only at q
  split at q
  · rename_i ce y cpos body els pos
    obtain ⟨q, q5⟩ := and2 q
    obtain ⟨q, q4⟩ := and2 q
    obtain ⟨q, q3⟩ := and2 q
    obtain ⟨q1, q2⟩ := and2 q
    have yx : Yx U W X.K Y (Ew X ce) i x f fun env => evL env es := by
      cases me with
      | true =>
        dsimp only at q5
        split at q5
        · obtain ⟨q, r7⟩ := and2 q5
          obtain ⟨q, r6⟩ := and2 q
          obtain ⟨q, r5⟩ := and2 q
          obtain ⟨q, r4⟩ := and2 q
          obtain ⟨q, r3⟩ := and2 q
          obtain ⟨r1, r2⟩ := and2 q
          cases of_decide_eq_true r1
          exact yx_meth i n _ f es k.toCok o.1 o.2.1 (by rw [r2, r3, r4, r5, r6, r7]; rfl)
        · cases q5
      | false =>
        dsimp only at q5
        split at q5
        · obtain ⟨q, r6⟩ := and2 q5
          obtain ⟨q, r5⟩ := and2 q
          obtain ⟨q, r4⟩ := and2 q
          obtain ⟨q, r3⟩ := and2 q
          obtain ⟨r1, r2⟩ := and2 q
          cases of_decide_eq_true r1
          exact yx_call i n _ f es k.toCok o.1 o.2.1 (by rw [r2, r3, r4, r5, r6]; rfl)
        · cases q5
    exact Ys.one (ps_if tw bs bs) (s_ifx (r := fun env => evL env es) k.hu q1 yx (ye_of e k.toCok o.2.2.1 q2) (ha.b k o.2.2.2.1 q3) (hb.b k o.2.2.2.2 q4))
  · cases q
theorem ss_fapp (i : Nat) (x y : Str) : SndS U Y (.fapp i x y) := .mk0 fun {c X W st} k o q => by
  unfold chks at q
  dsimp only at q
  split at q
  · obtain ⟨q, q8⟩ := and2 q
    obtain ⟨q, q7⟩ := and2 q
    obtain ⟨q, q6⟩ := and2 q
    obtain ⟨q, q5⟩ := and2 q
    obtain ⟨q, q4⟩ := and2 q
    obtain ⟨q, q3⟩ := and2 q
    obtain ⟨q1, q2⟩ := and2 q
    cases of_decide_eq_true q1
    cases of_decide_eq_true q2
    obtain ⟨p1, n1⟩ := fld_pe k.toCok q4
    obtain ⟨p2, n2⟩ := fld_pe k.toCok q5
    exact Ys.one (ps_expr (pe_bm PySem.F.plainAttrs_list PySem.F.slot_list_append PySem.F.type_list_append mt_append p1 (pa_cons (pe_listOf (gl_of k.toCok q3).1 (k.bi .list) q7 p2) pa_nil (star_cons rfl)) (attr_base q6) (few_ok rfl) q8 (star_cons rfl) rfl) (sw_plain rfl)) (s_fapp n1 n2)
  · cases q
/-- x[a], x[b] = x[b], x[a] -/
theorem swp_ps {o1 o2 o3 o4 a1 a2 b1 b2 : Expr} {p1 p2 p3 p4 pt pt2 pos : Pos} {k1 k2 : Nat} {to : TE} {a b : Nat} (k : Cok U c X W) (e1 : PE X o1 to) (e2 : PE X o2 to) (e3 : PE X o3 to) (e4 : PE X o4 to) (q1 : c.nam a a1 = true) (q2 : c.nam b b1 = true) (q3 : c.nam b b2 = true) (q4 : c.nam a a2 = true) :
    PS X (.Assign [.Tuple [.Subscript o1 a1 p1, .Subscript o2 b1 p2] k1 pt] (.Tuple [.Subscript o3 b2 p3, .Subscript o4 a2 p4] k2 pt2) pos) (tSwp X.K to a b) :=
  ps_asg (pe_tup (pa_cons (pe_ix ix_list e3 (nam_pe k q3) (plain_ix (nam_nsl q3))) (pa_cons (pe_ix ix_list e4 (nam_pe k q4) (plain_ix (nam_nsl q4))) pa_nil (star_cons rfl)) (star_cons rfl)))
    (pg_tup k.calm (pgs_cons (pg_sub e1 (nam_pe k q1) set_list (sub_asg (nam_nsl q1))) (pgs_cons (pg_sub e2 (nam_pe k q2) set_list (sub_asg (nam_nsl q2))) pgs_nil))) (sws_plain rfl) ss_subs
theorem ss_fswp (i : Nat) (x : Str) (a b : Nat) : SndS U Y (.fswp i x a b) := .mk0 fun {c X W st} k o q => by
  unfold chks at q
  dsimp only at q
  split at q
  · obtain ⟨q, q8⟩ := and2 q
    obtain ⟨q, q7⟩ := and2 q
    obtain ⟨q, q6⟩ := and2 q
    obtain ⟨q, q5⟩ := and2 q
    obtain ⟨q, q4⟩ := and2 q
    obtain ⟨q, q3⟩ := and2 q
    obtain ⟨q1, q2⟩ := and2 q
    exact Ys.one (swp_ps k.toCok (fld_pe k.toCok q1).1 (fld_pe k.toCok q2).1 (fld_pe k.toCok q3).1 (fld_pe k.toCok q4).1 q5 q6 q7 q8) (s_fswp (fld_pe k.toCok q1).2)
  · cases q
theorem ss_swp (i a b : Nat) : SndS U Y (.swp i a b) := .mk0 fun {c X W st} k o q => by
  unfold chks at q
  dsimp only at q
  split at q
  · obtain ⟨q, q8⟩ := and2 q
    obtain ⟨q, q7⟩ := and2 q
    obtain ⟨q, q6⟩ := and2 q
    obtain ⟨q, q5⟩ := and2 q
    obtain ⟨q, q4⟩ := and2 q
    obtain ⟨q, q3⟩ := and2 q
    obtain ⟨q1, q2⟩ := and2 q
    exact Ys.one (swp_ps k.toCok (nam_pe k.toCok q1) (nam_pe k.toCok q2) (nam_pe k.toCok q3) (nam_pe k.toCok q4) q5 q6 q7 q8) s_swp
  · cases q
theorem ss_fins (i : Nat) (x : Str) (a b : Nat) : SndS U Y (.fins i x a b) := .mk0 fun {c X W st} k o q => by
  unfold chks at q
  dsimp only at q
  split at q
  · obtain ⟨q, q8⟩ := and2 q
    obtain ⟨q, q7⟩ := and2 q
    obtain ⟨q, q6⟩ := and2 q
    obtain ⟨q, q5⟩ := and2 q
    obtain ⟨q, q4⟩ := and2 q
    obtain ⟨q, q3⟩ := and2 q
    obtain ⟨q1, q2⟩ := and2 q
    cases of_decide_eq_true q1
    cases of_decide_eq_true q2
    obtain ⟨p1, n1⟩ := fld_pe k.toCok q3
    obtain ⟨p2, n2⟩ := fld_pe k.toCok q4
    have b1 := nam_nst q6
    have a1 := nam_nst q5
    exact Ys.one (ps_expr (pe_bm PySem.F.plainAttrs_list PySem.F.slot_list_insert PySem.F.type_list_insert mt_insert p1 (pa_cons (nam_pe k.toCok q6) (pa_cons (pe_bm PySem.F.plainAttrs_list PySem.F.slot_list_pop PySem.F.type_list_pop mt_popAt p2 (pa_cons (nam_pe k.toCok q5) pa_nil (star_cons a1)) (attr_base (fld_sup q4)) (few_ok a1) q8 (star_cons a1) rfl) pa_nil (star_cons rfl)) (star_cons b1)) (attr_base (fld_sup q3)) (few_ok2 b1 rfl) q7 (star_cons b1) (star_plain (es := [_]) rfl)) (sw_plain rfl)) (s_fins n1)
  · cases q
theorem ss_frev (i : Nat) (x : Str) (a b : Nat) : SndS U Y (.frev i x a b) := .mk0 fun {c X W st} k o q => by
  unfold chks at q
  dsimp only at q
  split at q
  · obtain ⟨q, q6⟩ := and2 q
    obtain ⟨q, q5⟩ := and2 q
    obtain ⟨q, q4⟩ := and2 q
    obtain ⟨q, q3⟩ := and2 q
    obtain ⟨q1, q2⟩ := and2 q
    obtain ⟨p1, n1⟩ := fld_pe k.toCok q1
    obtain ⟨p2, n2⟩ := fld_pe k.toCok q2
    exact Ys.one (ps_asg (pe_revL (pe_slice sl_list p2 (po_some (nam_pe k.toCok q5)) (po_some (nam_pe k.toCok q6)))) (pg_sls p1 (po_some (nam_pe k.toCok q3)) (po_some (nam_pe k.toCok q4))) (sws_plain rfl) ss_sub) (s_frev n1)
  · cases q
theorem ss_fpop (i : Nat) (x y : Str) : SndS U Y (.fpop i x y) := .mk0 fun {c X W st} k o q => by
  unfold chks at q
  dsimp only at q
  split at q
  · obtain ⟨q, q6⟩ := and2 q
    obtain ⟨q, q5⟩ := and2 q
    obtain ⟨q, q4⟩ := and2 q
    obtain ⟨q, q3⟩ := and2 q
    obtain ⟨q1, q2⟩ := and2 q
    cases of_decide_eq_true q1
    cases of_decide_eq_true q2
    obtain ⟨p1, n1⟩ := fld_pe k.toCok q5
    exact Ys.one (ps_fld (var_pe k.toCok q3) (pe_bm0 PySem.F.plainAttrs_list PySem.F.slot_list_pop PySem.F.type_list_pop mt_pop p1 (attr_base (fld_sup q5)) q6) (sw_plain rfl)) (s_fpop n1 (k.na _ (of_decide_eq_true q4)))
  · cases q
theorem ss_par (i j : Nat) (a b : E) : SndS U Y (.par i j a b) := .mk0 fun {c X W st} k o q => by
  unfold chks at q
  dsimp only at q
  split at q
  · rename_i x px y py _ _ u v _ _ _
    obtain ⟨q, q10⟩ := and2 q
    obtain ⟨q, q9⟩ := and2 q
    obtain ⟨q, q8⟩ := and2 q
    obtain ⟨q, q7⟩ := and2 q
    obtain ⟨q, q6⟩ := and2 q
    obtain ⟨q, q5⟩ := and2 q
    obtain ⟨q, q4⟩ := and2 q
    obtain ⟨q, q3⟩ := and2 q
    obtain ⟨q1, q2⟩ := and2 q
    have q1 := of_decide_eq_true q1
    have q2 := of_decide_eq_true q2
    have q4 := of_decide_eq_true q4
    have q5 := of_decide_eq_true q5
    have hij : i ≠ j := by simpa using q3
    have hxy : x ≠ y := fun z => by
      subst z
      obtain ⟨l1, e1⟩ := List.getElem?_eq_some_iff.mp q1
      obtain ⟨l2, e2⟩ := List.getElem?_eq_some_iff.mp q2
      exact hij ((List.getElem_inj k.nd).mp (e1.trans e2.symm))
    have hb : X.env.blockKind = .function := by unfold PySem.Env.blockKind; rw [k.kind]; rfl
    have hx : X.env.scope.names.lookup x = some .local := by rw [k.sc]; exact q4
    have hy : X.env.scope.names.lookup y = some .local := by rw [k.sc]; exact q5
    have nu : nst u = true := (and2 (and2 q7).1).1
    have nv : nst v = true := (and2 (and2 q8).1).1
    exact Ys.one (ps_par k.calm (nd_of k.toCok) (by rw [k.N]; exact q1) (by rw [k.N]; exact q2) hij hx hy (pa_cons ew (pa_cons ew pa_nil (star_cons nv)) (star_cons nu)) (ss_par2 hb hx hy q6 hxy q7 q8) (sws_plain rfl)) (s_par (ye_of a k.toCok o.1 q9) (ye_of b k.toCok o.2 q10))
  · cases q
theorem ss_setr (i : Nat) (x : Str) (e : E) : SndS U Y (.setr i x e) := .mk0 fun {c X W st} k o q => by
  unfold chks at q
  dsimp only at q
  split at q
  · obtain ⟨q, q5⟩ := and2 q
    obtain ⟨q, q4⟩ := and2 q
    obtain ⟨q, q3⟩ := and2 q
    obtain ⟨q1, q2⟩ := and2 q
    cases of_decide_eq_true q1
    exact Ys.one (ps_fld (var_pe k.toCok q2) ew (sw_plain q4)) (s_setr (k.na _ (of_decide_eq_true q3)) (fr_of e k.toCok o q5))
  · cases q
theorem ss_seto (i : Nat) (x : Str) : SndS U Y (.seto i x) := .mk0 fun {c X W st} k o q => by
  unfold chks at q
  dsimp only at q
  split at q
  · obtain ⟨q, q3⟩ := and2 q
    obtain ⟨q1, q2⟩ := and2 q
    cases of_decide_eq_true q1
    exact Ys.one (ps_fld (var_pe k.toCok q2) (pe_lst pa_nil) (sw_plain rfl)) (s_seto (k.na _ (of_decide_eq_true q3)))
  · cases q
theorem ss_hnew (i w r : Nat) : SndS U Y (.hnew i w r) := .mk0 fun {c X W st} k o q => by
  unfold chks at q
  dsimp only at q
  split at q
  · obtain ⟨q, q8⟩ := and2 q
    obtain ⟨q, q7⟩ := and2 q
    obtain ⟨q, q6⟩ := and2 q
    obtain ⟨q, q5⟩ := and2 q
    obtain ⟨q, q4⟩ := and2 q
    obtain ⟨q, q3⟩ := and2 q
    obtain ⟨q1, q2⟩ := and2 q
    cases of_decide_eq_true q5
    cases of_decide_eq_true q6
    obtain ⟨l1, l2, l3⟩ := loc_of k.toCok q1
    have hl : ∀ {a : Expr} {p pos : Pos} {ta : TE}, nst a = true → PE X a ta → PE X (.Call (.Name "list" p) [a] [] pos) (tListOf X.K ta) := fun n pa => pe_listOf (gl_of k.toCok q7).1 (k.bi .list) n pa
    exact Ys.one (ps_set (nd_of k.toCok) l1 l2 (pe_tup (pa_cons (pe_tup (pa_cons (hix_pe k.toCok q2) (pa_cons (hl (hix_nst q3) (hix_pe k.toCok q3)) pa_nil (star_cons rfl)) (star_cons (hix_nst q2)))) (pa_cons (hl (nam_nst q4) (nam_pe k.toCok q4)) pa_nil (star_cons rfl)) (star_cons rfl))) (sw_plain rfl) l3) s_hnew
  · cases q
theorem ss_hmk (i h n : Nat) (f : Fm) : SndS U Y (.hmk i h n f) := .mk0 fun {c X W st} k o q => by
  unfold chks at q
  dsimp only at q
  split at q
  · obtain ⟨q, q5⟩ := and2 q
    obtain ⟨q, q4⟩ := and2 q
    obtain ⟨q, q3⟩ := and2 q
    obtain ⟨q1, q2⟩ := and2 q
    have q2 := of_decide_eq_true q2
    obtain ⟨x, hx, kk, C, fa, fd, ps, hr, ho, hm, M, hb, F⟩ := (show FM U c X 2 n f from o)
    rw [q2] at hx
    cases hx
    obtain ⟨l1, l2, l3⟩ := loc_of k.toCok q1
    have n1 := hix_nst q4
    have n2 := hix_nst q5
    exact Ys.one (ps_set (nd_of k.toCok) l1 l2 (pe_makeS M F hr (gl_of k.toCok q3).1 hm hb (fun σ => passAt k.tk σ) (pa_cons (hix_pe k.toCok q4) (pa_cons (hix_pe k.toCok q5) pa_nil (star_cons n2)) (star_cons n1)) (gl_of k.toCok q3).2 (star_cons n1) (star_plain (by simp [n2]))) (sw_plain rfl) l3) (s_hmk ho)
  · cases q
theorem ss_happ (i : Nat) (z : Bool) (e : E) : SndS U Y (.happ i z e) := .mk0 fun {c X W st} k o q => by
  unfold chks at q
  dsimp only at q
  split at q
  · rename_i oo nm ap v pos sp
    obtain ⟨q, q5⟩ := and2 q
    obtain ⟨q, q4⟩ := and2 q
    obtain ⟨q, q3⟩ := and2 q
    obtain ⟨q1, q2⟩ := and2 q
    cases of_decide_eq_true q1
    have hp : PE X oo (tHz X.K i z) ∧ nsup oo = true := by
      cases z with
      | true => exact ⟨hix2_pe k.toCok q2, hix2_sup q2⟩
      | false => exact ⟨hix_pe k.toCok q2, hix_sup q2⟩
    exact Ys.one (ps_expr (pe_bm PySem.F.plainAttrs_list PySem.F.slot_list_append PySem.F.type_list_append mt_append hp.1 (pa_cons ew pa_nil (star_cons q4)) (attr_base hp.2) (few_ok q4) q3 (star_cons q4) rfl) (sw_plain rfl)) (s_happ (fe := fun env => evE env e) (ye_of e k.toCok o q5))
  · cases q
end
end Rwl

set_option Elab.async false
set_option linter.all false
set_option maxRecDepth 100000
set_option maxHeartbeats 2000000
/-! Rwl, part P: the checker of statements is sound; a def by its checked body. -/
namespace Rwl
open PySem PySem.Spec PyProof.Rows L2 Evl
section
variable {U : Ux} {Y : List Addr} {X : Cx} {W : WX} {c : Ck}
theorem ss_nil : SndS U Y .nil := ⟨fun _ _ q => no q, fun {c X W ss} k o q => by
  cases ss with
  | nil => exact Ys.all pss_nil s_nx
  | cons _ _ => cases q⟩
theorem ss_cons {s r : S} (hs : SndS U Y s) (hr : SndS U Y r) : SndS U Y (.cons s r) := ⟨fun _ _ q => no q, fun {c X W ss} k o q => by
  by_cases hf : s = .frz
  · subst hf
    exact s_frz (f := exS r) (hr.b k o.2 q)
  · by_cases hf1 : ∃ i, s = .frz1 i
    · obtain ⟨i, rfl⟩ := hf1
      exact s_frz1 (f := exS r) (hr.b k o.2 q)
    have q' : (match ss with
      | st :: rest => (chks s c).s st && (chks r c).b rest
      | [] => false) = true := by
      cases s <;> first | exact absurd rfl hf | exact absurd ⟨_, rfl⟩ hf1 | (cases ss <;> exact q)
    cases ss with
    | nil => cases q'
    | cons st rest =>
      obtain ⟨h1, h2⟩ := and2 q'
      exact Ys.all (pss_cons sw bs) (s_seq (D0 := ()) (hs.s k o.1 h1) (hr.b k o.2 h2))⟩
theorem ss_asg (n : Nat) (i : E) : SndS U Y (.asg n i) := .mk0 fun {c X W st} k o q => by
  unfold chks at q
  dsimp only at q
  split at q
  · obtain ⟨q1, q2⟩ := and2 q
    obtain ⟨te, p, h, _⟩ := asg_ps (Y := Y) i k o q1 q2
    exact Ys.one p (s_asg (y_V h))
  · cases q
theorem ss_asgT (is : List Nat) (i : E) : SndS U Y (.asgT is i) := .mk0 fun {c X W st} k o q => by
  unfold chks at q
  dsimp only at q
  split at q
  · obtain ⟨q, q4⟩ := and2 q
    obtain ⟨q, q3⟩ := and2 q
    obtain ⟨q1, q2⟩ := and2 q
    rename_i es kk p v sp _ _
    have pg : PG X (.Tuple es kk p) ((⟨true, is⟩ : Tg).g X.K) := tg_pg (t := ⟨true, is⟩) k.toCok (e := .Tuple es kk p) q1
    exact Ys.one (ps_asg ew pg (sws_plain q2) (ss_none q3)) (s_asgT (y_V (ye_of i k.toCok o q4)))
  · cases q
theorem ss_new (n : Nat) (i : E) : SndS U Y (.new n i) := .mk0 fun {c X W st} k o q => by
  unfold chks at q
  dsimp only at q
  split at q
  · obtain ⟨q1, q2⟩ := and2 q
    rename_i x p v sp
    have q3 := q2
    unfold chkF at q3
    have q4 : chkE c i v = true := by
      split at q3 <;> first | exact q3 | cases q3
    obtain ⟨te, p, _, h⟩ := asg_ps (Y := Y) i k o q1 q4
    exact Ys.one p (s_new (h q2))
  · cases q
theorem ss_newd (n : Nat) : SndS U Y (.newd n) := .mk0 fun {c X W st} k o q => by
  unfold chks at q
  dsimp only at q
  split at q
  · obtain ⟨l1, l2, l3⟩ := loc_of k.toCok q
    exact Ys.one (ps_set (nd_of k.toCok) l1 l2 pe_dnewK (sw_plain rfl) l3) s_newd
  · cases q
theorem ss_app (n : Nat) (i : E) : SndS U Y (.app n i) := .mk0 fun {c X W st} k o q => by
  unfold chks at q
  dsimp only at q
  split at q
  · obtain ⟨q, q5⟩ := and2 q
    obtain ⟨q, q4⟩ := and2 q
    obtain ⟨q, q3⟩ := and2 q
    obtain ⟨q1, q2⟩ := and2 q
    cases of_decide_eq_true q1
    exact Ys.one (ps_expr (pe_bm PySem.F.plainAttrs_list PySem.F.slot_list_append PySem.F.type_list_append mt_append (var_pe k.toCok q2) (pa_cons ew pa_nil (star_cons q4)) (attr_base rfl) (few_ok q4) q3 (star_cons q4) rfl) (sw_plain rfl))
      (s_app (y_V (ye_of i k.toCok o q5)))
  · cases q
theorem ss_ext (n : Nat) (i : E) : SndS U Y (.ext n i) := .mk0 fun {c X W st} k o q => by
  unfold chks at q
  dsimp only at q
  split at q
  · obtain ⟨q, q5⟩ := and2 q
    obtain ⟨q, q4⟩ := and2 q
    obtain ⟨q, q3⟩ := and2 q
    obtain ⟨q1, q2⟩ := and2 q
    cases of_decide_eq_true q1
    exact Ys.one (ps_expr (pe_bm PySem.F.plainAttrs_list PySem.F.slot_list_extend PySem.F.type_list_extend mt_extend (var_pe k.toCok q2) (pa_cons ew pa_nil (star_cons q4)) (attr_base rfl) (few_ok q4) q3 (star_cons q4) rfl) (sw_plain rfl))
      (s_ext (y_V (ye_of i k.toCok o q5)))
  · cases q
theorem ss_seti (n : Nat) (j i : E) : SndS U Y (.seti n j i) := .mk0 fun {c X W st} k o q => by
  unfold chks at q
  dsimp only at q
  split at q
  · obtain ⟨q, q4⟩ := and2 q
    obtain ⟨q, q3⟩ := and2 q
    obtain ⟨q, q5⟩ := and2 q
    obtain ⟨q1, q2⟩ := and2 q
    exact Ys.one (ps_asg ew (pg_sub (var_pe k.toCok q1) ew set_list (sub_asg q5)) (sws_plain q2) ss_sub) (s_seti (y_V (ye_of i k.toCok o.2 q4)) (y_V (ye_of j k.toCok o.1 q3)))
  · cases q
theorem ss_setd (n : Nat) (j i : E) : SndS U Y (.setd n j i) := .mk0 fun {c X W st} k o q => by
  unfold chks at q
  dsimp only at q
  split at q
  · obtain ⟨q, q4⟩ := and2 q
    obtain ⟨q, q3⟩ := and2 q
    obtain ⟨q1, q2⟩ := and2 q
    exact Ys.one (ps_dput (by have := k.hu; omega) (var_pe k.toCok q1) ew ew (sw_plain q2)) (s_setd (y_V (ye_of i k.toCok o.2 q4)) (y_V (ye_of j k.toCok o.1 q3)))
  · cases q
theorem ss_appPop (n m : Nat) (i : E) : SndS U Y (.appPop n m i) := .mk0 fun {c X W st} k o q => by
  unfold chks at q
  dsimp only at q
  split at q
  · obtain ⟨q, q8⟩ := and2 q
    obtain ⟨q, q7⟩ := and2 q
    obtain ⟨q, q6⟩ := and2 q
    obtain ⟨q, q5⟩ := and2 q
    obtain ⟨q, q4⟩ := and2 q
    obtain ⟨q, q3⟩ := and2 q
    obtain ⟨q1, q2⟩ := and2 q
    cases of_decide_eq_true q1
    cases of_decide_eq_true q2
    refine Ys.one (ps_expr (pe_bm PySem.F.plainAttrs_list PySem.F.slot_list_append PySem.F.type_list_append mt_append (var_pe k.toCok q3) (pa_cons (pe_bm PySem.F.plainAttrs_list PySem.F.slot_list_pop PySem.F.type_list_pop mt_popAt (var_pe k.toCok q4) (pa_cons ew pa_nil (star_cons q7)) (attr_base rfl) (few_ok q7) q6 (star_cons q7) rfl) pa_nil (star_cons rfl)) (attr_base rfl) (few_ok rfl) q5 (star_cons rfl) rfl) (sw_plain rfl))
      (s_appPop (y_V (ye_of i k.toCok o q8)))
  · cases q
theorem ss_seta (n : Nat) (x : Str) (i : E) : SndS U Y (.seta n x i) := .mk0 fun {c X W st} k o q => by
  unfold chks at q
  dsimp only at q
  split at q
  · obtain ⟨q, q5⟩ := and2 q
    obtain ⟨q, q4⟩ := and2 q
    obtain ⟨q, q3⟩ := and2 q
    obtain ⟨q1, q2⟩ := and2 q
    cases of_decide_eq_true q1
    exact Ys.one (ps_fld (var_pe k.toCok q3) ew (sw_plain q4)) (s_seta (k.na _ (of_decide_eq_true q2)) (y_V (ye_of i k.toCok o q5)))
  · cases q
theorem ss_newn (n : Nat) : SndS U Y (.newn n) := .mk0 fun {c X W st} k o q => by
  unfold chks at q
  dsimp only at q
  split at q
  · obtain ⟨l1, l2, l3⟩ := loc_of k.toCok q
    exact Ys.one (ps_set (nd_of k.toCok) l1 l2 pe_ndNew (sw_plain rfl) l3) (s_newn k.ndi)
  · cases q
theorem ss_newk (n : Nat) (j i : E) : SndS U Y (.newk n j i) := .mk0 fun {c X W st} k o q => by
  unfold chks at q
  dsimp only at q
  split at q
  · obtain ⟨q, q3⟩ := and2 q
    obtain ⟨q1, q2⟩ := and2 q
    obtain ⟨l1, l2, l3⟩ := loc_of k.toCok q1
    exact Ys.one (ps_set (nd_of k.toCok) l1 l2 (pe_ndOne k.hu ew ew) (sw_plain rfl) l3) (s_newk (fk := fun env => evV env j) (fe := fun env => evV env i) k.ndi (y_V (ye_of j k.toCok o.1 q2)) (y_V (ye_of i k.toCok o.2 q3)))
  · cases q
theorem ss_setn (n : Nat) (j i : E) : SndS U Y (.setn n j i) := .mk0 fun {c X W st} k o q => by
  unfold chks at q
  dsimp only at q
  split at q
  · obtain ⟨q, q4⟩ := and2 q
    obtain ⟨q, q3⟩ := and2 q
    obtain ⟨q, q5⟩ := and2 q
    obtain ⟨q1, q2⟩ := and2 q
    exact Ys.one (ps_asg ew (pg_sub (var_pe k.toCok q1) ew (set_nd k.hu) (sub_asg q5)) (sws_plain q2) ss_sub) (s_setn k.ndi (y_V (ye_of i k.toCok o.2 q4)) (y_V (ye_of j k.toCok o.1 q3)))
  · cases q
theorem ss_newr (n : Nat) (own : List Nat) (tv : Nat) (it : E) : SndS U Y (.newr n own tv it) := .mk0 fun {c X W st} k o q => by
  unfold chks at q
  dsimp only at q
  split at q
  · rename_i x p lp tg iter scope pos sp
    obtain ⟨q, q8⟩ := and2 q
    obtain ⟨q, q7⟩ := and2 q
    obtain ⟨q, q6⟩ := and2 q
    obtain ⟨q, q5⟩ := and2 q
    obtain ⟨q, q4⟩ := and2 q
    obtain ⟨q, q3⟩ := and2 q
    obtain ⟨q1, q2⟩ := and2 q
    have top := Option.isNone_iff_eq_none.mp q2
    have bo := blkOk_by q3
    have bo' : BlkOk X.N X.env.scope scope (ownN c.N own) := by rw [k.N, k.sc]; exact bo
    have pgs : ∀ (σ : L2.St) (s : Shared) (H : Hp) (C : Addr) (cl : List (Str × Addr)) (fp : List Addr), PG (blkW X (Wc W σ) s H scope (compEnvC scope cl C X.env) fp) tg ((⟨false, [tv]⟩ : Tg).g X.K) := fun σ s H C cl fp => tg_pg (cok_blk k.toCok scope σ s H C cl fp) q7
    have w := ownN_snd c.N own
    have ne : own ≠ [] := fun z => by rw [z] at q5; cases q5
    have sub : tv ∈ own := by simpa using q6
    have fr : ∀ σ Z H env, EnvOk U X.K Y Z H σ env → FrR U W (Lw X W scope (ownN c.N own) ⟨false, [tv]⟩ tg iter (.List [] lp) []) σ H (evI env it) := fun σ Z H env hE => by
      have r := f_rows (U := U) (W := W) (X := X) (Y := Y) (Z := Z) (scope := scope) (own := ownN c.N own) (tg := tg) (iter := iter) (lp := lp) (tv := tv) hE ((snd_all it).i k.toCok o q8 hE) (by rw [w]; exact ne) (by rw [w]; exact sub)
      exact r
    obtain ⟨l1, l2, l3⟩ := loc_of k.toCok q1
    cases hs : ((match X.env.scope.names.lookup x with | some .local => true | _ => false) && (p.line == pos.line) && !(scope.names.any fun (n, k) => n == x && (k == .local || k == .cell))) with
    | true =>
      obtain ⟨hs, h3⟩ := and2 hs
      obtain ⟨h1, h2⟩ := and2 hs
      have h1 : X.env.scope.names.lookup x = some .local := by
        split at h1
        · assumption
        · cases h1
      exact Ys.one (ps_lcw k.calm k.stack k.frame k.tk (nd_of k.toCok) k.kind l1 h1 h2 (not1 h3) bo' pgs q4) (s_newr fr)
    | false =>
      refine Ys.one (ps_set (nd_of k.toCok) l1 l2 (pe_lcw k.calm (k.fr top).1 (k.fr top).2 k.tk (nd_of k.toCok) bo' pgs q4) ?_ l3) (s_newr fr)
      have hb : X.env.blockKind = .function := by unfold PySem.Env.blockKind; rw [k.kind]; rfl
      show (pure (X.env.blockKind == .function && X.env.kindOf x == some .local && p.line == pos.line && !(scope.names.any fun (n, k) => n == x && (k == .local || k == .cell))) : Sem Bool) = pure false
      congr 1
      rw [hb]
      cases hk : X.env.scope.names.lookup x with
      | none =>
        have e : X.env.kindOf x = none := hk
        rw [e]; rfl
      | some kd =>
        have e : X.env.kindOf x = some kd := hk
        rw [e]
        rw [hk] at hs
        cases kd with
        | «local» => exact hs
        | _ => rfl
  · cases q
theorem ss_appr (n : Nat) (j i : E) : SndS U Y (.appr n j i) := .mk0 fun {c X W st} k o q => by
  unfold chks at q
  dsimp only at q
  split at q
  · obtain ⟨q, q7⟩ := and2 q
    obtain ⟨q, q6⟩ := and2 q
    obtain ⟨q, q5⟩ := and2 q
    obtain ⟨q, q4⟩ := and2 q
    obtain ⟨q, q3⟩ := and2 q
    obtain ⟨q1, q2⟩ := and2 q
    cases of_decide_eq_true q1
    exact Ys.one (ps_expr (pe_bm PySem.F.plainAttrs_list PySem.F.slot_list_append PySem.F.type_list_append mt_append (pe_ix ix_list (var_pe k.toCok q2) ew (plain_ix q4)) (pa_cons ew pa_nil (star_cons q5)) (attr_base rfl) (few_ok q5) q3 (star_cons q5) rfl) (sw_plain rfl))
      (s_appr (ye_of j k.toCok o.1 q6) (ye_of i k.toCok o.2 q7))
  · cases q
theorem ss_forp (t : Tg) (j n : Nat) (m : Str) (f : List D → Res D) (i : E) {b : S} (hb : SndS U Y b) : SndS U Y (.forp t j n m f i b) := .mk0 fun {c X W st} k o q => by
  unfold chks at q
  dsimp only at q
  split at q
  · obtain ⟨q, q10⟩ := and2 q
    obtain ⟨q, q9⟩ := and2 q
    obtain ⟨q, q8⟩ := and2 q
    obtain ⟨q, q7⟩ := and2 q
    obtain ⟨q, q6⟩ := and2 q
    obtain ⟨q, q5⟩ := and2 q
    obtain ⟨q, q4⟩ := and2 q
    obtain ⟨q, q3⟩ := and2 q
    obtain ⟨q1, q2⟩ := and2 q
    cases of_decide_eq_true q1
    cases of_decide_eq_true q2
    have q3 := of_decide_eq_true q3
    obtain ⟨x, a, hx, kk, C, fa, fd, ps, hr, ho, hc, hm, hbd, F⟩ := (show FC U c X 1 n f from o.1)
    rw [q3] at hx
    cases hx
    refine Ys.one (ps_for k.ps k.calm (pi_list (pe_methX ew hc hm F hr hbd (fun σ => passAt k.tk σ) (pa_cons (pe_bm0 PySem.F.plainAttrs_list PySem.F.slot_list_pop PySem.F.type_list_pop mt_pop (var_pe k.toCok q8) (attr_base rfl) q6) pa_nil (star_cons rfl)) (star_cons rfl) rfl (eval_meth q4 q5 rfl (show 1 < 29 by decide)))) (tg_pg k.toCok q7) bs (folded_no rfl)) (s_forp ho (ye_of i k.toCok o.2.1 q9) (hb.b k o.2.2 q10))
  · cases q
theorem ss_drop (i : E) : SndS U Y (.drop i) := .mk0 fun {c X W st} k o q => by
  unfold chks at q
  dsimp only at q
  split at q
  · obtain ⟨q1, q2⟩ := and2 q
    exact Ys.one (ps_expr ew (sw_plain q1)) (s_drop (ye_of i k.toCok o q2))
  · cases q
theorem ss_ifs (t : E) {a b : S} (ha : SndS U Y a) (hb : SndS U Y b) : SndS U Y (.ifs t a b) := .mk0 fun {c X W st} k o q => by
  unfold chks at q
  dsimp only at q
  split at q
  · obtain ⟨q, q3⟩ := and2 q
    obtain ⟨q1, q2⟩ := and2 q
    exact Ys.one (ps_if tw bs bs) (s_ifs (yt_of t k.toCok o.1 q1) (ha.b k o.2.1 q2) (hb.b k o.2.2 q3))
  · cases q
theorem ss_forr (t : Tg) (i : E) {b : S} (hb : SndS U Y b) : SndS U Y (.forr t i b) := .mk0 fun {c X W st} k o q => by
  unfold chks at q
  dsimp only at q
  split at q
  · obtain ⟨q, q4⟩ := and2 q
    obtain ⟨q, q3⟩ := and2 q
    obtain ⟨q1, q2⟩ := and2 q
    exact Ys.one (ps_for k.ps k.calm iw (tg_pg k.toCok q2) bs (folded_no q1)) (s_for (yi_of i k.toCok o.1 q3) (hb.b k o.2 q4))
  · cases q
theorem ss_whil (n : Nat) (t : E) {b : S} (hb : SndS U Y b) : SndS U Y (.whil n t b) := .mk0 fun {c X W st} k o q => by
  unfold chks at q
  dsimp only at q
  split at q
  · obtain ⟨q1, q2⟩ := and2 q
    exact Ys.one (ps_while k.ps tw bs) (s_whil (yt_of t k.toCok o.1 q1) (hb.b k o.2 q2))
  · cases q
theorem ss_ret (i : E) : SndS U Y (.ret i) := .mk0 fun {c X W st} k o q => by
  unfold chks at q
  dsimp only at q
  split at q
  · exact Ys.one (ps_ret ew) (s_ret (ye_of i k.toCok o q))
  · cases q
theorem ss_rai (n : Nat) : SndS U Y (.rai n) := .mk0 fun {c X W st} k o q => by
  unfold chks at q
  dsimp only at q
  split at q
  · obtain ⟨q, q3⟩ := and2 q
    obtain ⟨q1, q2⟩ := and2 q
    cases of_decide_eq_true q2
    obtain ⟨C, hC, B, newId, initId, bmB, F, h1, h2, h3, h4⟩ := k.rai n (of_decide_eq_true q1)
    exact Ys.one (ps_raise k.calm k.tk (pmk_own F h1 h2 h3 h4 (gl_of k.toCok q3).1 (gl_of k.toCok q3).2)) (s_rai hC)
  · cases q
theorem ss_brk : SndS U Y .brk := .mk0 fun {c X W st} k o q => by
  unfold chks at q
  dsimp only at q
  split at q
  · exact Ys.one ps_break s_brk
  · cases q
theorem cokS_tr (k : CokS U c X W) {W' : WX} {pn : List (Addr × Obj)} {xe : Value → Shared → Prop} (tk : Takes (X.tr pn xe) W') (ps : PassesOwn (model X.prog X.w) X.A X.env xe) : CokS U c (X.tr pn xe) W' :=
  { N := k.N, nd := k.nd, sc := k.sc, fn := k.fn, calm := k.calm, tk := tk, hu := k.hu, bi := k.bi, rg := k.rg, isi := k.isi, ty := fun t => ⟨(k.ty t).val⟩, na := k.na, rv := k.rv, set := k.set, ndi := k.ndi, fr := fun _ => ⟨k.stack, k.frame⟩, kind := k.kind, stack := k.stack, frame := k.frame, ex := k.ex, ps := ps, rai := k.rai, exm := k.exm }
theorem ss_tryk {b : S} (n j i : Nat) (hb : SndS U Y b) : SndS U Y (.tryk b n j i) := .mk0 fun {c X W st} k o q => by
  unfold chks at q
  dsimp only at q
  split at q
  · rename_i body x np nm m kp n2 ep sp pos' pos
    obtain ⟨q, q12⟩ := and2 q
    obtain ⟨q, q11⟩ := and2 q
    obtain ⟨q, q10⟩ := and2 q
    obtain ⟨q, q9⟩ := and2 q
    obtain ⟨q, q8⟩ := and2 q
    obtain ⟨q, q7⟩ := and2 q
    obtain ⟨q, q6⟩ := and2 q
    obtain ⟨q, q5⟩ := and2 q
    obtain ⟨q, q4⟩ := and2 q
    obtain ⟨q, q3⟩ := and2 q
    obtain ⟨q1, q2⟩ := and2 q
    have q1 := of_decide_eq_true q1
    cases of_decide_eq_true q2
    cases of_decide_eq_true q8
    have q4 := of_decide_eq_true q4
    have q5 := of_decide_eq_true q5
    have q6 := of_decide_eq_true q6
    have q7 := of_decide_eq_true q7
    obtain ⟨cv, m1, m2⟩ := k.exm n q1
    have hij : i ≠ j := by simpa using q11
    have hlt : i < X.N.length := by rw [k.N]; exact (List.getElem?_eq_some_iff.mp q4).1
    refine Ys.one (ps_try_keep (tb := fun W' D σ H => ∀ pn xe, Takes (X.tr pn xe) W' → PassesOwn (model X.prog X.w) X.A X.env xe → Bs (X.tr pn xe) body D σ H) k.stack k.frame k.ex (nd_of k.toCok) (by rw [k.N]; exact q4) (by show X.env.scope.names.lookup _ = _; rw [k.sc]; exact q5) (by rw [k.N]; exact q6) (by rw [k.sc]; exact q7) hlt
      ⟨(gl_of k.toCok q3).1, (gl_of k.toCok q3).2, .inl m1⟩ k.tk (not1 q9) (not1 q10) fun W' pn xe tk ps => ⟨fun pins s σ H D I h => h pn xe tk ps pins s I⟩) ?_
    refine s_try (tb := fun W' D σ H => ∀ pn xe, Takes (X.tr pn xe) W' → PassesOwn (model X.prog X.w) X.A X.env xe → Bs (X.tr pn xe) body D σ H) hij m2 (fun W' => ?_)
    intro Hb D σ Z H env kp hE cn pn xe tk ps
    exact hb.b (cokS_tr k tk ps) o q12 Hb D σ Z H env kp hE cn
  · cases q
theorem ss_all (i : S) : SndS U Y i := by
  induction i with
  | nil => exact ss_nil
  | cons s r hs hr => exact ss_cons hs hr
  | asg i e => exact ss_asg i e
  | asgT is e => exact ss_asgT is e
  | new i e => exact ss_new i e
  | newd i => exact ss_newd i
  | app i e => exact ss_app i e
  | ext i e => exact ss_ext i e
  | seti i k e => exact ss_seti i k e
  | setd i k e => exact ss_setd i k e
  | appPop i j e => exact ss_appPop i j e
  | seta i x e => exact ss_seta i x e
  | newn i => exact ss_newn i
  | newk i k e => exact ss_newk i k e
  | setn i k e => exact ss_setn i k e
  | newr i own t it => exact ss_newr i own t it
  | appr i k e => exact ss_appr i k e
  | forp t j n m f a b hb => exact ss_forp t j n m f a hb
  | drop e => exact ss_drop e
  | ifs c a b ha hb => exact ss_ifs c ha hb
  | forr t it b hb => exact ss_forr t it hb
  | whil n c b hb => exact ss_whil n c hb
  | ret e => exact ss_ret e
  | rai c => exact ss_rai c
  | brk => exact ss_brk
  | tryk b c k n hb => exact ss_tryk c k n hb
  | frz => exact .mk0 fun k o q => no q
  | retf i => exact ss_retf i
  | rete e => exact ss_rete e
  | retc k f es => exact ss_retc k f es
  | retm e => exact ss_retm e
  | dapp k m f a e => exact ss_dapp k m f a e
  | callm i k m f es => exact ss_callm i k m f es
  | ifx me i k x f es e a b ha hb => exact ss_ifx me i k x f es e ha hb
  | frz1 i => exact .mk0 fun k o q => no q
  | fapp i x y => exact ss_fapp i x y
  | fswp i x a b => exact ss_fswp i x a b
  | fins i x a b => exact ss_fins i x a b
  | frev i x a b => exact ss_frev i x a b
  | fpop i x y => exact ss_fpop i x y
  | swp i a b => exact ss_swp i a b
  | par i j a b => exact ss_par i j a b
  | setr i x e => exact ss_setr i x e
  | seto i x => exact ss_seto i x
  | hnew i w r => exact ss_hnew i w r
  | hmk i h k f => exact ss_hmk i h k f
  | happ i z e => exact ss_happ i z e
end
/-! ### a def -/
/-- what the module says -/
structure Md (U : Ux) (P : Program) (w : World) (K : PySem.W.Frag) (mg : Str → Option Value) : Prop where
  rv : mg "reversed" = none
  set : mg "set" = none
  ndi : U.nd = NDict P w
  bi : ∀ k : Bi, mg k.name = none
  rg : mg "range" = none
  isi : mg "isinstance" = none
  ty : ∀ X : Cx, X.K = K → X.mg = mg → ∀ t : Ty, TyIs U X t.nm t
  rai : ∀ k, k < 5 → ∃ C, U.ec k = some C ∧ ∃ (B newId initId : String) (bmB : List Value), ExcBaseFacts B newId initId bmB ∧ PySem.W.excIn K C bmB newId = true ∧ mg (Ty.cls k).nm = some (.ref C) ∧ PySem.W.keepIn K (.ref C) = true ∧ ∀ X : Cx, X.K = K → Raises X (.ref C)
  exm : ∀ k, k < 6 → ∃ cv, mg (Ty.cls k).nm = some cv ∧ ∀ c', c' < 5 → ∃ C, U.ec c' = some C ∧ PySem.W.exmOne K (.ref C) cv = some (below c' k)
/-- the def named x, of m parameters, is f: at level k -/
def DefIs (U : Ux) (P : Program) (w : World) (K : PySem.W.Frag) (mg : Str → Option Value) (base : Heap) (k : Nat) (x : Str) (m : Nat) (f : List D → Res D) : Prop :=
  ∃ (fa : Addr) (fd : FuncData) (ps : List Str), mg x = some (.ref fa) ∧ PySem.W.keepIn K (.ref fa) = true ∧ Binds K fd ps [] ∧ FnOk P w K mg base (L2.CX P w) k fa fd ps (spD U K m f)
theorem DefIs.mono {U : Ux} {P : Program} {w : World} {K : PySem.W.Frag} {mg : Str → Option Value} {base : Heap} {j k : Nat} {x : Str} {m : Nat} {f : List D → Res D} (h : DefIs U P w K mg base j x m f) (le : j ≤ k) : DefIs U P w K mg base k x m f := by
  obtain ⟨fa, fd, ps, h1, h2, h3, h4⟩ := h
  exact ⟨fa, fd, ps, h1, h2, h3, h4.mono le⟩
def GlIs (U : Ux) (K : PySem.W.Frag) (mg : Str → Option Value) : Str → D → Prop := fun x d => ∃ v cv, mg x = some cv ∧ RelV v cv ∧ ∀ H, Dat U K H v d
theorem E.cl_mono {pc pc' : Nat → Nat → (List D → Res D) → Prop} {pg pg' : Str → D → Prop} (h1 : ∀ z k f, pc z k f → pc' z k f) (h2 : ∀ x d, pg x d → pg' x d) : ∀ {i : E}, i.cl pc pg → i.cl pc' pg' := by
  intro i
  induction i with
  | glb x d => exact h2 x d
  | call k f es ih => exact fun h => ⟨h1 0 k f h.1, ih h.2⟩
  | att _ _ ha => exact fun h => ha h
  | ind _ _ _ ha hb => exact fun h => ⟨ha h.1, hb h.2⟩
  | srt _ ha => exact fun h => ha h
  | srs _ ha => exact fun h => ha h
  | rvs _ ha => exact fun h => ha h
  | mth k _ f _ _ ha hb => exact fun h => ⟨h1 1 k f h.1, ha h.2.1, hb h.2.2⟩
  | mk k f es ih => exact fun h => ⟨h1 2 k f h.1, ih h.2⟩
  | bin _ _ _ ha hb => exact fun h => ⟨ha h.1, hb h.2⟩
  | neg _ ha => exact fun h => ha h
  | not _ ha => exact fun h => ha h
  | cmp _ _ _ ha hb => exact fun h => ⟨ha h.1, hb h.2⟩
  | ch2 _ _ _ _ _ ha hb hc => exact fun h => ⟨ha h.1, hb h.2.1, hc h.2.2⟩
  | ch3 _ _ _ _ _ _ _ ha hb hc hd => exact fun h => ⟨ha h.1, hb h.2.1, hc h.2.2.1, hd h.2.2.2⟩
  | and _ ha => exact fun h => ha h
  | or _ ha => exact fun h => ha h
  | ite _ _ _ hc ha hb => exact fun h => ⟨hc h.1, ha h.2.1, hb h.2.2⟩
  | cons _ _ ha hb => exact fun h => ⟨ha h.1, hb h.2⟩
  | tup _ ha => exact fun h => ha h
  | lst _ ha => exact fun h => ha h
  | ix _ _ ha hb => exact fun h => ⟨ha h.1, hb h.2⟩
  | sl _ _ _ ha hb hc => exact fun h => ⟨ha h.1, hb h.2.1, hc h.2.2⟩
  | rev _ ha => exact fun h => ha h
  | bi _ _ ha => exact fun h => ha h
  | maxd _ _ ha hb => exact fun h => ⟨ha h.1, hb h.2⟩
  | lrg _ ha => exact fun h => ha h
  | isi _ _ ha => exact fun h => ha h
  | mt _ _ _ ha hb => exact fun h => ⟨ha h.1, hb h.2⟩
  | ms _ _ _ ha hb => exact fun h => ⟨ha h.1, hb h.2⟩
  | lc _ _ _ _ _ ha hb hc => exact fun h => ⟨ha h.1, hb h.2.1, hc h.2.2⟩
  | rng1 _ ha => exact fun h => ha h
  | rng2 _ _ ha hb => exact fun h => ⟨ha h.1, hb h.2⟩
  | _ => exact fun _ => trivial
theorem S.cl_mono {pc pc' : Nat → Nat → (List D → Res D) → Prop} {pg pg' : Str → D → Prop} {pm pm' : Nat → Nat → Fm → Prop} (h1 : ∀ z k f, pc z k f → pc' z k f) (h2 : ∀ x d, pg x d → pg' x d) (h3 : ∀ z k f, pm z k f → pm' z k f) : ∀ {i : S}, i.cl pc pg pm → i.cl pc' pg' pm' := by
  intro i
  induction i with
  | cons _ _ ha hb => exact fun h => ⟨ha h.1, hb h.2⟩
  | asg _ e => exact fun h => E.cl_mono h1 h2 h
  | asgT _ e => exact fun h => E.cl_mono h1 h2 h
  | new _ e => exact fun h => E.cl_mono h1 h2 h
  | app _ e => exact fun h => E.cl_mono h1 h2 h
  | ext _ e => exact fun h => E.cl_mono h1 h2 h
  | seti _ k e => exact fun h => ⟨E.cl_mono h1 h2 h.1, E.cl_mono h1 h2 h.2⟩
  | setd _ k e => exact fun h => ⟨E.cl_mono h1 h2 h.1, E.cl_mono h1 h2 h.2⟩
  | appPop _ _ e => exact fun h => E.cl_mono h1 h2 h
  | seta _ _ e => exact fun h => E.cl_mono h1 h2 h
  | newk _ k e => exact fun h => ⟨E.cl_mono h1 h2 h.1, E.cl_mono h1 h2 h.2⟩
  | setn _ k e => exact fun h => ⟨E.cl_mono h1 h2 h.1, E.cl_mono h1 h2 h.2⟩
  | newr _ _ _ it => exact fun h => E.cl_mono h1 h2 h
  | appr _ k e => exact fun h => ⟨E.cl_mono h1 h2 h.1, E.cl_mono h1 h2 h.2⟩
  | forp _ _ k _ f _ _ hb => exact fun h => ⟨h1 1 k f h.1, E.cl_mono h1 h2 h.2.1, hb h.2.2⟩
  | drop e => exact fun h => E.cl_mono h1 h2 h
  | ifs c a b ha hb => exact fun h => ⟨E.cl_mono h1 h2 h.1, ha h.2.1, hb h.2.2⟩
  | forr _ it b hb => exact fun h => ⟨E.cl_mono h1 h2 h.1, hb h.2⟩
  | whil _ c b hb => exact fun h => ⟨E.cl_mono h1 h2 h.1, hb h.2⟩
  | ret e => exact fun h => E.cl_mono h1 h2 h
  | tryk b _ _ _ hb => exact fun h => hb h
  | rete e => exact fun h => E.cl_mono h1 h2 h
  | retc k f es => exact fun h => ⟨h1 3 k f h.1, E.cl_mono h1 h2 h.2⟩
  | retm e => exact fun h => E.cl_mono h1 h2 h
  | dapp k m f a e => exact fun h => ⟨h1 4 k f h.1, E.cl_mono h1 h2 h.2.1, E.cl_mono h1 h2 h.2.2⟩
  | callm i k m f es => exact fun h => ⟨h3 0 k f h.1, E.cl_mono h1 h2 h.2⟩
  | ifx me i k x f es e a b ha hb => exact fun h => ⟨h3 _ k f h.1, E.cl_mono h1 h2 h.2.1, E.cl_mono h1 h2 h.2.2.1, ha h.2.2.2.1, hb h.2.2.2.2⟩
  | par i j a b => exact fun h => ⟨E.cl_mono h1 h2 h.1, E.cl_mono h1 h2 h.2⟩
  | setr i x e => exact fun h => E.cl_mono h1 h2 h
  | hmk i h k f => exact fun q => h3 2 k f q
  | happ i z e => exact fun h => E.cl_mono h1 h2 h
  | _ => exact fun _ => trivial
section
variable {U : Ux} {P : Program} {w : World} {K : PySem.W.Frag} {mg : Str → Option Value} {base : Heap}
/-- the tables of a def: the defs that are called, attributes, methods, classes -/
structure Tb where
  T : List (Str × Nat)
  F : List Str := []
  M : List (Str × Nat) := []
  B : List (Str × Nat) := []
def Tb.ck (t : Tb) (N : List Str) (sc : Scope) : Ck := { N := N, sc := sc, inn := none, T := t.T, F := t.F, M := t.M, B := t.B }
/-- the method m, of n parameters behind the object, is f: at level k -/
def MetIs (U : Ux) (P : Program) (w : World) (K : PySem.W.Frag) (mg : Str → Option Value) (base : Heap) (k : Nat) (m : Str) (n : Nat) (f : List D → Res D) : Prop :=
  ∃ (C fa : Addr) (fd : FuncData) (ps : List Str), U.oc 0 = some C ∧ L2.Cls K C ∧ Meth K C m fa ∧ Binds K fd ps [] ∧ FnOk P w K mg base (L2.CX P w) k fa fd ps (spD U K (n + 1) f)
theorem MetIs.mono {j k : Nat} {m : Str} {n : Nat} {f : List D → Res D} (h : MetIs U P w K mg base j m n f) (le : j ≤ k) : MetIs U P w K mg base k m n f := by
  obtain ⟨C, fa, fd, ps, h1, h2, h3, h4, h5⟩ := h
  exact ⟨C, fa, fd, ps, h1, h2, h3, h4, h5.mono le⟩
/-- the class named x makes objects by f: at level k -/
def MakIs (U : Ux) (P : Program) (w : World) (K : PySem.W.Frag) (mg : Str → Option Value) (base : Heap) (k : Nat) (x : Str) (n : Nat) (f : List D → Res D) : Prop :=
  ∃ (j : Nat) (C fa : Addr) (fd : FuncData) (ps : List Str) (g : Nat → List D → Res (List (Str × Fl))), j + 1 ≤ k ∧ U.oc 0 = some C ∧ mg x = some (.ref C) ∧ Mk K C fa ∧ Binds K fd ps [] ∧ f = mkD g ∧ FnOk P w K mg base (L2.CX P w) j fa fd ps (spI U K n g)
theorem MakIs.mono {j k : Nat} {x : Str} {n : Nat} {f : List D → Res D} (h : MakIs U P w K mg base j x n f) (le : j ≤ k) : MakIs U P w K mg base k x n f := by
  obtain ⟨i, C, fa, fd, ps, g, h1, h2⟩ := h
  exact ⟨i, C, fa, fd, ps, g, Nat.le_trans h1 le, h2⟩
/-- the def named x gives a new list; the method m; the def named x changes an object; the method m; the class named x copies -/
def DefIsF (U : Ux) (P : Program) (w : World) (K : PySem.W.Frag) (mg : Str → Option Value) (base : Heap) (k : Nat) (x : Str) (m : Nat) (f : List D → Res D) : Prop :=
  ∃ (fa : Addr) (fd : FuncData) (ps : List Str), mg x = some (.ref fa) ∧ PySem.W.keepIn K (.ref fa) = true ∧ Binds K fd ps [] ∧ FnOk P w K mg base (L2.CX P w) k fa fd ps (spF U K m f)
theorem spF_D {U : Ux} {K : PySem.W.Frag} {n : Nat} {f : List D → Res D} {vs : List V} {H : Hp} {Q : VK} {E : XK} (h : spD U K n f vs H Q E) : spF U K n f vs H Q E := by
  obtain ⟨h1, Z, ds, h2, h3, h4⟩ := h
  refine ⟨h1, Z, ds, h2, h3, ?_⟩
  cases hr : f ds with
  | ok d => rw [hr] at h4; exact fun v H' e dv _ => h4 v H' e dv
  | exc c => rw [hr] at h4; exact h4
  | bad => rw [hr] at h4; exact h4
theorem DefIsF.mono {j k : Nat} {x : Str} {m : Nat} {f : List D → Res D} (h : DefIsF U P w K mg base j x m f) (le : j ≤ k) : DefIsF U P w K mg base k x m f := by
  obtain ⟨fa, fd, ps, h1, h2, h3, h4⟩ := h
  exact ⟨fa, fd, ps, h1, h2, h3, h4.mono le⟩
theorem DefIsF.dat {j : Nat} {x : Str} {m : Nat} {f : List D → Res D} (h : DefIsF U P w K mg base j x m f) : DefIs U P w K mg base j x m f := by
  obtain ⟨fa, fd, ps, h1, h2, h3, h4⟩ := h
  exact ⟨fa, fd, ps, h1, h2, h3, h4.imp fun _ _ _ _ => spF_D⟩
def MetIsF (U : Ux) (P : Program) (w : World) (K : PySem.W.Frag) (mg : Str → Option Value) (base : Heap) (k : Nat) (m : Str) (n : Nat) (f : List D → Res D) : Prop :=
  ∃ (C fa : Addr) (fd : FuncData) (ps : List Str), U.oc 0 = some C ∧ L2.Cls K C ∧ Meth K C m fa ∧ Binds K fd ps [] ∧ FnOk P w K mg base (L2.CX P w) k fa fd ps (spF U K (n + 1) f)
theorem MetIsF.mono {j k : Nat} {m : Str} {n : Nat} {f : List D → Res D} (h : MetIsF U P w K mg base j m n f) (le : j ≤ k) : MetIsF U P w K mg base k m n f := by
  obtain ⟨C, fa, fd, ps, h1, h2, h3, h4, h5⟩ := h
  exact ⟨C, fa, fd, ps, h1, h2, h3, h4, h5.mono le⟩
theorem MetIsF.dat {j : Nat} {m : Str} {n : Nat} {f : List D → Res D} (h : MetIsF U P w K mg base j m n f) : MetIs U P w K mg base j m n f := by
  obtain ⟨C, fa, fd, ps, h1, h2, h3, h4, h5⟩ := h
  exact ⟨C, fa, fd, ps, h1, h2, h3, h4, h5.imp fun _ _ _ _ => spF_D⟩
def DefIsM (U : Ux) (P : Program) (w : World) (K : PySem.W.Frag) (mg : Str → Option Value) (base : Heap) (k : Nat) (x : Str) (n : Nat) (f : Fm) : Prop :=
  ∃ (fa : Addr) (fd : FuncData) (ps : List Str), mg x = some (.ref fa) ∧ PySem.W.keepIn K (.ref fa) = true ∧ Binds K fd ps [] ∧ FnOk P w K mg base (L2.CX P w) k fa fd ps (spM U K n f)
theorem DefIsM.mono {j k : Nat} {x : Str} {m : Nat} {f : Fm} (h : DefIsM U P w K mg base j x m f) (le : j ≤ k) : DefIsM U P w K mg base k x m f := by
  obtain ⟨fa, fd, ps, h1, h2, h3, h4⟩ := h
  exact ⟨fa, fd, ps, h1, h2, h3, h4.mono le⟩
def MetIsM (U : Ux) (P : Program) (w : World) (K : PySem.W.Frag) (mg : Str → Option Value) (base : Heap) (k : Nat) (m : Str) (n : Nat) (f : Fm) : Prop :=
  ∃ (C fa : Addr) (fd : FuncData) (ps : List Str), U.oc 0 = some C ∧ L2.Cls K C ∧ Meth K C m fa ∧ Binds K fd ps [] ∧ FnOk P w K mg base (L2.CX P w) k fa fd ps (spM U K n f)
theorem MetIsM.mono {j k : Nat} {m : Str} {n : Nat} {f : Fm} (h : MetIsM U P w K mg base j m n f) (le : j ≤ k) : MetIsM U P w K mg base k m n f := by
  obtain ⟨C, fa, fd, ps, h1, h2, h3, h4, h5⟩ := h
  exact ⟨C, fa, fd, ps, h1, h2, h3, h4, h5.mono le⟩
def MakIsJ (U : Ux) (P : Program) (w : World) (K : PySem.W.Frag) (mg : Str → Option Value) (base : Heap) (k : Nat) (x : Str) (f : Fm) : Prop :=
  ∃ (j : Nat) (C fa : Addr) (fd : FuncData) (ps : List Str), j + 1 ≤ k ∧ U.oc 0 = some C ∧ mg x = some (.ref C) ∧ Mk K C fa ∧ Binds K fd ps [] ∧ FnOk P w K mg base (L2.CX P w) j fa fd ps (spJ U K f)
theorem MakIsJ.mono {j k : Nat} {x : Str} {f : Fm} (h : MakIsJ U P w K mg base j x f) (le : j ≤ k) : MakIsJ U P w K mg base k x f := by
  obtain ⟨i, C, fa, fd, ps, h1, h2⟩ := h
  exact ⟨i, C, fa, fd, ps, Nat.le_trans h1 le, h2⟩
/-- the calls that change an object -/
def PmIs (U : Ux) (P : Program) (w : World) (K : PySem.W.Frag) (mg : Str → Option Value) (base : Heap) (k : Nat) (t : Tb) : Nat → Nat → Fm → Prop
  | 0, j, g => ∃ y m, t.M[j]? = some (y, m) ∧ MetIsM U P w K mg base k y m g
  | 1, j, g => ∃ y m, t.T[j]? = some (y, m + 1) ∧ DefIsM U P w K mg base k y m g
  | _, j, g => ∃ y, t.B[j]? = some (y, 2) ∧ MakIsJ U P w K mg base k y g
/-- what is called -/
def PcIs (U : Ux) (P : Program) (w : World) (K : PySem.W.Frag) (mg : Str → Option Value) (base : Heap) (k : Nat) (t : Tb) : Nat → Nat → (List D → Res D) → Prop
  | 0, j, g => ∃ y m, t.T[j]? = some (y, m) ∧ DefIs U P w K mg base k y m g
  | 1, j, g => ∃ y m, t.M[j]? = some (y, m) ∧ MetIs U P w K mg base k y m g
  | 3, j, g => ∃ y m, t.T[j]? = some (y, m) ∧ DefIsF U P w K mg base k y m g
  | 4, j, g => ∃ y m, t.M[j]? = some (y, m) ∧ MetIsF U P w K mg base k y m g
  | _, j, g => ∃ y m, t.B[j]? = some (y, m) ∧ MakIs U P w K mg base k y m g
section
variable {CX : CXT} {qual : Str} {scope : Scope} {f : Addr} {cdv : Value} {A : Around} {outer : List PySem.Env} {s : Shared} {H : Hp} {E : XK} {N ps : List Str} {k : Nat} {t : Tb} {b : S}
theorem cok_def (hu : (cxOf (L2.CX P w) P w K mg base N qual scope f cdv A outer s H E).A.units + 64 < cLine) (Sc : FnScope N ps scope) (M : Md U P w K mg) (na : ∀ y, y ∈ t.F → NaOk U K y) (X : Cx) (hX : cxOf (L2.CX P w) P w K mg base N qual scope f cdv A outer s H E = X) : CokS U (t.ck N scope) X (fun cls d _ H => E cls d H) := by
  subst hX
  refine { N := rfl, nd := Sc.nd, sc := rfl, fn := fun _ _ => .inl rfl, calm := rfl, tk := takes_of rfl rfl rfl rfl, hu := hu, bi := M.bi, rg := M.rg, isi := M.isi, ty := M.ty _ rfl rfl, na := na, rv := M.rv, set := M.set, ndi := M.ndi, fr := fun _ => ⟨rfl, rfl⟩, kind := Sc.kind, stack := rfl, frame := rfl, ex := rfl, ps := passes_of rfl, rai := fun j hj => ?_, exm := M.exm }
  obtain ⟨C, h1, B, n1, n2, bm, h2, h3, h4, h5, h6⟩ := M.rai j hj
  exact ⟨C, h1, B, n1, n2, bm, h2, h3, h4, h5, h6 _ rfl⟩
theorem ok_def (hr : Room k (cxOf (L2.CX P w) P w K mg base N qual scope f cdv A outer s H E).A) (o : b.cl (PcIs U P w K mg base k t) (GlIs U K mg) (PmIs U P w K mg base k t)) : b.ok U (t.ck N scope) (cxOf (L2.CX P w) P w K mg base N qual scope f cdv A outer s H E) := by
  refine S.cl_mono (fun z j g h => ?_) (fun _ _ h => h) (fun z j g h => ?_) o
  rotate_left
  · match z, h with
    | 0, h =>
      obtain ⟨y, m, h1, C, fa, fd, ps, h2, h3, h4, h5, h6⟩ := h
      exact ⟨y, m, h1, k, C, fa, fd, ps, hr, h2, h3, h4, h5, h6⟩
    | 1, h =>
      obtain ⟨y, m, h1, fa, fd, ps, h2, h3, h4, h5⟩ := h
      exact ⟨y, m, h1, k, fa, fd, ps, hr, h2, h3, h4, h5⟩
    | z + 2, h =>
      obtain ⟨y, h1, j, C, fa, fd, ps, h2, h3, h4, h5, h6, h7⟩ := h
      exact ⟨y, h1, j, C, fa, fd, ps, hr.mono h2, h3, h4, h5, h6, h7⟩
  match z, h with
  | 0, h =>
    obtain ⟨y, m, h1, fa, fd, ps, h2, h3, h4, h5⟩ := h
    exact ⟨y, m, h1, k, fa, fd, ps, hr, h2, h3, h4, h5⟩
  | 1, h =>
    obtain ⟨y, m, h1, C, fa, fd, ps, h2, h3, h4, h5, h6⟩ := h
    exact ⟨y, m, h1, k, C, fa, fd, ps, hr, h2, h3, h4, h5, h6⟩
  | 3, h =>
    obtain ⟨y, m, h1, fa, fd, ps, h2, h3, h4, h5⟩ := h
    exact ⟨y, m, h1, k, fa, fd, ps, hr, h2, h3, h4, h5⟩
  | 4, h =>
    obtain ⟨y, m, h1, C, fa, fd, ps, h2, h3, h4, h5, h6⟩ := h
    exact ⟨y, m, h1, k, C, fa, fd, ps, hr, h2, h3, h4, h5, h6⟩
  | 2, h =>
    obtain ⟨y, m, h1, j, C, fa, fd, ps, g, h2, h3, h4, h5, h6, h7, h8⟩ := h
    exact ⟨y, m, h1, j, C, fa, fd, ps, g, hr.mono h2, h3, h4, h5, h6, h7, h8⟩
  | z + 5, h =>
    obtain ⟨y, m, h1, j, C, fa, fd, ps, g, h2, h3, h4, h5, h6, h7, h8⟩ := h
    exact ⟨y, m, h1, j, C, fa, fd, ps, g, hr.mono h2, h3, h4, h5, h6, h7, h8⟩
end
theorem startI {U : Ux} {K : PySem.W.Frag} {Z : List Addr} {H : Hp} {x C dx : Addr} {ws : List V} {ds : List D} {r : Nat} (z : Zt Z H) (h : DatL U K (view H (x :: Z)) ws ds) (N : List Str) (hl : ws.length + 1 ≤ N.length) (ho : U.oc 0 = some C) (hx : H x = some (.ins C dx [])) (hxZ : x ∉ Z) (hr : N.length - ds.length - 1 = r) :
    EnvOk U K Z (x :: Z) H (L2.start N (.ref x :: ws)) (.ins x 0 [] :: ds.map .dat ++ List.replicate r .none) := by
  have e := h.length
  refine ⟨by simp [L2.start, e]; omega, fun _ z => List.mem_cons_of_mem _ z, z.cons hx, fun a => if a = x then [0] else [], fun i s q => ?_⟩
  cases i with
  | zero =>
    cases q
    exact ⟨C, dx, [], rfl, ⟨List.mem_cons_self, hxZ, if_pos rfl⟩, ho, hx, .nil⟩
  | succ i =>
    have q : (ds.map Slot.dat ++ List.replicate r Slot.none)[i]? = some s := q
    rw [List.getElem?_append] at q
    split at q
    · rename_i hi
      rw [List.length_map] at hi
      rw [List.getElem?_map, Option.map_eq_some_iff] at q
      obtain ⟨d, q2, rfl⟩ := q
      obtain ⟨v, hv, hd⟩ := h.get q2
      refine ⟨v, ?_, hd⟩
      show (L2.start N (.ref x :: ws))[i + 1]? = some (some v)
      unfold L2.start
      rw [List.getElem?_append_left (by rw [List.length_map, List.length_cons, e]; omega), List.getElem?_map, List.getElem?_cons_succ, hv]
      rfl
    · rw [List.getElem?_replicate] at q
      split at q
      · cases q; trivial
      · cases q
/-- THE RULE: a def whose body is checked against an IR is what the IR's interpreter gives -/
theorem def_ok {x qual : Str} {st : Stmt} {f : Addr} {fd : FuncData} {N ps : List Str} {k : Nat} {t : Tb} {b : S} (F : FunD K x qual (defArgs st) (defBody st) (defScope st) [] [] f fd) (Sc : FnScope N ps (defScope st)) (M : Md U P w K mg) (na : ∀ y, y ∈ t.F → NaOk U K y) (hb : (chks b (t.ck N (defScope st))).b (defBody st) = true)
    (o : b.cl (PcIs U P w K mg base k t) (GlIs U K mg) (PmIs U P w K mg base k t)) : FnOk P w K mg base (L2.CX P w) (k + 1) f fd ps (spD U K ps.length (run ps.length N.length b)) := by
  refine F.ok Sc (fun vs H Q E h => h.1) (fun cdv A outer s H vs Q E hr h => ?_)
  obtain ⟨hl, Z, ds, zt, dl, hres⟩ := h
  generalize hX : cxOf (L2.CX P w) P w K mg base N qual (defScope st) f cdv A outer s H E = X
  have k0 : CokS U (t.ck N (defScope st)) X (fun cls d _ H => E cls d H) := cok_def (by have := hr.un; show (A.deeper _).units + 64 < cLine; omega) Sc M na X hX
  refine ⟨Bs X (defBody st), bs, ?_⟩
  have hlen := dl.length
  have hpl : ps.length ≤ N.length := by have := congrArg List.length Sc.pre; rw [List.length_take] at this; omega
  have o' : b.ok U (t.ck N (defScope st)) X := by
    subst hX
    exact ok_def hr o
  have hK : X.K = K := by subst hX; rfl
  have main := (ss_all (U := U) (Y := Z) b).b k0 o' hb
  rw [hK] at main
  refine main H _ _ Z H _ Kp.start (EnvOk.start zt dl N (by omega)) ?_
  have hds : ds.length = ps.length := by rw [← hlen]; exact hl
  have hrun : run ps.length N.length b ds = match exS b (ds.map .dat ++ List.replicate (N.length - ps.length) .none) with
    | .ret d => .ok d
    | .nx _ => .ok .none
    | .exc c _ => .exc c
    | .retf xs => .ok (.list xs)
    | .retm d _ => .ok d
    | _ => .bad := by
    unfold run
    rw [decide_eq_true hds]
    all_goals cases exS b (ds.map .dat ++ List.replicate (N.length - ps.length) .none) <;> rfl
  rw [hrun] at hres
  rw [hds]
  cases hex : exS b (ds.map .dat ++ List.replicate (N.length - ps.length) .none) with
  | nx env =>
    rw [hex] at hres
    exact fun σ Z' H' kp hE => hres .non H' kp.ex .non
  | brk env => rw [hex] at hres; exact hres.elim
  | ret d =>
    rw [hex] at hres
    exact fun v H' e dv => hres v H' e dv
  | exc c env =>
    rw [hex] at hres
    obtain ⟨C, h1, h2⟩ := hres
    exact ⟨C, h1, fun σ Z' H' kp hE => h2 H' kp.ex⟩
  | bad => rw [hex] at hres; exact hres.elim
  | retf xs =>
    rw [hex] at hres
    exact fun p ws H' hp e hl hd => hres (.ref p) H' e (.lst (by rw [view_out (zt.not hp)]; exact hl) (hd.mono (view_sub H' p Z)))
  | retm d env =>
    rw [hex] at hres
    exact fun v σ Z' H' hs kp hE dv => hres v H' kp.ex (dv.scal hs _)
/-- a def that gives a new list -/
theorem def_okF {x qual : Str} {st : Stmt} {f : Addr} {fd : FuncData} {N ps : List Str} {k : Nat} {t : Tb} {b : S} (F : FunD K x qual (defArgs st) (defBody st) (defScope st) [] [] f fd) (Sc : FnScope N ps (defScope st)) (M : Md U P w K mg) (na : ∀ y, y ∈ t.F → NaOk U K y) (hb : (chks b (t.ck N (defScope st))).b (defBody st) = true)
    (o : b.cl (PcIs U P w K mg base k t) (GlIs U K mg) (PmIs U P w K mg base k t)) : FnOk P w K mg base (L2.CX P w) (k + 1) f fd ps (spF U K ps.length (runF ps.length N.length b)) := by
  refine F.ok Sc (fun vs H Q E h => h.1) (fun cdv A outer s H vs Q E hr h => ?_)
  obtain ⟨hl, Z, ds, zt, dl, hres⟩ := h
  generalize hX : cxOf (L2.CX P w) P w K mg base N qual (defScope st) f cdv A outer s H E = X
  have k0 : CokS U (t.ck N (defScope st)) X (fun cls d _ H => E cls d H) := cok_def (by have := hr.un; show (A.deeper _).units + 64 < cLine; omega) Sc M na X hX
  refine ⟨Bs X (defBody st), bs, ?_⟩
  have hlen := dl.length
  have hpl : ps.length ≤ N.length := by have := congrArg List.length Sc.pre; rw [List.length_take] at this; omega
  have o' : b.ok U (t.ck N (defScope st)) X := by
    subst hX
    exact ok_def hr o
  have hK : X.K = K := by subst hX; rfl
  have main := (ss_all (U := U) (Y := Z) b).b k0 o' hb
  rw [hK] at main
  refine main H _ _ Z H _ Kp.start (EnvOk.start zt dl N (by omega)) ?_
  have hds : ds.length = ps.length := by rw [← hlen]; exact hl
  have hrun : runF ps.length N.length b ds = match exS b (ds.map .dat ++ List.replicate (N.length - ps.length) .none) with
    | .exc c _ => .exc c
    | .retf xs => .ok (.list xs)
    | _ => .bad := by
    unfold runF
    rw [decide_eq_true hds]
    all_goals cases exS b (ds.map .dat ++ List.replicate (N.length - ps.length) .none) <;> rfl
  rw [hrun] at hres
  rw [hds]
  cases hex : exS b (ds.map .dat ++ List.replicate (N.length - ps.length) .none) with
  | exc c env =>
    rw [hex] at hres
    obtain ⟨C, h1, h2⟩ := hres
    exact ⟨C, h1, fun σ Z' H' kp hE => h2 H' kp.ex⟩
  | retf xs =>
    rw [hex] at hres
    exact fun p ws H' hp e hl hd => hres (.ref p) H' e (.lst (by rw [view_out (zt.not hp)]; exact hl) (hd.mono (view_sub H' p Z))) fun xs' z => by cases z; exact ⟨p, ws, rfl, hp, hl, hd⟩
  | _ => rw [hex] at hres; exact hres.elim
theorem startM {U : Ux} {K : PySem.W.Frag} {Y Z : List Addr} {H : Hp} {ow : Addr → List Nat} {x : Addr} {fs : List (Str × Fl)} {ws : List V} {ds : List D} {r : Nat} (sub : ∀ z ∈ Y, z ∈ Z) (z : Zt Z H) (hO : ObjAt U K Y Z H ow 0 x fs) (h : DatL U K (view H Z) ws ds) (N : List Str) (hl : ws.length + 1 ≤ N.length) (hr : N.length - ds.length - 1 = r) :
    EnvOk U K Y Z H (L2.start N (.ref x :: ws)) (.ins x 0 fs :: ds.map .dat ++ List.replicate r .none) := by
  have e := h.length
  refine ⟨by simp [L2.start, e]; omega, sub, z, ow, fun i s q => ?_⟩
  cases i with
  | zero =>
    cases q
    obtain ⟨h1, C, dx, vs, h2, h3, h4⟩ := hO
    exact ⟨C, dx, vs, rfl, h1, h2, h3, h4⟩
  | succ i =>
    have q : (ds.map Slot.dat ++ List.replicate r Slot.none)[i]? = some s := q
    rw [List.getElem?_append] at q
    split at q
    · rename_i hi
      rw [List.length_map] at hi
      rw [List.getElem?_map, Option.map_eq_some_iff] at q
      obtain ⟨d, q2, rfl⟩ := q
      obtain ⟨v, hv, hd⟩ := h.get q2
      refine ⟨v, ?_, hd⟩
      show (L2.start N (.ref x :: ws))[i + 1]? = some (some v)
      unfold L2.start
      rw [List.getElem?_append_left (by rw [List.length_map, List.length_cons, e]; omega), List.getElem?_map, List.getElem?_cons_succ, hv]
      rfl
    · rw [List.getElem?_replicate] at q
      split at q
      · cases q; trivial
      · cases q
theorem back_is {env : Env} {x : Addr} {g : List (Str × Fl) → Rm} {Q : Rm → Prop} (h : Q (backM x env g)) (hb : ¬ Q .bad) : ∃ fs, env.get 0 = .ins x 0 fs ∧ Q (g fs) := by
  unfold backM at h
  split at h
  · rename_i t' c fs hg
    split at h
    · rename_i ht
      obtain ⟨t1, t2⟩ := and2 ht
      cases of_decide_eq_true t1
      cases of_decide_eq_true t2
      exact ⟨fs, hg, h⟩
    · exact absurd h hb
  · exact absurd h hb
theorem back_at {U : Ux} {K : PySem.W.Frag} {Y Z : List Addr} {H : Hp} {σ : L2.St} {env : Env} {x : Addr} {fs : List (Str × Fl)} (hE : EnvOk U K Y Z H σ env) (hg : env.get 0 = .ins x 0 fs) : ∃ ow, ObjAt U K Y Z H ow 0 x fs := by
  obtain ⟨ow, q⟩ := hE.at_
  obtain ⟨C, dx, vs, h1, h2, h3, h4, h5⟩ := q 0 _ (get_ins hg)
  exact ⟨ow, h2, C, dx, vs, h3, h4, h5⟩
/-- a def that changes the object ahead -/
theorem def_okM {x qual : Str} {st : Stmt} {f : Addr} {fd : FuncData} {N ps : List Str} {k n : Nat} {t : Tb} {b : S} (F : FunD K x qual (defArgs st) (defBody st) (defScope st) [] [] f fd) (Sc : FnScope N ps (defScope st)) (M : Md U P w K mg) (na : ∀ y, y ∈ t.F → NaOk U K y) (hn : ps.length = n + 1) (hb : (chks b (t.ck N (defScope st))).b (defBody st) = true)
    (o : b.cl (PcIs U P w K mg base k t) (GlIs U K mg) (PmIs U P w K mg base k t)) : FnOk P w K mg base (L2.CX P w) (k + 1) f fd ps (spM U K n (stD (runM n N.length b))) := by
  refine F.ok Sc (fun vs H Q E h => by rw [hn]; exact h.1) (fun cdv A outer s H vs Q E hr h => ?_)
  obtain ⟨hl, x, ws, Y, Z, ow, fs, ds, rfl, sub, zt, hO, dl, hres⟩ := h
  generalize hX : cxOf (L2.CX P w) P w K mg base N qual (defScope st) f cdv A outer s H E = X
  have k0 : CokS U (t.ck N (defScope st)) X (fun cls d _ H => E cls d H) := cok_def (by have := hr.un; show (A.deeper _).units + 64 < cLine; omega) Sc M na X hX
  refine ⟨Bs X (defBody st), bs, ?_⟩
  have hlen := dl.length
  have hpl : ps.length ≤ N.length := by have := congrArg List.length Sc.pre; rw [List.length_take] at this; omega
  have o' : b.ok U (t.ck N (defScope st)) X := by
    subst hX
    exact ok_def hr o
  have hK : X.K = K := by subst hX; rfl
  have main := (ss_all (U := U) (Y := Y) b).b k0 o' hb
  rw [hK] at main
  have hwl : ws.length = n := by have : ws.length + 1 = n + 1 := hl; omega
  have hds : ds.length = n := by rw [← hlen]; exact hwl
  refine main (sv H Z Y) _ _ Z H (.ins x 0 fs :: ds.map .dat ++ List.replicate (N.length - n - 1) .none) (Ex.refl _) (startM sub zt hO dl N (by rw [hwl]; omega) (by rw [hds])) ?_
  have hst : stD (runM n N.length b) fs ds = runM n N.length b x fs ds ∨ stD (runM n N.length b) fs ds = .bad := by
    unfold stD
    by_cases hu : ∀ t, runM n N.length b t fs ds = runM n N.length b 0 fs ds
    · rw [if_pos hu]
      exact .inl (hu x).symm
    · rw [if_neg hu]
      exact .inr rfl
  rcases hst with hst | hst
  rotate_left
  · rw [hst] at hres
    exact hres.elim
  rw [hst] at hres
  have hrun : runM n N.length b x fs ds = match exS b (.ins x 0 fs :: ds.map .dat ++ List.replicate (N.length - n - 1) .none) with
    | .nx env => backM x env fun fs' => .ok fs' .none
    | .retm d env => backM x env fun fs' => .ok fs' d
    | .exc c env => backM x env fun fs' => .exc c fs'
    | _ => .bad := by
    unfold runM
    rw [decide_eq_true hds]
    all_goals cases exS b (.ins x 0 fs :: ds.map .dat ++ List.replicate (N.length - n - 1) .none) <;> rfl
  rw [hrun] at hres
  generalize hG : (fun r : Rm => match r with
    | .ok fs' d => ∀ v H' Z' ow', scal d = true → Kp (sv H Z Y) Y Z' H' → (∀ z ∈ Y, z ∈ Z') → Zt Z' H' → ObjAt U K Y Z' H' ow' 0 x fs' → Dat U K H' v d → Q v H'
    | .exc c fs' => ∃ C, U.ec c = some C ∧ ∀ H' Z' ow', Kp (sv H Z Y) Y Z' H' → (∀ z ∈ Y, z ∈ Z') → Zt Z' H' → ObjAt U K Y Z' H' ow' 0 x fs' → E (.ref C) none H'
    | .bad => False) = G
  have gb : ¬ G .bad := by rw [← hG]; exact fun h => h
  cases hex : exS b (.ins x 0 fs :: ds.map .dat ++ List.replicate (N.length - n - 1) .none) with
  | nx env =>
    rw [hex] at hres
    have hres : G (backM x env fun fs' => .ok fs' .none) := by rw [← hG]; exact hres
    obtain ⟨fs', hg, hq⟩ := back_is hres gb
    rw [← hG] at hq
    intro σ Z' H' kp hE
    obtain ⟨ow', hO'⟩ := back_at hE hg
    exact hq .non H' Z' ow' rfl kp hE.sub hE.zt hO' .non
  | retm d env =>
    rw [hex] at hres
    have hres : G (backM x env fun fs' => .ok fs' d) := by rw [← hG]; exact hres
    obtain ⟨fs', hg, hq⟩ := back_is hres gb
    rw [← hG] at hq
    intro v σ Z' H' hs kp hE dv
    obtain ⟨ow', hO'⟩ := back_at hE hg
    exact hq v H' Z' ow' hs kp hE.sub hE.zt hO' dv
  | exc c env =>
    rw [hex] at hres
    have hres : G (backM x env fun fs' => .exc c fs') := by rw [← hG]; exact hres
    obtain ⟨fs', hg, hq⟩ := back_is hres gb
    rw [← hG] at hq
    obtain ⟨C, h1, h2⟩ := hq
    refine ⟨C, h1, fun σ Z' H' kp hE => ?_⟩
    obtain ⟨ow', hO'⟩ := back_at hE hg
    exact h2 H' Z' ow' kp hE.sub hE.zt hO'
  | _ => rw [hex] at hres; exact hres.elim
/-- a class's __init__, checked, is what runI gives -/
theorem init_ok {x qual : Str} {st : Stmt} {f : Addr} {fd : FuncData} {N ps : List Str} {k n : Nat} {t : Tb} {b : S} (F : FunD K x qual (defArgs st) (defBody st) (defScope st) [] [] f fd) (Sc : FnScope N ps (defScope st)) (M : Md U P w K mg) (na : ∀ y, y ∈ t.F → NaOk U K y) (hn : ps.length = n + 1) (hb : (chks b (t.ck N (defScope st))).b (defBody st) = true)
    (o : b.cl (PcIs U P w K mg base k t) (GlIs U K mg) (PmIs U P w K mg base k t)) : FnOk P w K mg base (L2.CX P w) (k + 1) f fd ps (spI U K n (runI n N.length b)) := by
  refine F.ok Sc (fun vs H Q E h => by rw [hn]; exact h.1) (fun cdv A outer s H vs Q E hr h => ?_)
  obtain ⟨hl, x, ws, C, dx, Z, ds, rfl, ho, hx, hxZ, zt, dl, hres⟩ := h
  generalize hX : cxOf (L2.CX P w) P w K mg base N qual (defScope st) f cdv A outer s H E = X
  have k0 : CokS U (t.ck N (defScope st)) X (fun cls d _ H => E cls d H) := cok_def (by have := hr.un; show (A.deeper _).units + 64 < cLine; omega) Sc M na X hX
  refine ⟨Bs X (defBody st), bs, ?_⟩
  have hlen := dl.length
  have hpl : ps.length ≤ N.length := by have := congrArg List.length Sc.pre; rw [List.length_take] at this; omega
  have o' : b.ok U (t.ck N (defScope st)) X := by
    subst hX
    exact ok_def hr o
  have hK : X.K = K := by subst hX; rfl
  have main := (ss_all (U := U) (Y := Z) b).b k0 o' hb
  rw [hK] at main
  have hwl : ws.length = n := by have : ws.length + 1 = n + 1 := hl; omega
  have hds : ds.length = n := by rw [← hlen]; exact hwl
  refine main (sv H (x :: Z) Z) _ _ (x :: Z) H (.ins x 0 [] :: ds.map .dat ++ List.replicate (N.length - n - 1) .none) (Ex.refl _) (startI zt dl N (by rw [hwl]; omega) ho hx hxZ (by rw [hds])) ?_
  have hrun : runI n N.length b x ds = match exS b (.ins x 0 [] :: ds.map .dat ++ List.replicate (N.length - n - 1) .none) with
    | .nx env => match env.get 0 with
      | .ins t' c fs => match decide (t' = x) && decide (c = 0) with
        | true => .ok fs
        | false => .bad
      | _ => .bad
    | .exc c _ => .exc c
    | _ => .bad := by
    unfold runI
    rw [decide_eq_true hds]
    all_goals cases exS b (.ins x 0 [] :: ds.map .dat ++ List.replicate (N.length - n - 1) .none) <;> rfl
  rw [hrun] at hres
  cases hex : exS b (.ins x 0 [] :: ds.map .dat ++ List.replicate (N.length - n - 1) .none) with
  | nx env =>
    rw [hex] at hres
    intro σ Z' H' kp hE
    cases hg : env.get 0 with
    | ins t' c fs =>
      dsimp only at hres
      rw [hg] at hres
      cases ht : decide (t' = x) && decide (c = 0) with
      | true =>
        dsimp only at hres
        rw [ht] at hres
        obtain ⟨t1, t2⟩ := and2 ht
        cases of_decide_eq_true t1
        cases of_decide_eq_true t2
        refine hres H' kp.ex ?_
        obtain ⟨ow, q⟩ := hE.at_
        obtain ⟨C', dx', vs', h1, h2, h3, h4, h5⟩ := q 0 _ (get_ins hg)
        exact .obj h3 (by rw [view_out h2.y]; exact h4) (h5.seen hE.sub)
      | false =>
        dsimp only at hres
        rw [ht] at hres
        exact hres.elim
    | _ => dsimp only at hres; rw [hg] at hres; exact hres.elim
  | brk env => rw [hex] at hres; exact hres.elim
  | ret d => rw [hex] at hres; exact hres.elim
  | exc c env =>
    rw [hex] at hres
    obtain ⟨C, h1, h2⟩ := hres
    exact ⟨C, h1, fun σ Z' H' kp hE => h2 H' kp.ex⟩
  | bad => rw [hex] at hres; exact hres.elim
  | retf xs => rw [hex] at hres; exact hres.elim
  | retm d env => rw [hex] at hres; exact hres.elim
theorem def_is {x qual : Str} {st : Stmt} {f : Addr} {fd : FuncData} {N ps : List Str} {k : Nat} {t : Tb} {b : S} (F : FunD K x qual (defArgs st) (defBody st) (defScope st) [] [] f fd) (hm : mg x = some (.ref f)) (hbd : Binds K fd ps []) (Sc : FnScope N ps (defScope st)) (M : Md U P w K mg) (na : ∀ y, y ∈ t.F → NaOk U K y) (hb : (chks b (t.ck N (defScope st))).b (defBody st) = true)
    (o : b.cl (PcIs U P w K mg base k t) (GlIs U K mg) (PmIs U P w K mg base k t)) : DefIs U P w K mg base (k + 1) x ps.length (run ps.length N.length b) :=
  ⟨f, fd, ps, hm, F.kp, hbd, def_ok F Sc M na hb o⟩
theorem met_is {x qual : Str} {m : Str} {n : Nat} {C : Addr} {st : Stmt} {f : Addr} {fd : FuncData} {N ps : List Str} {k : Nat} {t : Tb} {b : S} (F : FunD K x qual (defArgs st) (defBody st) (defScope st) [] [] f fd) (ho : U.oc 0 = some C) (hc : L2.Cls K C) (hm : Meth K C m f) (hn : ps.length = n + 1) (hbd : Binds K fd ps []) (Sc : FnScope N ps (defScope st)) (M : Md U P w K mg) (na : ∀ y, y ∈ t.F → NaOk U K y) (hb : (chks b (t.ck N (defScope st))).b (defBody st) = true)
    (o : b.cl (PcIs U P w K mg base k t) (GlIs U K mg) (PmIs U P w K mg base k t)) : MetIs U P w K mg base (k + 1) m n (run (n + 1) N.length b) := by
  refine ⟨C, f, fd, ps, ho, hc, hm, hbd, ?_⟩
  have := def_ok (U := U) F Sc M na hb o
  rw [hn] at this
  exact this
theorem mak_is {x qual : Str} {cx : Str} {n : Nat} {C : Addr} {st : Stmt} {f : Addr} {fd : FuncData} {N ps : List Str} {k : Nat} {t : Tb} {b : S} (F : FunD K x qual (defArgs st) (defBody st) (defScope st) [] [] f fd) (ho : U.oc 0 = some C) (hm : mg cx = some (.ref C)) (mk : Mk K C f) (hn : ps.length = n + 1) (hbd : Binds K fd ps []) (Sc : FnScope N ps (defScope st)) (M : Md U P w K mg) (na : ∀ y, y ∈ t.F → NaOk U K y) (hb : (chks b (t.ck N (defScope st))).b (defBody st) = true)
    (o : b.cl (PcIs U P w K mg base k t) (GlIs U K mg) (PmIs U P w K mg base k t)) : MakIs U P w K mg base (k + 2) cx n (mkD (runI n N.length b)) :=
  ⟨k + 1, C, f, fd, ps, _, Nat.le_refl _, ho, hm, mk, hbd, rfl, init_ok F Sc M na hn hb o⟩
end
end Rwl

set_option Elab.async false
set_option linter.all false
set_option maxRecDepth 100000
set_option maxHeartbeats 2000000
/-! Rwl, part Pb: defs that change an object, by their checked bodies; a class's __init__ that copies. -/
namespace Rwl
open PySem PySem.Spec PyProof.Rows L2 Evl
def chkJ (c : Ck) (k : Nat) (xw xr xo : Str) (ss : List Stmt) : Bool := match ss with
  | [.Expr (.Call (.Name lo _) [w1, r1] [] _) _, .Assign [.Attribute (.Name s1 _) n1 _] (.Tuple [w2, .Call (.Name l1 _) [w3] [] _] _ _) _, .Assign [.Attribute (.Name s2 _) n2 _] (.Call (.Name l2 _) [r2] [] _) _, .Assign [.Attribute (.Name s3 _) n3 _] (.List [] _) _] =>
    decide (c.T[k]? = some (lo, 2)) && c.gl lo && c.nam 1 w1 && c.nam 2 r1 && c.var 0 s1 && c.hix 1 0 w2 && c.hix 1 1 w3 && c.var 0 s2 && c.nam 2 r2 && c.var 0 s3 && decide (l1 = ("list" : Str)) && decide (l2 = ("list" : Str)) && c.gl "list" && decide (n1 = xw) && decide (n2 = xr) && decide (n3 = xo) && decide (xw ∈ c.F) && decide (xr ∈ c.F) && decide (xo ∈ c.F) && decide (xw ≠ xr) && decide (xw ≠ xo) && decide (xr ≠ xo)
  | _ => false
/-- the four steps of such an __init__ -/
def tJ (U : Ux) (K : PySem.W.Frag) (W : WX) (xw xr xo : Str) (lo : List D → Res D) : TS := tSeq (tDrop (tCallS (spD U K 2 lo) (WE W) (tCons (tVar 1) (tCons (tVar 2) tNil))))
  (tSeq (sFld K (tVar 0) (tTup (tCons (tOp (rIxT K) (tVar 1) (tC (V.int 0))) (tCons (tListOf K (tOp (rIxT K) (tVar 1) (tC (V.int 1)))) tNil))) xw)
    (tSeq (sFld K (tVar 0) (tListOf K (tVar 2)) xr) (tSeq (sFld K (tVar 0) (tLst tNil) xo) tNext)))
section
variable {U : Ux} {P : Program} {w : World} {K : PySem.W.Frag} {mg : Str → Option Value} {base : Heap}
theorem init_J {x qual : Str} {st : Stmt} {f : Addr} {fd : FuncData} {N ps : List Str} {k kk : Nat} {t : Tb} {xw xr xo : Str} {lo : List D → Res D} (F : FunD K x qual (defArgs st) (defBody st) (defScope st) [] [] f fd) (Sc : FnScope N ps (defScope st)) (M : Md U P w K mg) (na : ∀ y, y ∈ t.F → NaOk U K y) (hn : ps.length = 3) (hb : chkJ (t.ck N (defScope st)) kk xw xr xo (defBody st) = true)
    (hlo : PcIs U P w K mg base k t 0 kk lo) : FnOk P w K mg base (L2.CX P w) (k + 1) f fd ps (spJ U K (jD xw xr xo lo)) := by
  refine F.ok Sc (fun vs H Q E h => by rw [hn]; exact h.1) (fun cdv A outer s H vs Q E hr h => ?_)
  obtain ⟨hl, x, b, l1, l2, n, ws, us, xs, ys, C, dx, Z, rfl, ho, hx, hxZ, zt, sb, h1, h2, d1, d2, hres⟩ := h
  generalize hX : cxOf (L2.CX P w) P w K mg base N qual (defScope st) f cdv A outer s H E = X
  have k0 : CokS U (t.ck N (defScope st)) X (fun cls d _ H => E cls d H) := cok_def (by have := hr.un; show (A.deeper _).units + 64 < cLine; omega) Sc M na X hX
  refine ⟨Bs X (defBody st), bs, ?_⟩
  have o' : (S.drop (.call kk lo .nil)).ok U (t.ck N (defScope st)) X := by
    subst hX
    exact ok_def (b := S.drop (.call kk lo .nil)) hr ⟨hlo, trivial⟩
  have hK : X.K = K := by subst hX; rfl
  obtain ⟨yn, m, hT, k', fa, fd', ps', hr', hm', hk', hb', F'⟩ := (show FC U (t.ck N (defScope st)) X 0 kk lo from o'.1)
  have kc := k0.toCok
  unfold chkJ at hb
  split at hb
  rotate_left
  · cases hb
  rename_i lo' _ w1 r1 _ _ s1 _ n1 _ w2 l1' _ w3 _ _ _ _ s2 _ n2 _ l2' _ r2 _ _ s3 _ n3 _ _ _ heq
  obtain ⟨hb, c22⟩ := and2 hb
  obtain ⟨hb, c21⟩ := and2 hb
  obtain ⟨hb, c20⟩ := and2 hb
  obtain ⟨hb, c19⟩ := and2 hb
  obtain ⟨hb, c18⟩ := and2 hb
  obtain ⟨hb, c17⟩ := and2 hb
  obtain ⟨hb, c16⟩ := and2 hb
  obtain ⟨hb, c15⟩ := and2 hb
  obtain ⟨hb, c14⟩ := and2 hb
  obtain ⟨hb, c13⟩ := and2 hb
  obtain ⟨hb, c12⟩ := and2 hb
  obtain ⟨hb, c11⟩ := and2 hb
  obtain ⟨hb, c10⟩ := and2 hb
  obtain ⟨hb, c9⟩ := and2 hb
  obtain ⟨hb, c8⟩ := and2 hb
  obtain ⟨hb, c7⟩ := and2 hb
  obtain ⟨hb, c6⟩ := and2 hb
  obtain ⟨hb, c5⟩ := and2 hb
  obtain ⟨hb, c4⟩ := and2 hb
  obtain ⟨hb, c3⟩ := and2 hb
  obtain ⟨c1, c2⟩ := and2 hb
  have c1 := of_decide_eq_true c1
  rw [c1] at hT
  cases hT
  cases of_decide_eq_true c11
  cases of_decide_eq_true c12
  cases of_decide_eq_true c14
  cases of_decide_eq_true c15
  cases of_decide_eq_true c16
  have ne1 := of_decide_eq_true c20
  have ne2 := of_decide_eq_true c21
  have ne3 := of_decide_eq_true c22
  rw [heq]
  have hlist : ∀ {a : Expr} {p pos : Pos} {ta : TE}, nst a = true → PE X a ta → PE X (.Call (.Name "list" p) [a] [] pos) (tListOf X.K ta) := fun n pa => pe_listOf (gl_of kc c13).1 (kc.bi .list) n pa
  have nw := nam_nst c3
  have nr := nam_nst c4
  refine fun pins s' I => PSs.run (t := tJ U X.K (fun cls d _ H => E cls d H) xw xr xo lo) (pss_cons (ps_expr (pe_callS F' hr' (gl_of kc c2).1 hm' hk' hb' (fun σ => passAt kc.tk σ) (pa_cons (nam_pe kc c3) (pa_cons (nam_pe kc c4) pa_nil (star_cons nr)) (star_cons nw)) (gl_of kc c2).2 (star_cons nw) (star_plain (by simp [nr]))) (sw_plain rfl))
    (pss_cons (ps_fld (var_pe kc c5) (pe_tup (pa_cons (hix_pe kc c6) (pa_cons (hlist (hix_nst c7) (hix_pe kc c7)) pa_nil (star_cons rfl)) (star_cons (hix_nst c6)))) (sw_plain rfl))
      (pss_cons (ps_fld (var_pe kc c8) (hlist (nam_nst c9) (nam_pe kc c9)) (sw_plain rfl))
        (pss_cons (ps_fld (var_pe kc c10) (pe_lst pa_nil) (sw_plain rfl)) pss_nil)))) pins s' _ H _ I ?_
  obtain ⟨q1, a1⟩ := na xw (of_decide_eq_true c17) 0 C ho
  obtain ⟨_, a2⟩ := na xr (of_decide_eq_true c18) 0 C ho
  obtain ⟨_, a3⟩ := na xo (of_decide_eq_true c19) 0 C ho
  rw [hK]
  have mem : ∀ a, a ∈ Z.filter (fun a => decide (a ≠ l1 ∧ a ≠ l2)) ↔ a ∈ Z ∧ a ≠ l1 ∧ a ≠ l2 := fun a => by rw [List.mem_filter, decide_eq_true_iff]
  generalize Z.filter (fun a => decide (a ≠ l1 ∧ a ≠ l2)) = Zs at mem
  have le : ∀ z ∈ Zs, z ∈ x :: Z := fun z hz => List.mem_cons_of_mem _ ((mem z).mp hz).1
  have vl := view_le (H := H) le
  have ve := view_ex H (x :: Z)
  have hno : lo [.tuple [.int n, .list xs], .list ys] ≠ .bad ∧ ∀ c, lo [.tuple [.int n, .list xs], .list ys] ≠ .exc c := by
    have h := hres
    unfold jD at h
    refine ⟨fun z => ?_, fun c z => ?_⟩ <;> rw [z] at h <;> exact h
  have hres : ∀ dd, lo [.tuple [.int n, .list xs], .list ys] = .ok dd → ∀ H' Z' ow', Kp (sv H (x :: Z) Z) Z Z' H' → (∀ z ∈ Z, z ∈ Z') → Zt Z' H' → ObjAt U K Z Z' H' ow' 0 x [(xw, .dat (.tuple [.int n, .list xs])), (xr, .row ys), (xo, .old [])] → Q .non H' := fun dd hd => by
    have h := hres
    unfold jD at h
    rw [hd] at h
    exact h
  refine ⟨_, rfl, _, rfl, rfl, Zs, [.tuple [.int n, .list xs], .list ys], fun z hz => zt z ((mem z).mp hz).1, .cons (.tup (ex_q vl sb) (.cons (.int n) (.one (.lst (by rw [view_out (fun z => ((mem l1).mp z).2.1 rfl)]; exact h1) (d1.mono vl))))) (.one (.lst (by rw [view_out (fun z => ((mem l2).mp z).2.2 rfl)]; exact h2) (d2.mono vl))), ?_⟩
  cases hlo2 : lo [.tuple [.int n, .list xs], .list ys] with
  | bad => exact absurd hlo2 hno.1
  | exc c => exact absurd hlo2 (hno.2 c)
  | ok dd =>
    intro v0 H1 e1 _
    have s1 : SqT K H1 b [.int n, .ref l1] := ex_q (ve.trans e1) sb
    refine ⟨_, rfl, b, _, 0, .int n, rfl, rfl, s1, rfl, ?_⟩
    refine ⟨_, rfl, b, _, 1, .ref l1, rfl, rfl, s1, rfl, l1, ws, rfl, .inl (SqL.of (e1 _ _ h1)), fun p1 hp1 => ⟨by show 2 ≤ sizeLine; decide, fun t1 ht1 => ?_⟩⟩
    have e2 : Ex H1 (upd (upd H1 p1 (.lst ws)) t1 (.tup [V.int n, .ref p1])) := (Ex.new hp1).trans (Ex.new ht1)
    have pt : p1 ≠ t1 := fun z => by rw [← z, upd_same] at ht1; cases ht1
    have none1 : ∀ {z : Addr}, H1 z = none → H z = none := fun h => none_back e1 h
    have ht1' : H1 t1 = none := by rw [upd_ne (Ne.symm pt)] at ht1; exact ht1
    have xp1 : x ≠ p1 := fun z => by rw [← z, e1 _ _ hx] at hp1; cases hp1
    have xt1 : x ≠ t1 := fun z => by rw [← z, e1 _ _ hx] at ht1'; cases ht1'
    refine ⟨_, rfl, x, C, dx, [], rfl, e2 _ _ (e1 _ _ hx), q1, a1, by decide, ?_⟩
    generalize hG2 : upd (upd H1 p1 (.lst ws)) t1 (.tup [V.int n, .ref p1]) = G2 at e2
    have g2p : G2 p1 = some (.lst ws) := by rw [← hG2, upd_ne pt, upd_same]
    have g2t : G2 t1 = some (.tup [V.int n, .ref p1]) := by rw [← hG2, upd_same]
    have xl2 : l2 ≠ x := fun z => by rw [z, hx] at h2; cases h2
    refine ⟨_, rfl, l2, us, rfl, .inl (SqL.of (by rw [upd_ne xl2]; exact e2 _ _ (e1 _ _ h2))), fun p2 hp2 => ?_⟩
    have xp2 : x ≠ p2 := fun z => by rw [← z, upd_same] at hp2; cases hp2
    have hp2' : G2 p2 = none := by rw [upd_ne (Ne.symm xp2)] at hp2; exact hp2
    refine ⟨_, rfl, x, C, dx, putF xw (.ref t1) [], rfl, by rw [upd_ne xp2, upd_same], q1, a2, by show 1 < 1000; omega, ?_⟩
    refine ⟨Nat.zero_le _, fun p3 hp3 => ?_⟩
    have xp3 : x ≠ p3 := fun z => by rw [← z, upd_same] at hp3; cases hp3
    have hp3a : upd (upd G2 x (.ins C dx (putF xw (.ref t1) []))) p2 (.lst us) p3 = none := by rw [upd_ne (Ne.symm xp3)] at hp3; exact hp3
    have p23 : p2 ≠ p3 := fun z => by rw [← z, upd_same] at hp3a; cases hp3a
    have hp3' : G2 p3 = none := by rw [upd_ne (Ne.symm p23), upd_ne (Ne.symm xp3)] at hp3a; exact hp3a
    refine ⟨_, rfl, x, C, dx, putF xr (.ref p2) (putF xw (.ref t1) []), rfl, by rw [upd_ne xp3, upd_same], q1, a3, ?_, ?_⟩
    · show (if xw = xr then [(xw, V.ref p2)] else [(xw, V.ref t1), (xr, .ref p2)]).length < 1000
      rw [if_neg ne1]
      show 2 < 1000
      omega
    have hput : putF xo (.ref p3) (putF xr (.ref p2) (putF xw (.ref t1) [])) = [(xw, V.ref t1), (xr, .ref p2), (xo, .ref p3)] := by
      have z1 : putF xr (.ref p2) (putF xw (.ref t1) []) = [(xw, V.ref t1), (xr, .ref p2)] := by
        show (if xw = xr then [(xw, V.ref p2)] else [(xw, V.ref t1), (xr, .ref p2)]) = _
        rw [if_neg ne1]
      rw [z1]
      show (if xw = xo then [(xw, V.ref p3), (xr, .ref p2)] else (xw, V.ref t1) :: (if xr = xo then [(xr, V.ref p3)] else [(xr, V.ref p2), (xo, .ref p3)])) = _
      rw [if_neg ne2, if_neg ne3]
    rw [hput]
    generalize hG : upd _ x (.ins C dx [(xw, V.ref t1), (xr, .ref p2), (xo, .ref p3)]) = G
    have gx : G x = some (.ins C dx [(xw, V.ref t1), (xr, .ref p2), (xo, .ref p3)]) := by rw [← hG]; exact upd_same
    have up : ∀ {z : Addr} {o : HO}, z ≠ x → G2 z = some o → G z = some o := fun {z o} zx hz => by
      have z2 : z ≠ p2 := fun y => by rw [y, hp2'] at hz; cases hz
      have z3 : z ≠ p3 := fun y => by rw [y, hp3'] at hz; cases hz
      rw [← hG, upd_ne zx, upd_ne z3, upd_ne zx, upd_ne z2, upd_ne zx]
      exact hz
    have g2 : G p2 = some (.lst us) := by rw [← hG, upd_ne (Ne.symm xp2), upd_ne p23, upd_ne (Ne.symm xp2), upd_same]
    have g3 : G p3 = some (.lst []) := by rw [← hG, upd_ne (Ne.symm xp3), upd_same]
    have old : ∀ {z : Addr} {o : HO}, z ≠ x → H z = some o → G z = some o := fun zx hz => up zx (e2 _ _ (e1 _ _ hz))
    have np : ∀ {z : Addr} {o : HO}, H z = some o → z ≠ p2 ∧ z ≠ p3 := fun {z o} hz => by
      have hz2 := e2 _ _ (e1 _ _ hz)
      exact ⟨fun y => (by rw [y, hp2'] at hz2; cases hz2), fun y => (by rw [y, hp3'] at hz2; cases hz2)⟩
    have nZ : ∀ {z : Addr}, H1 z = none → z ∉ Z := fun hz => zt.not (none1 hz)
    have hp2H : H1 p2 = none := none_back e2 hp2'
    have hp3H : H1 p3 = none := none_back e2 hp3'
    have vw : Ex (view H (x :: Z)) (view G (p3 :: p2 :: x :: Z)) := fun z o hz => by
      have z1 : z ∉ x :: Z := fun y => by rw [view_in y] at hz; cases hz
      rw [view_out z1] at hz
      obtain ⟨m1, m2⟩ := np hz
      rw [view_out (by simp only [List.mem_cons, not_or] at z1 ⊢; exact ⟨m2, m1, z1⟩)]
      exact old (fun y => z1 (by rw [y]; exact List.mem_cons_self)) hz
    refine hres dd hlo2 G (p3 :: p2 :: x :: Z) (fun a => if a = x then [0] else if a = p2 then [0, 1] else if a = p3 then [0, 2] else []) (fun z o hz => ?_) (fun z hz => List.mem_cons_of_mem _ (List.mem_cons_of_mem _ (List.mem_cons_of_mem _ hz))) (((Zt.cons (fun z hz => ?_) gx).cons g2).cons g3) ⟨⟨by simp, hxZ, if_pos rfl⟩, C, dx, _, ho, gx, ?_⟩
    · obtain ⟨m1, m2⟩ := sv_some hz
      obtain ⟨m3, m4⟩ := np m2
      have zx : z ≠ x := fun y => m1 ⟨by rw [y]; exact List.mem_cons_self, by rw [y]; exact hxZ⟩
      refine sv_of (fun y => ?_) (old zx m2)
      have y1 := y.1
      simp only [List.mem_cons] at y1
      rcases y1 with y1 | y1 | y1 | y1
      · exact m4 y1
      · exact m3 y1
      · exact zx y1
      · exact y.2 y1
    · obtain ⟨o, r⟩ := zt z hz
      exact ⟨o, old (fun y => hxZ (y ▸ hz)) r⟩
    · have tz : t1 ∉ p3 :: p2 :: x :: Z := by
        simp only [List.mem_cons, not_or]
        exact ⟨fun y => (by rw [y, hp3'] at g2t; cases g2t), fun y => (by rw [y, hp2'] at g2t; cases g2t), Ne.symm xt1, nZ ht1'⟩
      have pz : p1 ∉ p3 :: p2 :: x :: Z := by
        simp only [List.mem_cons, not_or]
        exact ⟨fun y => (by rw [y, hp3'] at g2p; cases g2p), fun y => (by rw [y, hp2'] at g2p; cases g2p), Ne.symm xp1, nZ hp1⟩
      refine .cons (f := .dat _) (show FlOk U K Z _ G _ 0 0 (.ref t1) (.dat (.tuple [.int n, .list xs])) from .tup (SqT.of (by rw [view_out tz]; exact up (Ne.symm xt1) g2t)) (.cons (.int n) (.one (.lst (by rw [view_out pz]; exact up (Ne.symm xp1) g2p) (d1.mono vw))))) ?_
      refine .cons (f := .row ys) ⟨p2, us, rfl, ⟨by simp, nZ hp2H, by rw [if_neg (Ne.symm xp2), if_pos rfl]⟩, g2, d2.mono vw⟩ ?_
      exact .cons (f := .old []) ⟨p3, [], rfl, ⟨by simp, nZ hp3H, by rw [if_neg (Ne.symm xp3), if_neg (Ne.symm p23), if_pos rfl]⟩, g3, .nil⟩ .nil
/-! ### by names -/
section
variable {x qual : Str} {st : Stmt} {f : Addr} {fd : FuncData} {N ps : List Str} {k n : Nat} {t : Tb} {b : S}
theorem def_isF (F : FunD K x qual (defArgs st) (defBody st) (defScope st) [] [] f fd) {y : Str} (hm : mg y = some (.ref f)) (hbd : Binds K fd ps []) (Sc : FnScope N ps (defScope st)) (M : Md U P w K mg) (na : ∀ y, y ∈ t.F → NaOk U K y) (hb : (chks b (t.ck N (defScope st))).b (defBody st) = true)
    (o : b.cl (PcIs U P w K mg base k t) (GlIs U K mg) (PmIs U P w K mg base k t)) : DefIsF U P w K mg base (k + 1) y ps.length (runF ps.length N.length b) :=
  ⟨f, fd, ps, hm, F.kp, hbd, def_okF F Sc M na hb o⟩
theorem met_isF {m : Str} {C : Addr} (F : FunD K x qual (defArgs st) (defBody st) (defScope st) [] [] f fd) (ho : U.oc 0 = some C) (hc : L2.Cls K C) (hm : Meth K C m f) (hn : ps.length = n + 1) (hbd : Binds K fd ps []) (Sc : FnScope N ps (defScope st)) (M : Md U P w K mg) (na : ∀ y, y ∈ t.F → NaOk U K y) (hb : (chks b (t.ck N (defScope st))).b (defBody st) = true)
    (o : b.cl (PcIs U P w K mg base k t) (GlIs U K mg) (PmIs U P w K mg base k t)) : MetIsF U P w K mg base (k + 1) m n (runF (n + 1) N.length b) := by
  refine ⟨C, f, fd, ps, ho, hc, hm, hbd, ?_⟩
  have := def_okF (U := U) F Sc M na hb o
  rw [hn] at this
  exact this
theorem def_isM (F : FunD K x qual (defArgs st) (defBody st) (defScope st) [] [] f fd) (hm : mg x = some (.ref f)) (hn : ps.length = n + 1) (hbd : Binds K fd ps []) (Sc : FnScope N ps (defScope st)) (M : Md U P w K mg) (na : ∀ y, y ∈ t.F → NaOk U K y) (hb : (chks b (t.ck N (defScope st))).b (defBody st) = true)
    (o : b.cl (PcIs U P w K mg base k t) (GlIs U K mg) (PmIs U P w K mg base k t)) : DefIsM U P w K mg base (k + 1) x n (stD (runM n N.length b)) :=
  ⟨f, fd, ps, hm, F.kp, hbd, def_okM F Sc M na hn hb o⟩
theorem met_isM {m : Str} {C : Addr} (F : FunD K x qual (defArgs st) (defBody st) (defScope st) [] [] f fd) (ho : U.oc 0 = some C) (hc : L2.Cls K C) (hm : Meth K C m f) (hn : ps.length = n + 1) (hbd : Binds K fd ps []) (Sc : FnScope N ps (defScope st)) (M : Md U P w K mg) (na : ∀ y, y ∈ t.F → NaOk U K y) (hb : (chks b (t.ck N (defScope st))).b (defBody st) = true)
    (o : b.cl (PcIs U P w K mg base k t) (GlIs U K mg) (PmIs U P w K mg base k t)) : MetIsM U P w K mg base (k + 1) m n (stD (runM n N.length b)) :=
  ⟨C, f, fd, ps, ho, hc, hm, hbd, def_okM F Sc M na hn hb o⟩
theorem mak_isJ {cx : Str} {C : Addr} {kk : Nat} {xw xr xo : Str} {lo : List D → Res D} (F : FunD K x qual (defArgs st) (defBody st) (defScope st) [] [] f fd) (ho : U.oc 0 = some C) (hm : mg cx = some (.ref C)) (mk : Mk K C f) (hn : ps.length = 3) (hbd : Binds K fd ps []) (Sc : FnScope N ps (defScope st)) (M : Md U P w K mg) (na : ∀ y, y ∈ t.F → NaOk U K y) (hb : chkJ (t.ck N (defScope st)) kk xw xr xo (defBody st) = true)
    (hlo : PcIs U P w K mg base k t 0 kk lo) : MakIsJ U P w K mg base (k + 2) cx (jD xw xr xo lo) :=
  ⟨k + 1, C, f, fd, ps, Nat.le_refl _, ho, hm, mk, hbd, init_J F Sc M na hn hb hlo⟩
end
end
end Rwl

set_option Elab.async false
set_option linter.all false
set_option maxRecDepth 100000
set_option maxHeartbeats 2000000
/-! Rwl, part Q: what the top has written. -/
namespace Rwl
open PySem PySem.Spec PyProof.Rows L2 He

/-! ### the Hook: facts by names, one more truth -/
def obsW (n : Nat) (fa : List Fa) (fn : List DefD) (ex : PySem.W.Frag → Bool) (g : Addr → Option Obj) : AlD × Bool := (obsDG n fa fn g, ex (frG g (asD g n)))
def hookW (n : Nat) (fa : List Fa) (fn : List DefD) (ex : PySem.W.Frag → Bool) : PySem.W.Hook where
  α := AlD × Bool
  obs := fun s => obsW n fa fn ex s.heap.get?
  val := fun _ => (valD fn, true)
  says := fun _ h => ∃ K : PySem.W.Frag, K.In h ∧ SaysD fa fn K ∧ ex K = true
  of := fun _ _ e => ⟨_, frG_in, congrArg (fun z : AlD × Bool => z.1) e, congrArg (fun z : AlD × Bool => z.2) e⟩
  keeps := fun _ _ _ ⟨K, hK, c⟩ k => ⟨K, PySem.W.Frag.In.keeps hK k, c⟩
theorem obsW_eq {n : Nat} {fa : List Fa} {fn : List DefD} {ex : PySem.W.Frag → Bool} {g : Addr → Option Obj} {s : Shared} (h : ∀ a, g a = s.heap.get? a) : obsW n fa fn ex g = (hookW n fa fn ex).obs s := by
  have e : g = s.heap.get? := funext h
  rw [e] <;> rfl

/-! ### the classes -/
def ecK (K : PySem.W.Frag) (k : Nat) : Option Addr := match decide (k < 5) with
  | true => some (ga K (Ty.cls k).nm)
  | false => none
def mkU (K : PySem.W.Frag) (cn : Option Str) (P : Program) (w : World) : Ux where
  ec := ecK K
  oc := fun c => match c with
    | 0 => cn.map (ga K)
    | _ => none
  nd := NDict P w
def excB (K : PySem.W.Frag) (D : Addr) : Bool :=
  decide (PySem.W.findIn K (.ref D) "__getattribute__" = some (some (.builtin "BaseException.__getattribute__"))) && decide (PySem.W.findIn K (.ref D) "__getattr__" = some none) && decide (PySem.W.subIn K (.ref D) (.type "BaseException") = some true) &&
  PySem.W.hasDictIn K D && decide (PySem.W.findIn K (.ref D) "__class__" = some (some (.builtin "object.__class__"))) && decide (PySem.W.specialIn K (.builtin "object.__class__") "__get__" = some (some (.builtin "getset_descriptor.__get__"))) &&
  decide (PySem.W.takesIn K (.builtin "object.__class__") = some true) && decide (PySem.W.mroIn K D (.type "object") = some true)
theorem excB_ok {K : PySem.W.Frag} {D : Addr} (h : excB K D = true) : ExcC K D := by
  obtain ⟨h, h8⟩ := and2 h
  obtain ⟨h, h7⟩ := and2 h
  obtain ⟨h, h6⟩ := and2 h
  obtain ⟨h, h5⟩ := and2 h
  obtain ⟨h, h4⟩ := and2 h
  obtain ⟨h, h3⟩ := and2 h
  obtain ⟨h1, h2⟩ := and2 h
  exact ⟨of_decide_eq_true h1, of_decide_eq_true h2, of_decide_eq_true h3, h4, of_decide_eq_true h5, of_decide_eq_true h6, of_decide_eq_true h7, of_decide_eq_true h8⟩
def tyNames : List String := ["NoneType", "bool", "int", "str", "list", "tuple"]
def tyIs : Ty → String → Bool
  | .int, n => n == "int" || n == "bool"
  | .bool, n => n == "bool"
  | .tuple, n => n == "tuple"
  | .cls _, _ => false
def tyN : Ty → String
  | .int => "int"
  | .bool => "bool"
  | .tuple => "tuple"
  | .cls _ => "ValueError"
/-- what isinstance is answered -/
def exB (K : PySem.W.Frag) : Bool :=
  ((List.range 5).all fun k => excB K (ga K (Ty.cls k).nm) && ((List.range 6).all fun m => decide (PySem.W.kitOne K (.ref (ga K (Ty.cls k).nm)) (.ref (ga K (Ty.cls m).nm)) = some (below k m))) && decide (PySem.W.kitOne K (.ref (ga K (Ty.cls k).nm)) (.type "ValueError") = some true) && ((List.range 6).all fun m => decide (PySem.W.exmOne K (.ref (ga K (Ty.cls k).nm)) (.ref (ga K (Ty.cls m).nm)) = some (below k m)))) &&
  ([Ty.int, .bool, .tuple].all fun t => tyNames.all fun n => decide (PySem.W.kitOne K (.type n) (.type (tyN t)) = some (tyIs t n)))
def faStd : List Fa := [.free "len", .free "abs", .free "sum", .free "max", .free "min", .free "sorted", .free "list", .free "int", .free "str", .free "all", .free "any", .free "tuple", .free "range", .free "isinstance", .free "reversed", .free "set", .free "bool", .free "ValueError",
  .glo "BadKind", .glo "BadOrder", .glo "BadSpot", .glo "BadText", .glo "BadWeb", .glo "LayError", .exc "BadKind", .exc "BadOrder", .exc "BadSpot", .exc "BadText", .exc "BadWeb"]
section
variable {K : PySem.W.Frag} {h : Heap} {mg : Str → Option Value} {cn : Option Str} {P : Program} {w : World}
theorem ecK_lt {k : Nat} (hk : k < 5) : ecK K k = some (ga K (Ty.cls k).nm) := by
  unfold ecK
  rw [decide_eq_true hk]
theorem ecK_some {k : Nat} {C : Addr} (hc : ecK K k = some C) : k < 5 ∧ C = ga K (Ty.cls k).nm := by
  unfold ecK at hc
  cases hd : decide (k < 5) with
  | true => rw [hd] at hc; cases hc; exact ⟨of_decide_eq_true hd, rfl⟩
  | false => rw [hd] at hc; cases hc
theorem ex_cls (e : exB K = true) {k : Nat} (hk : k < 5) : ExcC K (ga K (Ty.cls k).nm) ∧ (∀ m, m < 6 → PySem.W.kitOne K (.ref (ga K (Ty.cls k).nm)) (.ref (ga K (Ty.cls m).nm)) = some (below k m)) ∧ PySem.W.kitOne K (.ref (ga K (Ty.cls k).nm)) (.type "ValueError") = some true := by
  have q := List.all_eq_true.mp (and2 e).1 k (List.mem_range.mpr hk)
  obtain ⟨q, q4⟩ := and2 q
  obtain ⟨q, q3⟩ := and2 q
  obtain ⟨q1, q2⟩ := and2 q
  exact ⟨excB_ok q1, fun m hm => of_decide_eq_true (List.all_eq_true.mp q2 m (List.mem_range.mpr hm)), of_decide_eq_true q3⟩
theorem ex_exm (e : exB K = true) {k : Nat} (hk : k < 5) {m : Nat} (hm : m < 6) : PySem.W.exmOne K (.ref (ga K (Ty.cls k).nm)) (.ref (ga K (Ty.cls m).nm)) = some (below k m) := by
  have q := List.all_eq_true.mp (and2 e).1 k (List.mem_range.mpr hk)
  obtain ⟨_, q4⟩ := and2 q
  exact of_decide_eq_true (List.all_eq_true.mp q4 m (List.mem_range.mpr hm))
theorem ex_ty (e : exB K = true) {t : Ty} (ht : t ∈ [Ty.int, .bool, .tuple]) {n : String} (hn : n ∈ tyNames) : PySem.W.kitOne K (.type n) (.type (tyN t)) = some (tyIs t n) :=
  of_decide_eq_true (List.all_eq_true.mp (List.all_eq_true.mp (and2 e).2 t ht) n hn)
theorem tyD_in {d : D} {n : String} (hn : tyD d = some n) : n ∈ tyNames := by
  cases d <;> first | (cases hn; decide) | cases hn
theorem ty_is (X : K.In h) (G : h.Ns mainGlobals mg) (c : ∀ f ∈ faStd, f.ok K = true) (e : exB K = true) (Y : Cx) (hK : Y.K = K) (hm : Y.mg = mg) (t : Ty) : TyIs (mkU K cn P w) Y t.nm t := by
  subst hK
  subst hm
  have fr : ∀ x, Fa.free x ∈ faStd → Y.mg x = none := fun x hx => free_ok X G (c _ hx)
  have gl : ∀ x, Fa.glo x ∈ faStd → Y.mg x = some (.ref (ga Y.K x)) := fun x hx => glo_ok X G (c _ hx)
  have own : ∀ m, m < 6 → Y.mg (Ty.cls m).nm = some (.ref (ga Y.K (Ty.cls m).nm)) → TyIs (mkU Y.K cn P w) Y (Ty.cls m).nm (.cls m) := fun m hm6 hg => by
    refine ⟨.ref (ga Y.K (Ty.cls m).nm), .ref (ga Y.K (Ty.cls m).nm), .inl hg, .own _, fun d n k hd hk => ?_, fun c' C k ht hC => ?_⟩
    · cases d <;> first | (cases hk; done) | (cases hd; done)
    · cases ht
      obtain ⟨h5, rfl⟩ := ecK_some hC
      obtain ⟨q1, q2, q3⟩ := ex_cls e h5
      exact ⟨q1, q2 _ hm6⟩
  have bty : ∀ t, t ∈ [Ty.int, .bool, .tuple] → Fa.free t.nm ∈ faStd → bootBuiltins t.nm = some (.type (tyN t)) → t.nm ≠ "__name__" → (∀ d n k, tyD d = some n → isiD d t = .ok k → k = tyIs t n) → (∀ m, t ≠ .cls m) → TyIs (mkU Y.K cn P w) Y t.nm t := fun t ht hf hb hn hi hc => by
    refine ⟨.ty (tyN t), .type (tyN t), .inr ⟨fr _ hf, hb, hn⟩, .ty _, fun d n k hd hk => ?_, fun c' C k ht' => absurd ht' (hc k)⟩
    rw [ex_ty e ht (tyD_in hd), hi d n k hd hk]
  match t with
  | .int => exact bty .int (by simp) (by simp [faStd, Ty.nm]) (by decide +kernel) (by decide +kernel) (fun d n k hd hk => by cases d <;> first | (cases hd; cases hk; rfl) | cases hd) (fun m z => by cases z)
  | .bool => exact bty .bool (by simp) (by simp [faStd, Ty.nm]) (by decide +kernel) (by decide +kernel) (fun d n k hd hk => by cases d <;> first | (cases hd; cases hk; rfl) | cases hd) (fun m z => by cases z)
  | .tuple => exact bty .tuple (by simp) (by simp [faStd, Ty.nm]) (by decide +kernel) (by decide +kernel) (fun d n k hd hk => by cases d <;> first | (cases hd; cases hk; rfl) | cases hd) (fun m z => by cases z)
  | .cls 0 => exact own 0 (by decide) (gl _ (by simp [faStd, Ty.nm]))
  | .cls 1 => exact own 1 (by decide) (gl _ (by simp [faStd, Ty.nm]))
  | .cls 2 => exact own 2 (by decide) (gl _ (by simp [faStd, Ty.nm]))
  | .cls 3 => exact own 3 (by decide) (gl _ (by simp [faStd, Ty.nm]))
  | .cls 4 => exact own 4 (by decide) (gl _ (by simp [faStd, Ty.nm]))
  | .cls 5 => exact own 5 (by decide) (gl _ (by simp [faStd, Ty.nm]))
  | .cls (m + 6) =>
    have b1 : bootBuiltins ("ValueError" : Str) = some (.type "ValueError") := by decide +kernel
    have b2 : ("ValueError" : Str) ≠ "__name__" := by decide +kernel
    refine ⟨.ty "ValueError", .type "ValueError", .inr ⟨fr "ValueError" (by simp [faStd]), b1, b2⟩, .ty _, fun d n k hd hk => ?_, fun c' C k ht hC => ?_⟩
    · cases d <;> first | (cases hk; done) | (cases hd; done)
    · cases ht
      obtain ⟨h5, rfl⟩ := ecK_some hC
      obtain ⟨q1, q2, q3⟩ := ex_cls e h5
      refine ⟨q1, ?_⟩
      rw [q3]
      congr 1
      unfold below
      rw [decide_eq_true (by omega), Bool.or_true]
theorem md_of (X : K.In h) (G : h.Ns mainGlobals mg) (c : ∀ f ∈ faStd, f.ok K = true) (e : exB K = true) : Md (mkU K cn P w) P w K mg := by
  have fr : ∀ x, Fa.free x ∈ faStd → mg x = none := fun x hx => free_ok X G (c _ hx)
  have gl : ∀ x, Fa.glo x ∈ faStd → mg x = some (.ref (ga K x)) := fun x hx => glo_ok X G (c _ hx)
  have five : ∀ {p : Nat → Prop}, p 0 → p 1 → p 2 → p 3 → p 4 → ∀ k, k < 5 → p k := fun {p} h0 h1 h2 h3 h4 k hk =>
    match k, hk with
    | 0, _ => h0
    | 1, _ => h1
    | 2, _ => h2
    | 3, _ => h3
    | 4, _ => h4
  refine ⟨fr _ (by simp [faStd]), fr _ (by simp [faStd]), rfl, fun k => ?_, fr _ (by simp [faStd]), fr _ (by simp [faStd]), ty_is X G c e, ?_, ?_⟩
  · cases k <;> exact fr _ (by simp [faStd, Bi.name])
  · have one : ∀ k, k < 5 → Fa.exc (Ty.cls k).nm ∈ faStd → Fa.glo (Ty.cls k).nm ∈ faStd → ∃ C, (mkU K cn P w).ec k = some C ∧ ∃ (B newId initId : String) (bmB : List Value), ExcBaseFacts B newId initId bmB ∧ PySem.W.excIn K C bmB newId = true ∧ mg (Ty.cls k).nm = some (.ref C) ∧ PySem.W.keepIn K (.ref C) = true ∧ ∀ X : Cx, X.K = K → Raises X (.ref C) := fun k hk h1 h2 => by
      obtain ⟨q1, q2, q3, q4⟩ := exc_ok (c _ h1)
      exact ⟨_, ecK_lt hk, "ValueError", "ValueError.__new__", "ValueError.__init__", veBase, PySem.F.excBase_ValueError, q1, gl _ h2, q2, fun Y hY => raises_own (by rw [hY]; exact q3) (by rw [hY]; exact q4)⟩
    exact five (one 0 (by decide) (by simp [faStd, Ty.nm]) (by simp [faStd, Ty.nm])) (one 1 (by decide) (by simp [faStd, Ty.nm]) (by simp [faStd, Ty.nm])) (one 2 (by decide) (by simp [faStd, Ty.nm]) (by simp [faStd, Ty.nm])) (one 3 (by decide) (by simp [faStd, Ty.nm]) (by simp [faStd, Ty.nm])) (one 4 (by decide) (by simp [faStd, Ty.nm]) (by simp [faStd, Ty.nm]))
  · have six : ∀ m, m < 6 → mg (Ty.cls m).nm = some (.ref (ga K (Ty.cls m).nm)) := fun m hm =>
      match m, hm with
      | 0, _ => gl _ (by simp [faStd, Ty.nm])
      | 1, _ => gl _ (by simp [faStd, Ty.nm])
      | 2, _ => gl _ (by simp [faStd, Ty.nm])
      | 3, _ => gl _ (by simp [faStd, Ty.nm])
      | 4, _ => gl _ (by simp [faStd, Ty.nm])
      | 5, _ => gl _ (by simp [faStd, Ty.nm])
    exact fun m hm => ⟨_, six m hm, fun k hk => ⟨_, ecK_lt hk, ex_exm e hk hm⟩⟩
/-- a constant of the module -/
theorem gl_int (X : K.In h) (G : h.Ns mainGlobals mg) {x : Str} {i : Int} (c : (Fa.int x i).ok K = true) : GlIs (mkU K cn P w) K mg x (.int i) := by
  obtain ⟨t, q⟩ := int_ok X G c
  exact ⟨.int i, .int i t, q, ⟨t, rfl⟩, fun _ => .int i⟩
theorem gl_str (X : K.In h) (G : h.Ns mainGlobals mg) {x z : Str} (c : (Fa.str x z).ok K = true) : GlIs (mkU K cn P w) K mg x (.str z) := by
  obtain ⟨t, q⟩ := str_ok X G c
  exact ⟨.str z, .str z t, q, ⟨t, rfl⟩, fun _ => .str z⟩
def strsD : List Str → List D
  | [] => []
  | x :: r => .str x :: strsD r
theorem gl_tup (X : K.In h) (G : h.Ns mainGlobals mg) {x : Str} {ss : List Str} (c : (Fa.glo x).ok K = true) (t : tupB K x (ss.map .str) = true) : GlIs (mkU K cn P w) K mg x (.tuple (ss.map .str)) := by
  refine ⟨.ref (ga K x), .ref (ga K x), glo_ok X G c, rfl, fun H => .tup (tupB_ok t H) ?_⟩
  rw [List.map_map]
  exact DatL.of_strs ss
/-! ### the end -/
/-- what the law promises -/
def spLaw (K : PySem.W.Frag) : Sp := fun vs H Q _ => ∃ (a : Addr) (ns : List Int), vs = [.ref a] ∧ ns.length ≤ 63 ∧ SqL K H a (ns.map V.int) ∧ ∀ H', Q (.bl true) H'
theorem law_fn {base : Heap} {k : Nat} {f : Addr} {fd : FuncData} {ps : List Str} {g : List D → Res D} (F : FnOk P w K mg base (L2.CX P w) k f fd ps (spD (mkU K cn P w) K 1 g)) (hg : ∀ ns : List Int, ns.length ≤ 63 → g [scr ns] = .ok (.bool true)) :
    FnOk P w K mg base CX0 k f fd ps (spLaw K) := by
  have F1 : FnOk P w K mg base (L2.CX P w) k f fd ps (spLaw K) := F.imp fun vs H Q E ⟨a, ns, e, hl, hS, q⟩ => by
    subst e
    refine ⟨rfl, [], [scr ns], .nil, .cons (.scr (by rw [view_nil]; exact hS)) .nil, ?_⟩
    rw [hg ns hl]
    exact fun v H' _ dv => by rw [dv.bool_inv]; exact q H'
  refine ⟨F1.len, fun A outer s H args us vs Q E hr he hb hv hs => codeAny_mono (F1.run A outer s H args us vs Q (fun _ _ _ => False) hr he hb hv hs) fun r s' hq => ?_⟩
  cases r with
  | error e =>
    obtain ⟨_, _, _, _, _, _, _, _, _, _, _, _, z⟩ := (show L2.CX P w outer H s (fun _ _ _ => False) e s' from hq)
    exact z.elim
  | ok fl => cases fl <;> exact hq
end
end Rwl

set_option Elab.async false
set_option linter.all false
set_option maxRecDepth 100000
set_option maxHeartbeats 0
namespace Rwl
open PySem
/-! ### the defs, as IR (printed by gen.py) -/
noncomputable section
def x0_look_web : E := (.not (.ch2 .le .le (.int 0) (.var 1) (.glb "MOST_PLACES" (.int 8))))
def x1_look_web : E := (.or (.cons (.cmp .ne (.bi .len (.cons (.ix (.var 2) (.var 3)) .nil)) (.int 3)) (.cons (.not (.ch3 .le .lt .lt (.int 0) (.ix (.ix (.var 2) (.var 3)) (.int 0)) (.ix (.ix (.var 2) (.var 3)) (.int 1)) (.var 1))) (.cons (.not (.ch2 .le .le (.int 1) (.ix (.ix (.var 2) (.var 3)) (.int 2)) (.glb "MOST_WEIGHT" (.int 100)))) .nil))))
def x2_look_web : E := (.and (.cons (.cmp .gt (.var 3) (.int 0)) (.cons (.not (.cmp .lt (.sl (.ix (.var 2) (.bin .sub (.var 3) (.int 1))) .nop (.int 2)) (.sl (.ix (.var 2) (.var 3)) .nop (.int 2)))) .nil)))
def l3_look_web : S := .cons (.ifs x1_look_web (.cons (.rai 4) .nil) (.nil)) <| .cons (.ifs x2_look_web (.cons (.rai 4) .nil) (.nil)) .nil
def b_look_web : S :=
  .cons (.asgT [1, 2] (.var 0)) <|
  .cons (.ifs x0_look_web (.cons (.rai 4) .nil) (.nil)) <|
  .cons (.forr ⟨false, [3]⟩ (.rng1 (.bi .len (.cons (.var 2) .nil))) (l3_look_web)) <|
  .nil
def f_look_web : List D → Res D := run 1 4 b_look_web
def x0_look_order : E := (.call 0 f_look_web (.cons (.var 0) .nil))
def x1_look_order : E := (.cmp .ne (.bi .sorted (.cons (.var 1) .nil)) (.lrg (.ix (.var 0) (.int 0))))
def b_look_order : S :=
  .cons (.drop x0_look_order) <|
  .cons (.ifs x1_look_order (.cons (.rai 1) .nil) (.nil)) <|
  .nil
def f_look_order : List D → Res D := run 2 2 b_look_order
def x0_lengths : E := (.call 1 f_look_order (.cons (.var 0) (.cons (.var 1) .nil)))
def l1_lengths : S := .cons (.setd 2 (.ix (.var 1) (.var 3)) (.var 3)) .nil
def x2_lengths : E := (.lc [4, 5, 6] ⟨true, [4, 5, 6]⟩ (.ix (.var 0) (.int 1)) .nop (.bi .abs (.cons (.bin .sub (.ix (.var 2) (.var 4)) (.ix (.var 2) (.var 5))) .nil)))
def b_lengths : S :=
  .cons (.drop x0_lengths) <|
  .cons (.newd 2) <|
  .cons (.forr ⟨false, [3]⟩ (.rng1 (.bi .len (.cons (.var 1) .nil))) (l1_lengths)) <|
  .cons (.ret x2_lengths) <|
  .nil
def f_lengths : List D → Res D := run 2 7 b_lengths
def x0_gaps : E := (.call 1 f_look_order (.cons (.var 0) (.cons (.var 1) .nil)))
def x1_gaps : E := (.sl (.var 1) .nop (.var 3))
def x2_gaps : E := (.bi .sum (.cons (.lc [5, 6, 7] ⟨true, [5, 6, 7]⟩ (.ix (.var 0) (.int 1)) (.cmp .ne (.cmp .inn (.var 5) (.var 4)) (.cmp .inn (.var 6) (.var 4))) (.var 7)) .nil))
def l3_gaps : S := .cons (.asg 4 x1_gaps) <| .cons (.app 2 x2_gaps) .nil
def b_gaps : S :=
  .cons (.drop x0_gaps) <|
  .cons (.new 2 (.lst .nil)) <|
  .cons (.forr ⟨false, [3]⟩ (.rng2 (.int 1) (.bi .len (.cons (.var 1) .nil))) (l3_gaps)) <|
  .cons (.retf 2) <|
  .nil
def f_gaps : List D → Res D := runF 2 8 b_gaps
def x0_Laid_init : E := (.call 1 f_look_order (.cons (.var 1) (.cons (.var 2) .nil)))
def x1_Laid_init : E := (.tup (.cons (.ix (.var 1) (.int 0)) (.cons (.bi .list (.cons (.ix (.var 1) (.int 1)) .nil)) .nil)))
def b_Laid_init : S :=
  .cons (.drop x0_Laid_init) <|
  .cons (.seta 0 "web" x1_Laid_init) <|
  .cons (.setr 0 "row" (.bi .list (.cons (.var 2) .nil))) <|
  .cons (.seto 0 "old") <|
  .nil
def f_Laid : List D → Res D := mkD (runI 2 3 b_Laid_init)
def f_LaidJ : Fm := jD "web" "row" "old" f_look_order
def x0_Laid_need : E := (.not (.ch2 .le .lt (.int 0) (.var 1) (.bi .len (.cons (.att (.var 0) "row") .nil))))
def b_Laid_need : S :=
  .cons (.ifs x0_Laid_need (.cons (.rai 2) .nil) (.nil)) <|
  .nil
def f_Laid_need : List D → Res D := run 2 2 b_Laid_need
def b_Laid_keep : S :=
  .cons (.fapp 0 "old" "row") <|
  .nil
def f_Laid_keep : Fm := stD (runM 0 1 b_Laid_keep)
def x0_Laid_swap : E := (.mth 0 "need" f_Laid_need (.var 0) (.cons (.var 1) .nil))
def x1_Laid_swap : E := (.mth 0 "need" f_Laid_need (.var 0) (.cons (.var 2) .nil))
def b_Laid_swap : S :=
  .cons (.drop x0_Laid_swap) <|
  .cons (.drop x1_Laid_swap) <|
  .cons (.callm 0 1 "keep" f_Laid_keep .nil) <|
  .cons (.fswp 0 "row" 1 2) <|
  .nil
def f_Laid_swap : Fm := stD (runM 2 3 b_Laid_swap)
def x0_Laid_move : E := (.mth 0 "need" f_Laid_need (.var 0) (.cons (.var 1) .nil))
def x1_Laid_move : E := (.mth 0 "need" f_Laid_need (.var 0) (.cons (.var 2) .nil))
def b_Laid_move : S :=
  .cons (.drop x0_Laid_move) <|
  .cons (.drop x1_Laid_move) <|
  .cons (.callm 0 1 "keep" f_Laid_keep .nil) <|
  .cons (.fins 0 "row" 1 2) <|
  .nil
def f_Laid_move : Fm := stD (runM 2 3 b_Laid_move)
def x0_Laid_turn : E := (.mth 0 "need" f_Laid_need (.var 0) (.cons (.var 1) .nil))
def x1_Laid_turn : E := (.mth 0 "need" f_Laid_need (.var 0) (.cons (.var 2) .nil))
def b_Laid_turn : S :=
  .cons (.drop x0_Laid_turn) <|
  .cons (.drop x1_Laid_turn) <|
  .cons (.callm 0 1 "keep" f_Laid_keep .nil) <|
  .cons (.par 3 4 (.bi .min2 (.cons (.var 1) (.cons (.var 2) .nil))) (.bin .add (.bi .max2 (.cons (.var 1) (.cons (.var 2) .nil))) (.int 1))) <|
  .cons (.frev 0 "row" 3 4) <|
  .nil
def f_Laid_turn : Fm := stD (runM 2 5 b_Laid_turn)
def x0_Laid_back : E := (.not (.att (.var 0) "old"))
def b_Laid_back : S :=
  .cons (.ifs x0_Laid_back (.cons (.retm (.bl false)) .nil) (.nil)) <|
  .cons (.fpop 0 "old" "row") <|
  .cons (.retm (.bl true)) <|
  .nil
def f_Laid_back : Fm := stD (runM 0 1 b_Laid_back)
def b_Laid_order : S :=
  .cons (.rete (.bi .list (.cons (.att (.var 0) "row") .nil))) <|
  .nil
def f_Laid_order : List D → Res D := runF 1 1 b_Laid_order
def x0_Laid_longest : E := (.maxd (.call 2 f_lengths (.cons (.att (.var 0) "web") (.cons (.att (.var 0) "row") .nil))) (.int 0))
def b_Laid_longest : S :=
  .cons (.ret x0_Laid_longest) <|
  .nil
def f_Laid_longest : List D → Res D := run 1 1 b_Laid_longest
def b_Laid_gaps : S :=
  .cons (.retc 3 f_gaps (.cons (.att (.var 0) "web") (.cons (.att (.var 0) "row") .nil))) <|
  .nil
def f_Laid_gaps : List D → Res D := runF 1 1 b_Laid_gaps
def x0_Laid_total : E := (.bi .sum (.cons (.call 3 f_gaps (.cons (.att (.var 0) "web") (.cons (.att (.var 0) "row") .nil))) .nil))
def b_Laid_total : S :=
  .cons (.ret x0_Laid_total) <|
  .nil
def f_Laid_total : List D → Res D := run 1 1 b_Laid_total
def x0_Laid_best_swap : E := (.bi .list (.cons (.att (.var 0) "row") .nil))
def x1_Laid_best_swap : E := (.tup (.cons (.bi .sum (.cons (.call 3 f_gaps (.cons (.att (.var 0) "web") (.cons (.var 4) .nil))) .nil)) (.cons (.var 2) (.cons (.var 3) .nil))))
def x2_Laid_best_swap : E := (.ite (.or (.cons (.cmp .isn (.var 1) .non) (.cons (.cmp .lt (.var 5) (.var 1)) .nil))) (.var 5) (.var 1))
def l3_Laid_best_swap : S := .cons (.new 4 x0_Laid_best_swap) <| .cons (.swp 4 2 3) <| .cons .frz <| .cons (.asg 5 x1_Laid_best_swap) <| .cons (.asg 1 x2_Laid_best_swap) .nil
def l4_Laid_best_swap : S := .cons (.forr ⟨false, [3]⟩ (.rng2 (.bin .add (.var 2) (.int 1)) (.bi .len (.cons (.att (.var 0) "row") .nil))) (l3_Laid_best_swap)) .nil
def x5_Laid_best_swap : E := (.ite (.and (.cons (.cmp .ntn (.var 1) .non) (.cons (.cmp .lt (.ix (.var 1) (.int 0)) (.mth 9 "total" f_Laid_total (.var 0) .nil)) .nil))) (.sl (.var 1) (.int 1) .nop) .non)
def b_Laid_best_swap : S :=
  .cons (.asg 1 .non) <|
  .cons (.forr ⟨false, [2]⟩ (.rng1 (.bi .len (.cons (.att (.var 0) "row") .nil))) (l4_Laid_best_swap)) <|
  .cons (.ret x5_Laid_best_swap) <|
  .nil
def f_Laid_best_swap : List D → Res D := run 1 6 b_Laid_best_swap
def x0_law_cell : E := (.ix (.var 0) (.bin .mod (.var 1) (.bi .len (.cons (.var 0) .nil))))
def b_law_cell : S :=
  .cons (.ifs (.var 0) (.cons (.ret x0_law_cell) .nil) (.nil)) <|
  .cons (.ret (.int 0)) <|
  .nil
def f_law_cell : List D → Res D := run 2 2 b_law_cell
def x0_law_mix : E := (.bin .mod (.bin .add (.call 4 f_law_cell (.cons (.var 0) (.cons (.var 1) .nil))) (.bin .mul (.int 104729) (.bin .add (.var 1) (.int 1)))) (.int 4294967291))
def x1_law_mix : E := (.bin .mod (.bin .mul (.var 2) (.int 48271)) (.int 4294967279))
def x2_law_mix : E := (.bin .mod (.bin .add (.bin .mul (.bin .fdiv (.var 2) (.int 64)) (.int 69621)) (.var 2)) (.int 4294967231))
def b_law_mix : S :=
  .cons (.asg 2 x0_law_mix) <|
  .cons (.asg 2 x1_law_mix) <|
  .cons (.ret x2_law_mix) <|
  .nil
def f_law_mix : List D → Res D := run 2 3 b_law_mix
def x0_law_whole : E := (.and (.cons (.isi (.var 0) .int) (.cons (.not (.isi (.var 0) .bool)) .nil)))
def b_law_whole : S :=
  .cons (.ret x0_law_whole) <|
  .nil
def f_law_whole : List D → Res D := run 1 1 b_law_whole
def x0_law_web : E := (.bin .mod (.call 5 f_law_mix (.cons (.var 0) (.cons (.var 1) .nil))) (.bin .add (.var 2) (.int 1)))
def x1_law_web : E := (.bin .add (.int 1) (.bin .mod (.call 5 f_law_mix (.cons (.var 0) (.cons (.bin .add (.var 1) (.int 1)) .nil))) (.int 4)))
def x2_law_web : E := (.call 5 f_law_mix (.cons (.var 0) (.cons (.bin .add (.bin .add (.bin .add (.var 1) (.int 2)) (.bin .mul (.int 8) (.var 6))) (.var 7)) .nil)))
def x3_law_web : E := (.cmp .lt (.bin .mod (.bin .fdiv (.var 8) (.int 8)) (.int 4)) (.var 4))
def x4_law_web : E := (.tup (.cons (.var 6) (.cons (.var 7) (.cons (.ix (.lst (.cons (.int 1) (.cons (.int 1) (.cons (.int 2) (.cons (.int 3) (.cons (.int 7) (.cons (.int 100) .nil))))))) (.bin .mod (.bin .fdiv (.var 8) (.int 64)) (.int 6))) .nil))))
def l5_law_web : S := .cons (.asg 8 x2_law_web) <| .cons (.ifs x3_law_web (.cons (.app 5 x4_law_web) .nil) (.nil)) .nil
def l6_law_web : S := .cons (.forr ⟨false, [7]⟩ (.rng2 (.bin .add (.var 6) (.int 1)) (.var 3)) (l5_law_web)) .nil
def x7_law_web : E := (.tup (.cons (.var 3) (.cons (.var 5) .nil)))
def b_law_web : S :=
  .cons (.asg 3 x0_law_web) <|
  .cons (.asg 4 x1_law_web) <|
  .cons (.new 5 (.lst .nil)) <|
  .cons (.forr ⟨false, [6]⟩ (.rng1 (.var 3)) (l6_law_web)) <|
  .cons (.ret x7_law_web) <|
  .nil
def f_law_web : List D → Res D := run 3 9 b_law_web
def x0_law_order : E := (.bin .mod (.call 5 f_law_mix (.cons (.var 0) (.cons (.bin .add (.var 1) (.bi .len (.cons (.var 4) .nil))) .nil))) (.bi .len (.cons (.var 3) .nil)))
def l1_law_order : S := .cons (.appPop 4 3 x0_law_order) .nil
def b_law_order : S :=
  .cons (.new 3 (.lrg (.var 2))) <|
  .cons (.new 4 (.lst .nil)) <|
  .cons (.whil 100 (.var 3) (l1_law_order)) <|
  .cons (.ret (.var 4)) <|
  .nil
def f_law_order : List D → Res D := run 3 5 b_law_order
def x0_law_lengths : E := (.lc [2, 3, 4] ⟨true, [2, 3, 4]⟩ (.ix (.var 0) (.int 1)) .nop (.bi .abs (.cons (.bin .sub (.mt .index (.var 1) (.cons (.var 2) .nil)) (.mt .index (.var 1) (.cons (.var 3) .nil))) .nil)))
def b_law_lengths : S :=
  .cons (.ret x0_law_lengths) <|
  .nil
def f_law_lengths : List D → Res D := run 2 5 b_law_lengths
def x0_law_gaps : E := (.bi .sorted (.cons (.lst (.cons (.mt .index (.var 1) (.cons (.var 5) .nil)) (.cons (.mt .index (.var 1) (.cons (.var 6) .nil)) .nil))) .nil))
def x1_law_gaps : E := (.bin .add (.var 4) (.bin .mul (.var 7) (.bi .int (.cons (.ch2 .le .lt (.ix (.var 8) (.int 0)) (.var 3) (.ix (.var 8) (.int 1))) .nil))))
def l2_law_gaps : S := .cons (.asg 8 x0_law_gaps) <| .cons (.asg 4 x1_law_gaps) .nil
def l3_law_gaps : S := .cons (.asg 4 (.int 0)) <| .cons (.forr ⟨true, [5, 6, 7]⟩ (.ix (.var 0) (.int 1)) (l2_law_gaps)) <| .cons (.app 2 (.var 4)) .nil
def b_law_gaps : S :=
  .cons (.new 2 (.lst .nil)) <|
  .cons (.forr ⟨false, [3]⟩ (.rng1 (.bin .sub (.bi .len (.cons (.var 1) .nil)) (.int 1))) (l3_law_gaps)) <|
  .cons (.ret (.var 2)) <|
  .nil
def f_law_gaps : List D → Res D := run 2 9 b_law_gaps
def x0_law_measured : E := (.cmp .eq (.var 1) (.str "longest"))
def x1_law_measured : E := (.bi .max (.cons (.bin .add (.lst (.cons (.int 0) .nil)) (.call 9 f_law_lengths (.cons (.var 0) (.cons (.var 2) .nil)))) .nil))
def x2_law_measured : E := (.call 10 f_law_gaps (.cons (.var 0) (.cons (.var 2) .nil)))
def x3_law_measured : E := (.ite (.cmp .eq (.var 1) (.str "most")) (.bi .max (.cons (.bin .add (.lst (.cons (.int 0) .nil)) (.var 3)) .nil)) (.bi .sum (.cons (.var 3) .nil)))
def b_law_measured : S :=
  .cons (.ifs x0_law_measured (.cons (.ret x1_law_measured) .nil) (.nil)) <|
  .cons (.asg 3 x2_law_measured) <|
  .cons (.ret x3_law_measured) <|
  .nil
def f_law_measured : List D → Res D := run 3 4 b_law_measured
def x0_law_refusal : E := (.cmp .isn (.var 0) .non)
def x1_law_refusal : E := (.lst (.cons (.isi (.var 0) (.cls 0)) (.cons (.isi (.var 0) (.cls 1)) (.cons (.isi (.var 0) (.cls 2)) .nil))))
def x2_law_refusal : E := (.bin .add (.var 1) (.lst (.cons (.isi (.var 0) (.cls 3)) (.cons (.isi (.var 0) (.cls 4)) .nil))))
def x3_law_refusal : E := (.or (.cons (.cmp .ne (.mt .count (.var 1) (.cons (.bl true) .nil)) (.int 1)) (.cons (.not (.isi (.var 0) (.cls 6))) .nil)))
def x4_law_refusal : E := (.ix (.lst (.cons (.str "kind") (.cons (.str "order") (.cons (.str "spot") (.cons (.str "text") (.cons (.str "web") .nil)))))) (.mt .index (.var 1) (.cons (.bl true) .nil)))
def b_law_refusal : S :=
  .cons (.ifs x0_law_refusal (.cons (.ret (.str "ok")) .nil) (.nil)) <|
  .cons (.asg 1 x1_law_refusal) <|
  .cons (.asg 1 x2_law_refusal) <|
  .cons (.ifs x3_law_refusal (.cons (.ret (.str "wrong")) .nil) (.nil)) <|
  .cons (.ret x4_law_refusal) <|
  .nil
def f_law_refusal : List D → Res D := run 1 2 b_law_refusal
def x0_law_done : E := (.cmp .eq (.var 1) (.int 0))
def x1_law_done : E := (.cmp .eq (.var 1) (.int 1))
def x2_law_done : E := (.call 12 f_law_refusal (.cons (.var 4) .nil))
def b_law_done : S :=
  .cons (.asg 4 .non) <|
  .cons (.tryk (.cons (.ifs x0_law_done (.cons (.callm 0 2 "swap" f_Laid_swap (.cons (.var 2) (.cons (.var 3) .nil))) .nil) (.cons (.ifs x1_law_done (.cons (.callm 0 3 "move" f_Laid_move (.cons (.var 2) (.cons (.var 3) .nil))) .nil) (.cons (.callm 0 4 "turn" f_Laid_turn (.cons (.var 2) (.cons (.var 3) .nil))) .nil)) .nil)) .nil) 5 4 5) <|
  .cons (.retm x2_law_done) <|
  .nil
def f_law_done : Fm := stD (runM 3 6 b_law_done)
def x0_law_made : E := (.mk 0 f_Laid (.cons (.var 0) (.cons (.var 1) .nil)))
def x1_law_made : E := (.call 12 f_law_refusal (.cons (.var 2) .nil))
def b_law_made : S :=
  .cons (.asg 2 .non) <|
  .cons (.tryk (.cons (.drop x0_law_made) .nil) 5 2 3) <|
  .cons (.ret x1_law_made) <|
  .nil
def f_law_made : List D → Res D := run 2 4 b_law_made
def x0_law_deed : E := (.bi .list (.cons (.var 0) .nil))
def x1_law_deed : E := (.cmp .eq (.var 1) (.int 0))
def x2_law_deed : E := (.cmp .eq (.var 1) (.int 1))
def x3_law_deed : E := (.bin .add (.sl (.var 0) .nop (.var 2)) (.sl (.var 0) (.bin .add (.var 2) (.int 1)) .nop))
def x4_law_deed : E := (.bin .add (.bin .add (.sl (.var 5) .nop (.var 3)) (.lst (.cons (.ix (.var 0) (.var 2)) .nil))) (.sl (.var 5) (.var 3) .nop))
def x5_law_deed : E := (.bi .min2 (.cons (.var 2) (.cons (.var 3) .nil)))
def x6_law_deed : E := (.bi .max2 (.cons (.var 2) (.cons (.var 3) .nil)))
def x7_law_deed : E := (.bin .add (.bin .add (.sl (.var 0) .nop (.var 6)) (.rev (.sl (.var 0) (.var 6) (.bin .add (.var 7) (.int 1))))) (.sl (.var 0) (.bin .add (.var 7) (.int 1)) .nop))
def b_law_deed : S :=
  .cons (.new 4 x0_law_deed) <|
  .cons (.ifs x1_law_deed (.cons (.seti 4 (.var 2) (.ix (.var 0) (.var 3))) <| .cons (.seti 4 (.var 3) (.ix (.var 0) (.var 2))) <| .cons (.ret (.var 4)) .nil) (.nil)) <|
  .cons (.ifs x2_law_deed (.cons (.asg 5 x3_law_deed) <| .cons (.ret x4_law_deed) .nil) (.nil)) <|
  .cons (.asg 6 x5_law_deed) <|
  .cons (.asg 7 x6_law_deed) <|
  .cons (.ret x7_law_deed) <|
  .nil
def f_law_deed : List D → Res D := run 4 8 b_law_deed
def x0_law_best : E := (.call 11 f_law_measured (.cons (.var 0) (.cons (.str "total") (.cons (.var 1) .nil))))
def x1_law_best : E := (.call 11 f_law_measured (.cons (.var 0) (.cons (.str "total") (.cons (.call 15 f_law_deed (.cons (.var 1) (.cons (.int 0) (.cons (.var 4) (.cons (.var 5) .nil))))) .nil))))
def x2_law_best : E := (.and (.cons (.cmp .lt (.var 6) (.var 2)) (.cons (.or (.cons (.cmp .isn (.var 3) .non) (.cons (.cmp .lt (.var 6) (.ix (.var 3) (.int 0))) .nil))) .nil)))
def x3_law_best : E := (.tup (.cons (.var 6) (.cons (.var 4) (.cons (.var 5) .nil))))
def l4_law_best : S := .cons (.asg 6 x1_law_best) <| .cons (.ifs x2_law_best (.cons (.asg 3 x3_law_best) .nil) (.nil)) .nil
def l5_law_best : S := .cons (.forr ⟨false, [5]⟩ (.rng2 (.bin .add (.var 4) (.int 1)) (.bi .len (.cons (.var 1) .nil))) (l4_law_best)) .nil
def x6_law_best : E := (.ite (.cmp .isn (.var 3) .non) .non (.sl (.var 3) (.int 1) .nop))
def b_law_best : S :=
  .cons (.asg 2 x0_law_best) <|
  .cons (.asg 3 .non) <|
  .cons (.forr ⟨false, [4]⟩ (.rng1 (.bi .len (.cons (.var 1) .nil))) (l5_law_best)) <|
  .cons (.ret x6_law_best) <|
  .nil
def f_law_best : List D → Res D := run 2 7 b_law_best
def x0_law_same : E := (.or (.cons (.cmp .ne (.mth 6 "order" f_Laid_order (.var 0) .nil) (.var 2)) (.cons (.cmp .ne (.mth 8 "gaps" f_Laid_gaps (.var 0) .nil) (.call 10 f_law_gaps (.cons (.var 1) (.cons (.var 2) .nil)))) (.cons (.cmp .ne (.mth 10 "best_swap" f_Laid_best_swap (.var 0) .nil) (.call 16 f_law_best (.cons (.var 1) (.cons (.var 2) .nil)))) .nil))))
def x1_law_same : E := (.or (.cons (.cmp .ne (.mth 7 "longest" f_Laid_longest (.var 0) .nil) (.call 11 f_law_measured (.cons (.var 1) (.cons (.str "longest") (.cons (.var 2) .nil))))) (.cons (.not (.call 6 f_law_whole (.cons (.mth 9 "total" f_Laid_total (.var 0) .nil) .nil))) .nil)))
def x2_law_same : E := (.cmp .eq (.mth 9 "total" f_Laid_total (.var 0) .nil) (.call 11 f_law_measured (.cons (.var 1) (.cons (.str "total") (.cons (.var 2) .nil)))))
def b_law_same : S :=
  .cons (.ifs x0_law_same (.cons (.ret (.bl false)) .nil) (.nil)) <|
  .cons (.dapp 6 "order" f_Laid_order (.var 0) (.int 0)) <|
  .cons (.dapp 8 "gaps" f_Laid_gaps (.var 0) (.int 0)) <|
  .cons (.ifs x1_law_same (.cons (.ret (.bl false)) .nil) (.nil)) <|
  .cons (.ret x2_law_same) <|
  .nil
def f_law_same : List D → Res D := run 3 3 b_law_same
def x0_law : E := (.call 7 f_law_web (.cons (.var 0) (.cons (.int 0) (.cons (.int 6) .nil))))
def x1_law : E := (.call 8 f_law_order (.cons (.var 0) (.cons (.int 80) (.cons (.ix (.var 1) (.int 0)) .nil))))
def x2_law : E := (.lst (.cons (.var 2) .nil))
def x3_law : E := (.call 5 f_law_mix (.cons (.var 0) (.cons (.bin .add (.int 91) (.var 7)) .nil)))
def x4_law : E := (.ite (.cmp .eq (.bin .mod (.var 8) (.int 4)) (.int 0)) (.bin .sub (.bin .mod (.bin .fdiv (.var 8) (.int 8)) (.bin .add (.ix (.var 1) (.int 0)) (.int 2))) (.int 1)) (.bin .mod (.bin .fdiv (.var 8) (.int 8)) (.bi .max2 (.cons (.int 1) (.cons (.ix (.var 1) (.int 0)) .nil)))))
def x5_law : E := (.bin .mod (.bin .fdiv (.var 8) (.int 128)) (.bi .max2 (.cons (.int 1) (.cons (.ix (.var 1) (.int 0)) .nil))))
def x6_law : E := (.cmp .eq (.bin .mod (.bin .fdiv (.var 8) (.int 2048)) (.int 4)) (.int 0))
def x7_law : E := (.sl (.var 6) .nop (.bi .max2 (.cons (.int 1) (.cons (.bin .sub (.bi .len (.cons (.var 6) .nil)) (.int 1)) .nil))))
def x8_law : E := (.and (.cons (.ch2 .le .lt (.int 0) (.var 9) (.ix (.var 1) (.int 0))) (.cons (.cmp .lt (.var 10) (.ix (.var 1) (.int 0))) .nil)))
def x9_law : E := (.bin .mod (.bin .fdiv (.var 8) (.int 8192)) (.int 3))
def x10_law : E := (.ix (.lst (.cons (.tup (.cons (.var 9) (.cons (.var 10) .nil))) (.cons (.tup (.cons (.var 10) (.cons (.var 9) .nil))) .nil))) (.bin .mod (.bin .fdiv (.var 8) (.int 32768)) (.int 2)))
def x11_law : E := (.call 15 f_law_deed (.cons (.ix (.var 6) (.neg (.int 1))) (.cons (.var 12) (.cons (.var 9) (.cons (.var 10) .nil)))))
def x12_law : E := (.not (.call 17 f_law_same (.cons (.var 4) (.cons (.var 1) (.cons (.ix (.var 6) (.neg (.int 1))) .nil)))))
def l13_law : S := .cons (.asg 8 x3_law) <| .cons (.asg 9 x4_law) <| .cons (.asg 10 x5_law) <| .cons (.ifs x6_law (.cons (.ifx true 4 5 "back" f_Laid_back .nil (.cmp .gt (.bi .len (.cons (.var 6) .nil)) (.int 1)) (.cons (.ret (.bl false)) .nil) (.nil)) <| .cons (.frz1 6) <| .cons (.new 6 x7_law) .nil) (.cons (.asg 11 x8_law) <| .cons (.asg 12 x9_law) <| .cons (.asgT [9, 10] x10_law) <| .cons (.ifx false 4 13 "_law_done" f_law_done (.cons (.var 12) (.cons (.var 9) (.cons (.var 10) .nil))) (.ix (.lst (.cons (.str "spot") (.cons (.str "ok") .nil))) (.bi .int (.cons (.var 11) .nil))) (.cons (.ret (.bl false)) .nil) (.nil)) <| .cons (.ifs (.var 11) (.cons (.app 6 x11_law) .nil) (.nil)) .nil)) <| .cons (.ifs x12_law (.cons (.ret (.bl false)) .nil) (.nil)) .nil
def x14_law : E := (.or (.cons (.cmp .ne (.call 14 f_law_made (.cons (.tup (.cons (.int 9) (.cons (.lst .nil) .nil))) (.cons (.var 2) .nil))) (.str "web")) (.cons (.cmp .ne (.call 14 f_law_made (.cons (.var 1) (.cons (.bin .add (.var 2) (.lst (.cons (.int 0) .nil))) .nil))) (.str "order")) .nil)))
def x15_law : E := (.call 17 f_law_same (.cons (.var 5) (.cons (.var 1) (.cons (.var 2) .nil))))
def b_law : S :=
  .cons (.asg 1 x0_law) <|
  .cons (.asg 2 x1_law) <|
  .cons (.hnew 3 1 2) <|
  .cons (.hmk 4 3 0 f_LaidJ) <|
  .cons (.hmk 5 3 0 f_LaidJ) <|
  .cons (.happ 3 true (.tup (.cons (.int 0) (.cons (.int 0) (.cons (.int 0) .nil))))) <|
  .cons (.happ 3 false (.int 0)) <|
  .cons (.new 6 x2_law) <|
  .cons (.forr ⟨false, [7]⟩ (.rng1 (.bin .mod (.call 5 f_law_mix (.cons (.var 0) (.cons (.int 90) .nil))) (.int 13))) (l13_law)) <|
  .cons (.ifs x14_law (.cons (.ret (.bl false)) .nil) (.nil)) <|
  .cons (.ret x15_law) <|
  .nil
def f_law : List D → Res D := run 1 13 b_law
end
end Rwl

set_option Elab.async false
set_option linter.all false
set_option maxRecDepth 100000
set_option maxHeartbeats 0
namespace Rwl
open PySem
def tabT : Tb := { T := [("look_web", 1), ("look_order", 2), ("lengths", 2), ("gaps_webs", 2), ("_law_cell", 2), ("_law_mix", 2), ("_law_whole", 1), ("_law_web", 3), ("_law_order", 3), ("_law_lengths", 2), ("_law_gaps", 2), ("_law_measured", 3), ("_law_refusal", 1), ("_law_done", 4), ("_law_made", 2), ("_law_deed", 4), ("_law_best", 2), ("_law_same", 3), ("law", 1)], F := ["web", "row", "old"], M := [("need", 1), ("keep", 0), ("swap", 2), ("move", 2), ("turn", 2), ("back", 0), ("order", 0), ("longest", 0), ("gaps", 0), ("total", 0), ("best_swap", 0)], B := [("Laid", 2)] }
def topS (i : Nat) : Stmt := PySem.Challenge.pw_rowlay_k10_whole_deeds.main.body.getD i (.Pass ⟨0, 0, 0, 0⟩)
def topM (i j : Nat) : Stmt := match topS i with
  | .ClassDef _ _ _ body _ _ _ _ _ _ _ => body.getD j (.Pass ⟨0, 0, 0, 0⟩)
  | _ => .Pass ⟨0, 0, 0, 0⟩
abbrev s_look_web : Stmt := topS 10
def n_look_web : List Str := ["web", "many", "ties", "k"]
theorem k_look_web : (chks b_look_web (tabT.ck n_look_web (L2.defScope s_look_web))).b (L2.defBody s_look_web) = true := by decide +kernel
theorem sc_look_web : L2.FnScope n_look_web ["web"] (L2.defScope s_look_web) := ⟨rfl, rfl, rfl, by decide +kernel, rfl, by decide +kernel, by decide +kernel⟩
abbrev s_look_order : Stmt := topS 11
def n_look_order : List Str := ["web", "order"]
theorem k_look_order : (chks b_look_order (tabT.ck n_look_order (L2.defScope s_look_order))).b (L2.defBody s_look_order) = true := by decide +kernel
theorem sc_look_order : L2.FnScope n_look_order ["web", "order"] (L2.defScope s_look_order) := ⟨rfl, rfl, rfl, by decide +kernel, rfl, by decide +kernel, by decide +kernel⟩
abbrev s_lengths : Stmt := topS 12
def n_lengths : List Str := ["web", "order", "spots", "spot", "one", "other", "weight"]
theorem k_lengths : (chks b_lengths (tabT.ck n_lengths (L2.defScope s_lengths))).b (L2.defBody s_lengths) = true := by decide +kernel
theorem sc_lengths : L2.FnScope n_lengths ["web", "order"] (L2.defScope s_lengths) := ⟨rfl, rfl, rfl, by decide +kernel, rfl, by decide +kernel, by decide +kernel⟩
abbrev s_gaps : Stmt := topS 13
def n_gaps : List Str := ["web", "order", "found", "gap", "ahead", "one", "other", "weight"]
theorem k_gaps : (chks b_gaps (tabT.ck n_gaps (L2.defScope s_gaps))).b (L2.defBody s_gaps) = true := by decide +kernel
theorem sc_gaps : L2.FnScope n_gaps ["web", "order"] (L2.defScope s_gaps) := ⟨rfl, rfl, rfl, by decide +kernel, rfl, by decide +kernel, by decide +kernel⟩
abbrev s_Laid_init : Stmt := topM 16 0
def n_Laid_init : List Str := ["self", "web", "order"]
theorem k_Laid_init : (chks b_Laid_init (tabT.ck n_Laid_init (L2.defScope s_Laid_init))).b (L2.defBody s_Laid_init) = true := by decide +kernel
theorem sc_Laid_init : L2.FnScope n_Laid_init ["self", "web", "order"] (L2.defScope s_Laid_init) := ⟨rfl, rfl, rfl, by decide +kernel, rfl, by decide +kernel, by decide +kernel⟩
abbrev s_Laid_need : Stmt := topM 16 1
def n_Laid_need : List Str := ["self", "spot"]
theorem k_Laid_need : (chks b_Laid_need (tabT.ck n_Laid_need (L2.defScope s_Laid_need))).b (L2.defBody s_Laid_need) = true := by decide +kernel
theorem sc_Laid_need : L2.FnScope n_Laid_need ["self", "spot"] (L2.defScope s_Laid_need) := ⟨rfl, rfl, rfl, by decide +kernel, rfl, by decide +kernel, by decide +kernel⟩
abbrev s_Laid_keep : Stmt := topM 16 2
def n_Laid_keep : List Str := ["self"]
theorem k_Laid_keep : (chks b_Laid_keep (tabT.ck n_Laid_keep (L2.defScope s_Laid_keep))).b (L2.defBody s_Laid_keep) = true := by decide +kernel
theorem sc_Laid_keep : L2.FnScope n_Laid_keep ["self"] (L2.defScope s_Laid_keep) := ⟨rfl, rfl, rfl, by decide +kernel, rfl, by decide +kernel, by decide +kernel⟩
abbrev s_Laid_swap : Stmt := topM 16 3
def n_Laid_swap : List Str := ["self", "one", "other"]
theorem k_Laid_swap : (chks b_Laid_swap (tabT.ck n_Laid_swap (L2.defScope s_Laid_swap))).b (L2.defBody s_Laid_swap) = true := by decide +kernel
theorem sc_Laid_swap : L2.FnScope n_Laid_swap ["self", "one", "other"] (L2.defScope s_Laid_swap) := ⟨rfl, rfl, rfl, by decide +kernel, rfl, by decide +kernel, by decide +kernel⟩
abbrev s_Laid_move : Stmt := topM 16 4
def n_Laid_move : List Str := ["self", "one", "other"]
theorem k_Laid_move : (chks b_Laid_move (tabT.ck n_Laid_move (L2.defScope s_Laid_move))).b (L2.defBody s_Laid_move) = true := by decide +kernel
theorem sc_Laid_move : L2.FnScope n_Laid_move ["self", "one", "other"] (L2.defScope s_Laid_move) := ⟨rfl, rfl, rfl, by decide +kernel, rfl, by decide +kernel, by decide +kernel⟩
abbrev s_Laid_turn : Stmt := topM 16 5
def n_Laid_turn : List Str := ["self", "one", "other", "first", "last"]
theorem k_Laid_turn : (chks b_Laid_turn (tabT.ck n_Laid_turn (L2.defScope s_Laid_turn))).b (L2.defBody s_Laid_turn) = true := by decide +kernel
theorem sc_Laid_turn : L2.FnScope n_Laid_turn ["self", "one", "other"] (L2.defScope s_Laid_turn) := ⟨rfl, rfl, rfl, by decide +kernel, rfl, by decide +kernel, by decide +kernel⟩
abbrev s_Laid_back : Stmt := topM 16 6
def n_Laid_back : List Str := ["self"]
theorem k_Laid_back : (chks b_Laid_back (tabT.ck n_Laid_back (L2.defScope s_Laid_back))).b (L2.defBody s_Laid_back) = true := by decide +kernel
theorem sc_Laid_back : L2.FnScope n_Laid_back ["self"] (L2.defScope s_Laid_back) := ⟨rfl, rfl, rfl, by decide +kernel, rfl, by decide +kernel, by decide +kernel⟩
abbrev s_Laid_order : Stmt := topM 16 7
def n_Laid_order : List Str := ["self"]
theorem k_Laid_order : (chks b_Laid_order (tabT.ck n_Laid_order (L2.defScope s_Laid_order))).b (L2.defBody s_Laid_order) = true := by decide +kernel
theorem sc_Laid_order : L2.FnScope n_Laid_order ["self"] (L2.defScope s_Laid_order) := ⟨rfl, rfl, rfl, by decide +kernel, rfl, by decide +kernel, by decide +kernel⟩
abbrev s_Laid_longest : Stmt := topM 16 8
def n_Laid_longest : List Str := ["self"]
theorem k_Laid_longest : (chks b_Laid_longest (tabT.ck n_Laid_longest (L2.defScope s_Laid_longest))).b (L2.defBody s_Laid_longest) = true := by decide +kernel
theorem sc_Laid_longest : L2.FnScope n_Laid_longest ["self"] (L2.defScope s_Laid_longest) := ⟨rfl, rfl, rfl, by decide +kernel, rfl, by decide +kernel, by decide +kernel⟩
abbrev s_Laid_gaps : Stmt := topM 16 9
def n_Laid_gaps : List Str := ["self"]
theorem k_Laid_gaps : (chks b_Laid_gaps (tabT.ck n_Laid_gaps (L2.defScope s_Laid_gaps))).b (L2.defBody s_Laid_gaps) = true := by decide +kernel
theorem sc_Laid_gaps : L2.FnScope n_Laid_gaps ["self"] (L2.defScope s_Laid_gaps) := ⟨rfl, rfl, rfl, by decide +kernel, rfl, by decide +kernel, by decide +kernel⟩
abbrev s_Laid_total : Stmt := topM 16 10
def n_Laid_total : List Str := ["self"]
theorem k_Laid_total : (chks b_Laid_total (tabT.ck n_Laid_total (L2.defScope s_Laid_total))).b (L2.defBody s_Laid_total) = true := by decide +kernel
theorem sc_Laid_total : L2.FnScope n_Laid_total ["self"] (L2.defScope s_Laid_total) := ⟨rfl, rfl, rfl, by decide +kernel, rfl, by decide +kernel, by decide +kernel⟩
abbrev s_Laid_best_swap : Stmt := topM 16 11
def n_Laid_best_swap : List Str := ["self", "best", "one", "other", "row", "here"]
theorem k_Laid_best_swap : (chks b_Laid_best_swap (tabT.ck n_Laid_best_swap (L2.defScope s_Laid_best_swap))).b (L2.defBody s_Laid_best_swap) = true := by decide +kernel
theorem sc_Laid_best_swap : L2.FnScope n_Laid_best_swap ["self"] (L2.defScope s_Laid_best_swap) := ⟨rfl, rfl, rfl, by decide +kernel, rfl, by decide +kernel, by decide +kernel⟩
abbrev s_law_cell : Stmt := topS 18
def n_law_cell : List Str := ["_law_script", "_law_k"]
theorem k_law_cell : (chks b_law_cell (tabT.ck n_law_cell (L2.defScope s_law_cell))).b (L2.defBody s_law_cell) = true := by decide +kernel
theorem sc_law_cell : L2.FnScope n_law_cell ["_law_script", "_law_k"] (L2.defScope s_law_cell) := ⟨rfl, rfl, rfl, by decide +kernel, rfl, by decide +kernel, by decide +kernel⟩
abbrev s_law_mix : Stmt := topS 19
def n_law_mix : List Str := ["_law_script", "_law_k", "_law_number"]
theorem k_law_mix : (chks b_law_mix (tabT.ck n_law_mix (L2.defScope s_law_mix))).b (L2.defBody s_law_mix) = true := by decide +kernel
theorem sc_law_mix : L2.FnScope n_law_mix ["_law_script", "_law_k"] (L2.defScope s_law_mix) := ⟨rfl, rfl, rfl, by decide +kernel, rfl, by decide +kernel, by decide +kernel⟩
abbrev s_law_whole : Stmt := topS 20
def n_law_whole : List Str := ["_law_found"]
theorem k_law_whole : (chks b_law_whole (tabT.ck n_law_whole (L2.defScope s_law_whole))).b (L2.defBody s_law_whole) = true := by decide +kernel
theorem sc_law_whole : L2.FnScope n_law_whole ["_law_found"] (L2.defScope s_law_whole) := ⟨rfl, rfl, rfl, by decide +kernel, rfl, by decide +kernel, by decide +kernel⟩
abbrev s_law_web : Stmt := topS 21
def n_law_web : List Str := ["_law_script", "_law_k", "_law_places", "_law_many", "_law_dense", "_law_ties", "_law_one", "_law_other", "_law_number"]
theorem k_law_web : (chks b_law_web (tabT.ck n_law_web (L2.defScope s_law_web))).b (L2.defBody s_law_web) = true := by decide +kernel
theorem sc_law_web : L2.FnScope n_law_web ["_law_script", "_law_k", "_law_places"] (L2.defScope s_law_web) := ⟨rfl, rfl, rfl, by decide +kernel, rfl, by decide +kernel, by decide +kernel⟩
abbrev s_law_order : Stmt := topS 22
def n_law_order : List Str := ["_law_script", "_law_k", "_law_many", "_law_left", "_law_found"]
theorem k_law_order : (chks b_law_order (tabT.ck n_law_order (L2.defScope s_law_order))).b (L2.defBody s_law_order) = true := by decide +kernel
theorem sc_law_order : L2.FnScope n_law_order ["_law_script", "_law_k", "_law_many"] (L2.defScope s_law_order) := ⟨rfl, rfl, rfl, by decide +kernel, rfl, by decide +kernel, by decide +kernel⟩
abbrev s_law_lengths : Stmt := topS 23
def n_law_lengths : List Str := ["_law_web_here", "_law_order_here", "_law_one", "_law_other", "_law_weight"]
theorem k_law_lengths : (chks b_law_lengths (tabT.ck n_law_lengths (L2.defScope s_law_lengths))).b (L2.defBody s_law_lengths) = true := by decide +kernel
theorem sc_law_lengths : L2.FnScope n_law_lengths ["_law_web_here", "_law_order_here"] (L2.defScope s_law_lengths) := ⟨rfl, rfl, rfl, by decide +kernel, rfl, by decide +kernel, by decide +kernel⟩
abbrev s_law_gaps : Stmt := topS 24
def n_law_gaps : List Str := ["_law_web_here", "_law_order_here", "_law_found", "_law_gap", "_law_over", "_law_one", "_law_other", "_law_weight", "_law_spots"]
theorem k_law_gaps : (chks b_law_gaps (tabT.ck n_law_gaps (L2.defScope s_law_gaps))).b (L2.defBody s_law_gaps) = true := by decide +kernel
theorem sc_law_gaps : L2.FnScope n_law_gaps ["_law_web_here", "_law_order_here"] (L2.defScope s_law_gaps) := ⟨rfl, rfl, rfl, by decide +kernel, rfl, by decide +kernel, by decide +kernel⟩
abbrev s_law_measured : Stmt := topS 25
def n_law_measured : List Str := ["_law_web_here", "_law_kind", "_law_order_here", "_law_gaps_here"]
theorem k_law_measured : (chks b_law_measured (tabT.ck n_law_measured (L2.defScope s_law_measured))).b (L2.defBody s_law_measured) = true := by decide +kernel
theorem sc_law_measured : L2.FnScope n_law_measured ["_law_web_here", "_law_kind", "_law_order_here"] (L2.defScope s_law_measured) := ⟨rfl, rfl, rfl, by decide +kernel, rfl, by decide +kernel, by decide +kernel⟩
abbrev s_law_refusal : Stmt := topS 26
def n_law_refusal : List Str := ["_law_kept", "_law_kinds"]
theorem k_law_refusal : (chks b_law_refusal (tabT.ck n_law_refusal (L2.defScope s_law_refusal))).b (L2.defBody s_law_refusal) = true := by decide +kernel
theorem sc_law_refusal : L2.FnScope n_law_refusal ["_law_kept"] (L2.defScope s_law_refusal) := ⟨rfl, rfl, rfl, by decide +kernel, rfl, by decide +kernel, by decide +kernel⟩
abbrev s_law_done : Stmt := topS 27
def n_law_done : List Str := ["_law_laid", "_law_word", "_law_one", "_law_other", "_law_kept", "e"]
theorem k_law_done : (chks b_law_done (tabT.ck n_law_done (L2.defScope s_law_done))).b (L2.defBody s_law_done) = true := by decide +kernel
theorem sc_law_done : L2.FnScope n_law_done ["_law_laid", "_law_word", "_law_one", "_law_other"] (L2.defScope s_law_done) := ⟨rfl, rfl, rfl, by decide +kernel, rfl, by decide +kernel, by decide +kernel⟩
abbrev s_law_made : Stmt := topS 28
def n_law_made : List Str := ["_law_web_here", "_law_order_here", "_law_kept", "e"]
theorem k_law_made : (chks b_law_made (tabT.ck n_law_made (L2.defScope s_law_made))).b (L2.defBody s_law_made) = true := by decide +kernel
theorem sc_law_made : L2.FnScope n_law_made ["_law_web_here", "_law_order_here"] (L2.defScope s_law_made) := ⟨rfl, rfl, rfl, by decide +kernel, rfl, by decide +kernel, by decide +kernel⟩
abbrev s_law_deed : Stmt := topS 29
def n_law_deed : List Str := ["_law_row", "_law_word", "_law_one", "_law_other", "_law_found", "_law_rest", "_law_low", "_law_high"]
theorem k_law_deed : (chks b_law_deed (tabT.ck n_law_deed (L2.defScope s_law_deed))).b (L2.defBody s_law_deed) = true := by decide +kernel
theorem sc_law_deed : L2.FnScope n_law_deed ["_law_row", "_law_word", "_law_one", "_law_other"] (L2.defScope s_law_deed) := ⟨rfl, rfl, rfl, by decide +kernel, rfl, by decide +kernel, by decide +kernel⟩
abbrev s_law_best : Stmt := topS 30
def n_law_best : List Str := ["_law_web_here", "_law_row", "_law_here", "_law_best_here", "_law_one", "_law_other", "_law_new"]
theorem k_law_best : (chks b_law_best (tabT.ck n_law_best (L2.defScope s_law_best))).b (L2.defBody s_law_best) = true := by decide +kernel
theorem sc_law_best : L2.FnScope n_law_best ["_law_web_here", "_law_row"] (L2.defScope s_law_best) := ⟨rfl, rfl, rfl, by decide +kernel, rfl, by decide +kernel, by decide +kernel⟩
abbrev s_law_same : Stmt := topS 31
def n_law_same : List Str := ["_law_laid", "_law_web_here", "_law_row"]
theorem k_law_same : (chks b_law_same (tabT.ck n_law_same (L2.defScope s_law_same))).b (L2.defBody s_law_same) = true := by decide +kernel
theorem sc_law_same : L2.FnScope n_law_same ["_law_laid", "_law_web_here", "_law_row"] (L2.defScope s_law_same) := ⟨rfl, rfl, rfl, by decide +kernel, rfl, by decide +kernel, by decide +kernel⟩
abbrev s_law : Stmt := topS 32
def n_law : List Str := ["_law_script", "_law_web_here", "_law_row", "_law_handed", "_law_laid", "_law_beside", "_law_rows", "_law_k", "_law_number", "_law_one", "_law_other", "_law_good", "_law_word"]
theorem k_law : (chks b_law (tabT.ck n_law (L2.defScope s_law))).b (L2.defBody s_law) = true := by decide +kernel
theorem sc_law : L2.FnScope n_law ["_law_script"] (L2.defScope s_law) := ⟨rfl, rfl, rfl, by decide +kernel, rfl, by decide +kernel, by decide +kernel⟩
theorem kj_Laid : chkJ (tabT.ck n_Laid_init (L2.defScope s_Laid_init)) 1 "web" "row" "old" (L2.defBody s_Laid_init) = true := by decide +kernel
end Rwl

set_option Elab.async false
set_option linter.all false
set_option maxRecDepth 100000
set_option maxHeartbeats 0
namespace Rwl
open PySem PySem.W PyProof.Rows
def d_look_web : He.DefD := ⟨("look_web", none), "look_web", "look_web", L2.defArgs s_look_web, L2.defBody s_look_web, L2.defScope s_look_web, [], []⟩
def d_look_order : He.DefD := ⟨("look_order", none), "look_order", "look_order", L2.defArgs s_look_order, L2.defBody s_look_order, L2.defScope s_look_order, [], []⟩
def d_lengths : He.DefD := ⟨("lengths", none), "lengths", "lengths", L2.defArgs s_lengths, L2.defBody s_lengths, L2.defScope s_lengths, [], []⟩
def d_gaps : He.DefD := ⟨("gaps_webs", none), "gaps", "gaps", L2.defArgs s_gaps, L2.defBody s_gaps, L2.defScope s_gaps, [], []⟩
def d_Laid_init : He.DefD := ⟨("Laid", some "__init__"), "__init__", "Laid.__init__", L2.defArgs s_Laid_init, L2.defBody s_Laid_init, L2.defScope s_Laid_init, [], []⟩
def d_Laid_need : He.DefD := ⟨("Laid", some "need"), "need", "Laid.need", L2.defArgs s_Laid_need, L2.defBody s_Laid_need, L2.defScope s_Laid_need, [], []⟩
def d_Laid_keep : He.DefD := ⟨("Laid", some "keep"), "keep", "Laid.keep", L2.defArgs s_Laid_keep, L2.defBody s_Laid_keep, L2.defScope s_Laid_keep, [], []⟩
def d_Laid_swap : He.DefD := ⟨("Laid", some "swap"), "swap", "Laid.swap", L2.defArgs s_Laid_swap, L2.defBody s_Laid_swap, L2.defScope s_Laid_swap, [], []⟩
def d_Laid_move : He.DefD := ⟨("Laid", some "move"), "move", "Laid.move", L2.defArgs s_Laid_move, L2.defBody s_Laid_move, L2.defScope s_Laid_move, [], []⟩
def d_Laid_turn : He.DefD := ⟨("Laid", some "turn"), "turn", "Laid.turn", L2.defArgs s_Laid_turn, L2.defBody s_Laid_turn, L2.defScope s_Laid_turn, [], []⟩
def d_Laid_back : He.DefD := ⟨("Laid", some "back"), "back", "Laid.back", L2.defArgs s_Laid_back, L2.defBody s_Laid_back, L2.defScope s_Laid_back, [], []⟩
def d_Laid_order : He.DefD := ⟨("Laid", some "order"), "order", "Laid.order", L2.defArgs s_Laid_order, L2.defBody s_Laid_order, L2.defScope s_Laid_order, [], []⟩
def d_Laid_longest : He.DefD := ⟨("Laid", some "longest"), "longest", "Laid.longest", L2.defArgs s_Laid_longest, L2.defBody s_Laid_longest, L2.defScope s_Laid_longest, [], []⟩
def d_Laid_gaps : He.DefD := ⟨("Laid", some "gaps"), "gaps", "Laid.gaps", L2.defArgs s_Laid_gaps, L2.defBody s_Laid_gaps, L2.defScope s_Laid_gaps, [], []⟩
def d_Laid_total : He.DefD := ⟨("Laid", some "total"), "total", "Laid.total", L2.defArgs s_Laid_total, L2.defBody s_Laid_total, L2.defScope s_Laid_total, [], []⟩
def d_Laid_best_swap : He.DefD := ⟨("Laid", some "best_swap"), "best_swap", "Laid.best_swap", L2.defArgs s_Laid_best_swap, L2.defBody s_Laid_best_swap, L2.defScope s_Laid_best_swap, [], []⟩
def d_law_cell : He.DefD := ⟨("_law_cell", none), "_law_cell", "_law_cell", L2.defArgs s_law_cell, L2.defBody s_law_cell, L2.defScope s_law_cell, [], []⟩
def d_law_mix : He.DefD := ⟨("_law_mix", none), "_law_mix", "_law_mix", L2.defArgs s_law_mix, L2.defBody s_law_mix, L2.defScope s_law_mix, [], []⟩
def d_law_whole : He.DefD := ⟨("_law_whole", none), "_law_whole", "_law_whole", L2.defArgs s_law_whole, L2.defBody s_law_whole, L2.defScope s_law_whole, [], []⟩
def d_law_web : He.DefD := ⟨("_law_web", none), "_law_web", "_law_web", L2.defArgs s_law_web, L2.defBody s_law_web, L2.defScope s_law_web, [], []⟩
def d_law_order : He.DefD := ⟨("_law_order", none), "_law_order", "_law_order", L2.defArgs s_law_order, L2.defBody s_law_order, L2.defScope s_law_order, [], []⟩
def d_law_lengths : He.DefD := ⟨("_law_lengths", none), "_law_lengths", "_law_lengths", L2.defArgs s_law_lengths, L2.defBody s_law_lengths, L2.defScope s_law_lengths, [], []⟩
def d_law_gaps : He.DefD := ⟨("_law_gaps", none), "_law_gaps", "_law_gaps", L2.defArgs s_law_gaps, L2.defBody s_law_gaps, L2.defScope s_law_gaps, [], []⟩
def d_law_measured : He.DefD := ⟨("_law_measured", none), "_law_measured", "_law_measured", L2.defArgs s_law_measured, L2.defBody s_law_measured, L2.defScope s_law_measured, [], []⟩
def d_law_refusal : He.DefD := ⟨("_law_refusal", none), "_law_refusal", "_law_refusal", L2.defArgs s_law_refusal, L2.defBody s_law_refusal, L2.defScope s_law_refusal, [], []⟩
def d_law_done : He.DefD := ⟨("_law_done", none), "_law_done", "_law_done", L2.defArgs s_law_done, L2.defBody s_law_done, L2.defScope s_law_done, [], []⟩
def d_law_made : He.DefD := ⟨("_law_made", none), "_law_made", "_law_made", L2.defArgs s_law_made, L2.defBody s_law_made, L2.defScope s_law_made, [], []⟩
def d_law_deed : He.DefD := ⟨("_law_deed", none), "_law_deed", "_law_deed", L2.defArgs s_law_deed, L2.defBody s_law_deed, L2.defScope s_law_deed, [], []⟩
def d_law_best : He.DefD := ⟨("_law_best", none), "_law_best", "_law_best", L2.defArgs s_law_best, L2.defBody s_law_best, L2.defScope s_law_best, [], []⟩
def d_law_same : He.DefD := ⟨("_law_same", none), "_law_same", "_law_same", L2.defArgs s_law_same, L2.defBody s_law_same, L2.defScope s_law_same, [], []⟩
def d_law : He.DefD := ⟨("law", none), "law", "law", L2.defArgs s_law, L2.defBody s_law, L2.defScope s_law, [], []⟩
def fnL : List He.DefD := [d_look_web, d_look_order, d_lengths, d_gaps, d_Laid_init, d_Laid_need, d_Laid_keep, d_Laid_swap, d_Laid_move, d_Laid_turn, d_Laid_back, d_Laid_order, d_Laid_longest, d_Laid_gaps, d_Laid_total, d_Laid_best_swap, d_law_cell, d_law_mix, d_law_whole, d_law_web, d_law_order, d_law_lengths, d_law_gaps, d_law_measured, d_law_refusal, d_law_done, d_law_made, d_law_deed, d_law_best, d_law_same, d_law]
def faL : List He.Fa := faStd ++ [.glo "look_web", .glo "look_order", .glo "lengths", .glo "gaps_webs", .glo "_law_cell", .glo "_law_mix", .glo "_law_whole", .glo "_law_web", .glo "_law_order", .glo "_law_lengths", .glo "_law_gaps", .glo "_law_measured", .glo "_law_refusal", .glo "_law_done", .glo "_law_made", .glo "_law_deed", .glo "_law_best", .glo "_law_same", .glo "law", .int "MOST_PLACES" 8, .int "MOST_WEIGHT" 100, .glo "Laid", .cls "Laid", .mkr "Laid", .noat "Laid" "web", .noat "Laid" "row", .noat "Laid" "old", .meth "Laid" "need", .meth "Laid" "keep", .meth "Laid" "swap", .meth "Laid" "move", .meth "Laid" "turn", .meth "Laid" "back", .meth "Laid" "order", .meth "Laid" "longest", .meth "Laid" "gaps", .meth "Laid" "total", .meth "Laid" "best_swap"]
def exL (K : PySem.W.Frag) : Bool := exB K
def looseL : List Str := (["LayError", "BadWeb", "BadOrder", "BadSpot", "BadKind", "BadText", "MOST_PLACES", "MOST_WEIGHT", "look_web", "look_order", "lengths", "gaps", "gaps_webs", "Laid", "_law_cell", "_law_mix", "_law_whole", "_law_web", "_law_order", "_law_lengths"] : List Str) ++ (["_law_gaps", "_law_measured", "_law_refusal", "_law_done", "_law_made", "_law_deed", "_law_best", "_law_same"] : List Str)
abbrev rowL : PySem.W.OpenRow := PySem.W.OpenLaw.row PySem.Challenge.rw_rowlay_k10_whole_deeds
abbrev hkL : PySem.W.Hook := hookW 5 faL fnL exL
def obL (s : PySem.W.SharedT) : He.AlD × Bool := obsW 5 faL fnL exL (HandSHeadRun.getT s)
theorem obL_eq (s : PySem.W.SharedT) : obL s = hkL.obs s.abs := obsW_eq (HandSHeadRun.getT_eq s)
theorem runL (w : World) : HandSHeadRun.RunEq rowL (PySem.W.view rowL.prog [32]) hkL obL 3000 looseL w := by
  intro os
  kernel_rfl
end Rwl

set_option Elab.async false
set_option linter.all false
set_option maxRecDepth 100000
set_option maxHeartbeats 0
namespace Rwl
open PySem PySem.W PyProof.Rows
section
variable {P : Program} {w : World} {K : PySem.W.Frag} {mg : Str → Option Value} {base : Heap} (M : Md (mkU K (some "Laid") P w) P w K mg) (na : ∀ y, y ∈ tabT.F → NaOk (mkU K (some "Laid") P w) K y)
include M na
theorem is_look_web {f : Addr} {fd : FuncData} (F : L2.FunD K "look_web" "look_web" (L2.defArgs s_look_web) (L2.defBody s_look_web) (L2.defScope s_look_web) [] [] f fd) (hm : mg "look_web" = some (.ref f)) (g_MOST_PLACES : GlIs (mkU K (some "Laid") P w) K mg "MOST_PLACES" (.int 8)) (g_MOST_WEIGHT : GlIs (mkU K (some "Laid") P w) K mg "MOST_WEIGHT" (.int 100)) : DefIs (mkU K (some "Laid") P w) P w K mg base 1 "look_web" 1 f_look_web := by
  exact def_is (ps := ["web"]) (N := n_look_web) (t := tabT) (b := b_look_web) F hm (F.bindsN fun _ _ _ _ _ _ us hl => match us, hl with | [_], _ => rfl) sc_look_web M na k_look_web ⟨trivial, ⟨⟨⟨trivial, trivial, g_MOST_PLACES⟩, ⟨trivial, trivial⟩, trivial⟩, ⟨⟨⟨trivial, trivial⟩, ⟨⟨⟨⟨⟨⟨trivial, trivial⟩, trivial⟩, trivial⟩, ⟨⟨trivial, ⟨⟨trivial, trivial⟩, trivial⟩, ⟨⟨trivial, trivial⟩, trivial⟩, trivial⟩, ⟨⟨trivial, ⟨⟨trivial, trivial⟩, trivial⟩, g_MOST_WEIGHT⟩, trivial⟩⟩⟩, ⟨trivial, trivial⟩, trivial⟩, ⟨⟨⟨⟨trivial, trivial⟩, ⟨⟨⟨⟨trivial, ⟨trivial, trivial⟩⟩, trivial, trivial⟩, ⟨⟨trivial, trivial⟩, trivial, trivial⟩⟩, trivial⟩⟩, ⟨trivial, trivial⟩, trivial⟩, trivial⟩⟩⟩, trivial⟩⟩⟩
theorem is_look_order {f : Addr} {fd : FuncData} (F : L2.FunD K "look_order" "look_order" (L2.defArgs s_look_order) (L2.defBody s_look_order) (L2.defScope s_look_order) [] [] f fd) (hm : mg "look_order" = some (.ref f)) (d_look_web : DefIs (mkU K (some "Laid") P w) P w K mg base 1 "look_web" 1 f_look_web) : DefIs (mkU K (some "Laid") P w) P w K mg base 2 "look_order" 2 f_look_order := by
  have c_look_web : PcIs (mkU K (some "Laid") P w) P w K mg base 1 tabT 0 0 f_look_web := ⟨_, _, rfl, d_look_web.mono (by decide)⟩
  exact def_is (ps := ["web", "order"]) (N := n_look_order) (t := tabT) (b := b_look_order) F hm (F.bindsN fun _ _ _ _ _ _ us hl => match us, hl with | [_, _], _ => rfl) sc_look_order M na k_look_order ⟨⟨c_look_web, ⟨trivial, trivial⟩⟩, ⟨⟨⟨⟨trivial, trivial⟩, ⟨trivial, trivial⟩⟩, ⟨trivial, trivial⟩, trivial⟩, trivial⟩⟩
theorem is_lengths {f : Addr} {fd : FuncData} (F : L2.FunD K "lengths" "lengths" (L2.defArgs s_lengths) (L2.defBody s_lengths) (L2.defScope s_lengths) [] [] f fd) (hm : mg "lengths" = some (.ref f)) (d_look_order : DefIs (mkU K (some "Laid") P w) P w K mg base 2 "look_order" 2 f_look_order) : DefIs (mkU K (some "Laid") P w) P w K mg base 3 "lengths" 2 f_lengths := by
  have c_look_order : PcIs (mkU K (some "Laid") P w) P w K mg base 2 tabT 0 1 f_look_order := ⟨_, _, rfl, d_look_order.mono (by decide)⟩
  exact def_is (ps := ["web", "order"]) (N := n_lengths) (t := tabT) (b := b_lengths) F hm (F.bindsN fun _ _ _ _ _ _ us hl => match us, hl with | [_, _], _ => rfl) sc_lengths M na k_lengths ⟨⟨c_look_order, ⟨trivial, ⟨trivial, trivial⟩⟩⟩, ⟨trivial, ⟨⟨⟨trivial, trivial⟩, ⟨⟨⟨trivial, trivial⟩, trivial⟩, trivial⟩⟩, ⟨⟨⟨trivial, trivial⟩, trivial, ⟨⟨⟨trivial, trivial⟩, ⟨trivial, trivial⟩⟩, trivial⟩⟩, trivial⟩⟩⟩⟩
theorem is_gaps {f : Addr} {fd : FuncData} (F : L2.FunD K "gaps" "gaps" (L2.defArgs s_gaps) (L2.defBody s_gaps) (L2.defScope s_gaps) [] [] f fd) (hm : mg "gaps_webs" = some (.ref f)) (d_look_order : DefIs (mkU K (some "Laid") P w) P w K mg base 2 "look_order" 2 f_look_order) : DefIsF (mkU K (some "Laid") P w) P w K mg base 3 "gaps_webs" 2 f_gaps := by
  have c_look_order : PcIs (mkU K (some "Laid") P w) P w K mg base 2 tabT 0 1 f_look_order := ⟨_, _, rfl, d_look_order.mono (by decide)⟩
  exact def_isF (ps := ["web", "order"]) (N := n_gaps) (t := tabT) (b := b_gaps) F hm (F.bindsN fun _ _ _ _ _ _ us hl => match us, hl with | [_, _], _ => rfl) sc_gaps M na k_gaps ⟨⟨c_look_order, ⟨trivial, ⟨trivial, trivial⟩⟩⟩, ⟨trivial, ⟨⟨⟨trivial, ⟨trivial, trivial⟩⟩, ⟨⟨trivial, trivial, trivial⟩, ⟨⟨⟨⟨trivial, trivial⟩, ⟨⟨trivial, trivial⟩, ⟨trivial, trivial⟩⟩, trivial⟩, trivial⟩, trivial⟩⟩⟩, ⟨trivial, trivial⟩⟩⟩⟩
theorem is_Laid {f C : Addr} {fd : FuncData} (F : L2.FunD K "__init__" "Laid.__init__" (L2.defArgs s_Laid_init) (L2.defBody s_Laid_init) (L2.defScope s_Laid_init) [] [] f fd) (ho : (mkU K (some "Laid") P w).oc 0 = some C) (hm : mg "Laid" = some (.ref C)) (mk : L2.Mk K C f) (d_look_order : DefIs (mkU K (some "Laid") P w) P w K mg base 2 "look_order" 2 f_look_order) : MakIs (mkU K (some "Laid") P w) P w K mg base 4 "Laid" 2 f_Laid := by
  have c_look_order : PcIs (mkU K (some "Laid") P w) P w K mg base 2 tabT 0 1 f_look_order := ⟨_, _, rfl, d_look_order.mono (by decide)⟩
  exact mak_is (ps := ["self", "web", "order"]) (N := n_Laid_init) (t := tabT) (b := b_Laid_init) F ho hm mk rfl (F.bindsN fun _ _ _ _ _ _ us hl => match us, hl with | [_, _, _], _ => rfl) sc_Laid_init M na k_Laid_init ⟨⟨c_look_order, ⟨trivial, ⟨trivial, trivial⟩⟩⟩, ⟨⟨⟨trivial, trivial⟩, ⟨⟨⟨trivial, trivial⟩, trivial⟩, trivial⟩⟩, ⟨⟨trivial, trivial⟩, ⟨trivial, trivial⟩⟩⟩⟩
theorem is_LaidJ {f C : Addr} {fd : FuncData} (F : L2.FunD K "__init__" "Laid.__init__" (L2.defArgs s_Laid_init) (L2.defBody s_Laid_init) (L2.defScope s_Laid_init) [] [] f fd) (ho : (mkU K (some "Laid") P w).oc 0 = some C) (hm : mg "Laid" = some (.ref C)) (mk : L2.Mk K C f) (d_look_order : DefIs (mkU K (some "Laid") P w) P w K mg base 2 "look_order" 2 f_look_order) : MakIsJ (mkU K (some "Laid") P w) P w K mg base 4 "Laid" f_LaidJ := by
  have c_look_order : PcIs (mkU K (some "Laid") P w) P w K mg base 2 tabT 0 1 f_look_order := ⟨_, _, rfl, d_look_order.mono (by decide)⟩
  exact mak_isJ (ps := ["self", "web", "order"]) (N := n_Laid_init) (t := tabT) F ho hm mk rfl (F.bindsN fun _ _ _ _ _ _ us hl => match us, hl with | [_, _, _], _ => rfl) sc_Laid_init M na kj_Laid c_look_order
theorem is_Laid_need {f C : Addr} {fd : FuncData} (F : L2.FunD K "need" "Laid.need" (L2.defArgs s_Laid_need) (L2.defBody s_Laid_need) (L2.defScope s_Laid_need) [] [] f fd) (ho : (mkU K (some "Laid") P w).oc 0 = some C) (hc : L2.Cls K C) (hm : L2.Meth K C "need" f) : MetIs (mkU K (some "Laid") P w) P w K mg base 1 "need" 1 f_Laid_need := by
  exact met_is (ps := ["self", "spot"]) (N := n_Laid_need) (t := tabT) (b := b_Laid_need) F ho hc hm rfl (F.bindsN fun _ _ _ _ _ _ us hl => match us, hl with | [_, _], _ => rfl) sc_Laid_need M na k_Laid_need ⟨⟨⟨trivial, trivial, ⟨trivial, trivial⟩⟩, ⟨trivial, trivial⟩, trivial⟩, trivial⟩
theorem is_Laid_keep {f C : Addr} {fd : FuncData} (F : L2.FunD K "keep" "Laid.keep" (L2.defArgs s_Laid_keep) (L2.defBody s_Laid_keep) (L2.defScope s_Laid_keep) [] [] f fd) (ho : (mkU K (some "Laid") P w).oc 0 = some C) (hc : L2.Cls K C) (hm : L2.Meth K C "keep" f) : MetIsM (mkU K (some "Laid") P w) P w K mg base 1 "keep" 0 f_Laid_keep := by
  exact met_isM (ps := ["self"]) (N := n_Laid_keep) (t := tabT) (b := b_Laid_keep) F ho hc hm rfl (F.bindsN fun _ _ _ _ _ _ us hl => match us, hl with | [_], _ => rfl) sc_Laid_keep M na k_Laid_keep ⟨trivial, trivial⟩
theorem is_Laid_swap {f C : Addr} {fd : FuncData} (F : L2.FunD K "swap" "Laid.swap" (L2.defArgs s_Laid_swap) (L2.defBody s_Laid_swap) (L2.defScope s_Laid_swap) [] [] f fd) (ho : (mkU K (some "Laid") P w).oc 0 = some C) (hc : L2.Cls K C) (hm : L2.Meth K C "swap" f) (d_Laid_need : MetIs (mkU K (some "Laid") P w) P w K mg base 1 "need" 1 f_Laid_need) (d_Laid_keep : MetIsM (mkU K (some "Laid") P w) P w K mg base 1 "keep" 0 f_Laid_keep) : MetIsM (mkU K (some "Laid") P w) P w K mg base 2 "swap" 2 f_Laid_swap := by
  have c_Laid_need : PcIs (mkU K (some "Laid") P w) P w K mg base 1 tabT 1 0 f_Laid_need := ⟨_, _, rfl, d_Laid_need.mono (by decide)⟩
  have p_Laid_keep : PmIs (mkU K (some "Laid") P w) P w K mg base 1 tabT 0 1 f_Laid_keep := ⟨_, _, rfl, d_Laid_keep.mono (by decide)⟩
  exact met_isM (ps := ["self", "one", "other"]) (N := n_Laid_swap) (t := tabT) (b := b_Laid_swap) F ho hc hm rfl (F.bindsN fun _ _ _ _ _ _ us hl => match us, hl with | [_, _, _], _ => rfl) sc_Laid_swap M na k_Laid_swap ⟨⟨c_Laid_need, trivial, ⟨trivial, trivial⟩⟩, ⟨⟨c_Laid_need, trivial, ⟨trivial, trivial⟩⟩, ⟨⟨p_Laid_keep, trivial⟩, ⟨trivial, trivial⟩⟩⟩⟩
theorem is_Laid_move {f C : Addr} {fd : FuncData} (F : L2.FunD K "move" "Laid.move" (L2.defArgs s_Laid_move) (L2.defBody s_Laid_move) (L2.defScope s_Laid_move) [] [] f fd) (ho : (mkU K (some "Laid") P w).oc 0 = some C) (hc : L2.Cls K C) (hm : L2.Meth K C "move" f) (d_Laid_need : MetIs (mkU K (some "Laid") P w) P w K mg base 1 "need" 1 f_Laid_need) (d_Laid_keep : MetIsM (mkU K (some "Laid") P w) P w K mg base 1 "keep" 0 f_Laid_keep) : MetIsM (mkU K (some "Laid") P w) P w K mg base 2 "move" 2 f_Laid_move := by
  have c_Laid_need : PcIs (mkU K (some "Laid") P w) P w K mg base 1 tabT 1 0 f_Laid_need := ⟨_, _, rfl, d_Laid_need.mono (by decide)⟩
  have p_Laid_keep : PmIs (mkU K (some "Laid") P w) P w K mg base 1 tabT 0 1 f_Laid_keep := ⟨_, _, rfl, d_Laid_keep.mono (by decide)⟩
  exact met_isM (ps := ["self", "one", "other"]) (N := n_Laid_move) (t := tabT) (b := b_Laid_move) F ho hc hm rfl (F.bindsN fun _ _ _ _ _ _ us hl => match us, hl with | [_, _, _], _ => rfl) sc_Laid_move M na k_Laid_move ⟨⟨c_Laid_need, trivial, ⟨trivial, trivial⟩⟩, ⟨⟨c_Laid_need, trivial, ⟨trivial, trivial⟩⟩, ⟨⟨p_Laid_keep, trivial⟩, ⟨trivial, trivial⟩⟩⟩⟩
theorem is_Laid_turn {f C : Addr} {fd : FuncData} (F : L2.FunD K "turn" "Laid.turn" (L2.defArgs s_Laid_turn) (L2.defBody s_Laid_turn) (L2.defScope s_Laid_turn) [] [] f fd) (ho : (mkU K (some "Laid") P w).oc 0 = some C) (hc : L2.Cls K C) (hm : L2.Meth K C "turn" f) (d_Laid_need : MetIs (mkU K (some "Laid") P w) P w K mg base 1 "need" 1 f_Laid_need) (d_Laid_keep : MetIsM (mkU K (some "Laid") P w) P w K mg base 1 "keep" 0 f_Laid_keep) : MetIsM (mkU K (some "Laid") P w) P w K mg base 2 "turn" 2 f_Laid_turn := by
  have c_Laid_need : PcIs (mkU K (some "Laid") P w) P w K mg base 1 tabT 1 0 f_Laid_need := ⟨_, _, rfl, d_Laid_need.mono (by decide)⟩
  have p_Laid_keep : PmIs (mkU K (some "Laid") P w) P w K mg base 1 tabT 0 1 f_Laid_keep := ⟨_, _, rfl, d_Laid_keep.mono (by decide)⟩
  exact met_isM (ps := ["self", "one", "other"]) (N := n_Laid_turn) (t := tabT) (b := b_Laid_turn) F ho hc hm rfl (F.bindsN fun _ _ _ _ _ _ us hl => match us, hl with | [_, _, _], _ => rfl) sc_Laid_turn M na k_Laid_turn ⟨⟨c_Laid_need, trivial, ⟨trivial, trivial⟩⟩, ⟨⟨c_Laid_need, trivial, ⟨trivial, trivial⟩⟩, ⟨⟨p_Laid_keep, trivial⟩, ⟨⟨⟨trivial, ⟨trivial, trivial⟩⟩, ⟨⟨trivial, ⟨trivial, trivial⟩⟩, trivial⟩⟩, ⟨trivial, trivial⟩⟩⟩⟩⟩
theorem is_Laid_back {f C : Addr} {fd : FuncData} (F : L2.FunD K "back" "Laid.back" (L2.defArgs s_Laid_back) (L2.defBody s_Laid_back) (L2.defScope s_Laid_back) [] [] f fd) (ho : (mkU K (some "Laid") P w).oc 0 = some C) (hc : L2.Cls K C) (hm : L2.Meth K C "back" f) : MetIsM (mkU K (some "Laid") P w) P w K mg base 1 "back" 0 f_Laid_back := by
  exact met_isM (ps := ["self"]) (N := n_Laid_back) (t := tabT) (b := b_Laid_back) F ho hc hm rfl (F.bindsN fun _ _ _ _ _ _ us hl => match us, hl with | [_], _ => rfl) sc_Laid_back M na k_Laid_back ⟨⟨trivial, ⟨trivial, trivial⟩, trivial⟩, ⟨trivial, ⟨trivial, trivial⟩⟩⟩
theorem is_Laid_order {f C : Addr} {fd : FuncData} (F : L2.FunD K "order" "Laid.order" (L2.defArgs s_Laid_order) (L2.defBody s_Laid_order) (L2.defScope s_Laid_order) [] [] f fd) (ho : (mkU K (some "Laid") P w).oc 0 = some C) (hc : L2.Cls K C) (hm : L2.Meth K C "order" f) : MetIsF (mkU K (some "Laid") P w) P w K mg base 1 "order" 0 f_Laid_order := by
  exact met_isF (ps := ["self"]) (N := n_Laid_order) (t := tabT) (b := b_Laid_order) F ho hc hm rfl (F.bindsN fun _ _ _ _ _ _ us hl => match us, hl with | [_], _ => rfl) sc_Laid_order M na k_Laid_order ⟨⟨trivial, trivial⟩, trivial⟩
theorem is_Laid_longest {f C : Addr} {fd : FuncData} (F : L2.FunD K "longest" "Laid.longest" (L2.defArgs s_Laid_longest) (L2.defBody s_Laid_longest) (L2.defScope s_Laid_longest) [] [] f fd) (ho : (mkU K (some "Laid") P w).oc 0 = some C) (hc : L2.Cls K C) (hm : L2.Meth K C "longest" f) (d_lengths : DefIs (mkU K (some "Laid") P w) P w K mg base 3 "lengths" 2 f_lengths) : MetIs (mkU K (some "Laid") P w) P w K mg base 4 "longest" 0 f_Laid_longest := by
  have c_lengths : PcIs (mkU K (some "Laid") P w) P w K mg base 3 tabT 0 2 f_lengths := ⟨_, _, rfl, d_lengths.mono (by decide)⟩
  exact met_is (ps := ["self"]) (N := n_Laid_longest) (t := tabT) (b := b_Laid_longest) F ho hc hm rfl (F.bindsN fun _ _ _ _ _ _ us hl => match us, hl with | [_], _ => rfl) sc_Laid_longest M na k_Laid_longest ⟨⟨⟨c_lengths, ⟨trivial, ⟨trivial, trivial⟩⟩⟩, trivial⟩, trivial⟩
theorem is_Laid_gaps {f C : Addr} {fd : FuncData} (F : L2.FunD K "gaps" "Laid.gaps" (L2.defArgs s_Laid_gaps) (L2.defBody s_Laid_gaps) (L2.defScope s_Laid_gaps) [] [] f fd) (ho : (mkU K (some "Laid") P w).oc 0 = some C) (hc : L2.Cls K C) (hm : L2.Meth K C "gaps" f) (d_gaps : DefIsF (mkU K (some "Laid") P w) P w K mg base 3 "gaps_webs" 2 f_gaps) : MetIsF (mkU K (some "Laid") P w) P w K mg base 4 "gaps" 0 f_Laid_gaps := by
  have c3_gaps : PcIs (mkU K (some "Laid") P w) P w K mg base 3 tabT 3 3 f_gaps := ⟨_, _, rfl, d_gaps.mono (by decide)⟩
  exact met_isF (ps := ["self"]) (N := n_Laid_gaps) (t := tabT) (b := b_Laid_gaps) F ho hc hm rfl (F.bindsN fun _ _ _ _ _ _ us hl => match us, hl with | [_], _ => rfl) sc_Laid_gaps M na k_Laid_gaps ⟨⟨c3_gaps, ⟨trivial, ⟨trivial, trivial⟩⟩⟩, trivial⟩
theorem is_Laid_total {f C : Addr} {fd : FuncData} (F : L2.FunD K "total" "Laid.total" (L2.defArgs s_Laid_total) (L2.defBody s_Laid_total) (L2.defScope s_Laid_total) [] [] f fd) (ho : (mkU K (some "Laid") P w).oc 0 = some C) (hc : L2.Cls K C) (hm : L2.Meth K C "total" f) (d_gaps : DefIsF (mkU K (some "Laid") P w) P w K mg base 3 "gaps_webs" 2 f_gaps) : MetIs (mkU K (some "Laid") P w) P w K mg base 4 "total" 0 f_Laid_total := by
  have c_gaps : PcIs (mkU K (some "Laid") P w) P w K mg base 3 tabT 0 3 f_gaps := ⟨_, _, rfl, d_gaps.dat.mono (by decide)⟩
  exact met_is (ps := ["self"]) (N := n_Laid_total) (t := tabT) (b := b_Laid_total) F ho hc hm rfl (F.bindsN fun _ _ _ _ _ _ us hl => match us, hl with | [_], _ => rfl) sc_Laid_total M na k_Laid_total ⟨⟨⟨c_gaps, ⟨trivial, ⟨trivial, trivial⟩⟩⟩, trivial⟩, trivial⟩
theorem is_Laid_best_swap {f C : Addr} {fd : FuncData} (F : L2.FunD K "best_swap" "Laid.best_swap" (L2.defArgs s_Laid_best_swap) (L2.defBody s_Laid_best_swap) (L2.defScope s_Laid_best_swap) [] [] f fd) (ho : (mkU K (some "Laid") P w).oc 0 = some C) (hc : L2.Cls K C) (hm : L2.Meth K C "best_swap" f) (d_gaps : DefIsF (mkU K (some "Laid") P w) P w K mg base 3 "gaps_webs" 2 f_gaps) (d_Laid_total : MetIs (mkU K (some "Laid") P w) P w K mg base 4 "total" 0 f_Laid_total) : MetIs (mkU K (some "Laid") P w) P w K mg base 5 "best_swap" 0 f_Laid_best_swap := by
  have c_gaps : PcIs (mkU K (some "Laid") P w) P w K mg base 4 tabT 0 3 f_gaps := ⟨_, _, rfl, d_gaps.dat.mono (by decide)⟩
  have c_Laid_total : PcIs (mkU K (some "Laid") P w) P w K mg base 4 tabT 1 9 f_Laid_total := ⟨_, _, rfl, d_Laid_total.mono (by decide)⟩
  exact met_is (ps := ["self"]) (N := n_Laid_best_swap) (t := tabT) (b := b_Laid_best_swap) F ho hc hm rfl (F.bindsN fun _ _ _ _ _ _ us hl => match us, hl with | [_], _ => rfl) sc_Laid_best_swap M na k_Laid_best_swap ⟨trivial, ⟨⟨⟨trivial, trivial⟩, ⟨⟨⟨⟨trivial, trivial⟩, ⟨trivial, trivial⟩⟩, ⟨⟨trivial, trivial⟩, ⟨trivial, ⟨trivial, ⟨⟨⟨⟨c_gaps, ⟨trivial, ⟨trivial, trivial⟩⟩⟩, trivial⟩, ⟨trivial, ⟨trivial, trivial⟩⟩⟩, ⟨⟨⟨⟨trivial, trivial⟩, ⟨⟨trivial, trivial⟩, trivial⟩⟩, trivial, trivial⟩, trivial⟩⟩⟩⟩⟩⟩, trivial⟩⟩, ⟨⟨⟨⟨trivial, trivial⟩, ⟨⟨⟨trivial, trivial⟩, ⟨c_Laid_total, trivial, trivial⟩⟩, trivial⟩⟩, ⟨trivial, trivial, trivial⟩, trivial⟩, trivial⟩⟩⟩
theorem is_law_cell {f : Addr} {fd : FuncData} (F : L2.FunD K "_law_cell" "_law_cell" (L2.defArgs s_law_cell) (L2.defBody s_law_cell) (L2.defScope s_law_cell) [] [] f fd) (hm : mg "_law_cell" = some (.ref f)) : DefIs (mkU K (some "Laid") P w) P w K mg base 1 "_law_cell" 2 f_law_cell := by
  exact def_is (ps := ["_law_script", "_law_k"]) (N := n_law_cell) (t := tabT) (b := b_law_cell) F hm (F.bindsN fun _ _ _ _ _ _ us hl => match us, hl with | [_, _], _ => rfl) sc_law_cell M na k_law_cell ⟨⟨trivial, ⟨⟨trivial, ⟨trivial, ⟨trivial, trivial⟩⟩⟩, trivial⟩, trivial⟩, ⟨trivial, trivial⟩⟩
theorem is_law_mix {f : Addr} {fd : FuncData} (F : L2.FunD K "_law_mix" "_law_mix" (L2.defArgs s_law_mix) (L2.defBody s_law_mix) (L2.defScope s_law_mix) [] [] f fd) (hm : mg "_law_mix" = some (.ref f)) (d_law_cell : DefIs (mkU K (some "Laid") P w) P w K mg base 1 "_law_cell" 2 f_law_cell) : DefIs (mkU K (some "Laid") P w) P w K mg base 2 "_law_mix" 2 f_law_mix := by
  have c_law_cell : PcIs (mkU K (some "Laid") P w) P w K mg base 1 tabT 0 4 f_law_cell := ⟨_, _, rfl, d_law_cell.mono (by decide)⟩
  exact def_is (ps := ["_law_script", "_law_k"]) (N := n_law_mix) (t := tabT) (b := b_law_mix) F hm (F.bindsN fun _ _ _ _ _ _ us hl => match us, hl with | [_, _], _ => rfl) sc_law_mix M na k_law_mix ⟨⟨⟨⟨c_law_cell, ⟨trivial, ⟨trivial, trivial⟩⟩⟩, ⟨trivial, ⟨trivial, trivial⟩⟩⟩, trivial⟩, ⟨⟨⟨trivial, trivial⟩, trivial⟩, ⟨⟨⟨⟨⟨trivial, trivial⟩, trivial⟩, trivial⟩, trivial⟩, trivial⟩⟩⟩
theorem is_law_whole {f : Addr} {fd : FuncData} (F : L2.FunD K "_law_whole" "_law_whole" (L2.defArgs s_law_whole) (L2.defBody s_law_whole) (L2.defScope s_law_whole) [] [] f fd) (hm : mg "_law_whole" = some (.ref f)) : DefIs (mkU K (some "Laid") P w) P w K mg base 1 "_law_whole" 1 f_law_whole := by
  exact def_is (ps := ["_law_found"]) (N := n_law_whole) (t := tabT) (b := b_law_whole) F hm (F.bindsN fun _ _ _ _ _ _ us hl => match us, hl with | [_], _ => rfl) sc_law_whole M na k_law_whole ⟨⟨trivial, ⟨trivial, trivial⟩⟩, trivial⟩
theorem is_law_web {f : Addr} {fd : FuncData} (F : L2.FunD K "_law_web" "_law_web" (L2.defArgs s_law_web) (L2.defBody s_law_web) (L2.defScope s_law_web) [] [] f fd) (hm : mg "_law_web" = some (.ref f)) (d_law_mix : DefIs (mkU K (some "Laid") P w) P w K mg base 2 "_law_mix" 2 f_law_mix) : DefIs (mkU K (some "Laid") P w) P w K mg base 3 "_law_web" 3 f_law_web := by
  have c_law_mix : PcIs (mkU K (some "Laid") P w) P w K mg base 2 tabT 0 5 f_law_mix := ⟨_, _, rfl, d_law_mix.mono (by decide)⟩
  exact def_is (ps := ["_law_script", "_law_k", "_law_places"]) (N := n_law_web) (t := tabT) (b := b_law_web) F hm (F.bindsN fun _ _ _ _ _ _ us hl => match us, hl with | [_, _, _], _ => rfl) sc_law_web M na k_law_web ⟨⟨⟨c_law_mix, ⟨trivial, ⟨trivial, trivial⟩⟩⟩, ⟨trivial, trivial⟩⟩, ⟨⟨trivial, ⟨⟨c_law_mix, ⟨trivial, ⟨⟨trivial, trivial⟩, trivial⟩⟩⟩, trivial⟩⟩, ⟨trivial, ⟨⟨trivial, ⟨⟨⟨⟨trivial, trivial⟩, trivial⟩, ⟨⟨c_law_mix, ⟨trivial, ⟨⟨⟨⟨trivial, trivial⟩, ⟨trivial, trivial⟩⟩, trivial⟩, trivial⟩⟩⟩, ⟨⟨⟨⟨⟨trivial, trivial⟩, trivial⟩, trivial⟩, ⟨⟨trivial, ⟨trivial, ⟨⟨⟨trivial, ⟨trivial, ⟨trivial, ⟨trivial, ⟨trivial, ⟨trivial, trivial⟩⟩⟩⟩⟩⟩, ⟨⟨trivial, trivial⟩, trivial⟩⟩, trivial⟩⟩⟩, trivial⟩, trivial⟩, trivial⟩⟩⟩, trivial⟩⟩, ⟨⟨trivial, ⟨trivial, trivial⟩⟩, trivial⟩⟩⟩⟩⟩
theorem is_law_order {f : Addr} {fd : FuncData} (F : L2.FunD K "_law_order" "_law_order" (L2.defArgs s_law_order) (L2.defBody s_law_order) (L2.defScope s_law_order) [] [] f fd) (hm : mg "_law_order" = some (.ref f)) (d_law_mix : DefIs (mkU K (some "Laid") P w) P w K mg base 2 "_law_mix" 2 f_law_mix) : DefIs (mkU K (some "Laid") P w) P w K mg base 3 "_law_order" 3 f_law_order := by
  have c_law_mix : PcIs (mkU K (some "Laid") P w) P w K mg base 2 tabT 0 5 f_law_mix := ⟨_, _, rfl, d_law_mix.mono (by decide)⟩
  exact def_is (ps := ["_law_script", "_law_k", "_law_many"]) (N := n_law_order) (t := tabT) (b := b_law_order) F hm (F.bindsN fun _ _ _ _ _ _ us hl => match us, hl with | [_, _, _], _ => rfl) sc_law_order M na k_law_order ⟨trivial, ⟨trivial, ⟨⟨trivial, ⟨⟨⟨c_law_mix, ⟨trivial, ⟨⟨trivial, ⟨trivial, trivial⟩⟩, trivial⟩⟩⟩, ⟨trivial, trivial⟩⟩, trivial⟩⟩, ⟨trivial, trivial⟩⟩⟩⟩
theorem is_law_lengths {f : Addr} {fd : FuncData} (F : L2.FunD K "_law_lengths" "_law_lengths" (L2.defArgs s_law_lengths) (L2.defBody s_law_lengths) (L2.defScope s_law_lengths) [] [] f fd) (hm : mg "_law_lengths" = some (.ref f)) : DefIs (mkU K (some "Laid") P w) P w K mg base 1 "_law_lengths" 2 f_law_lengths := by
  exact def_is (ps := ["_law_web_here", "_law_order_here"]) (N := n_law_lengths) (t := tabT) (b := b_law_lengths) F hm (F.bindsN fun _ _ _ _ _ _ us hl => match us, hl with | [_, _], _ => rfl) sc_law_lengths M na k_law_lengths ⟨⟨⟨trivial, trivial⟩, trivial, ⟨⟨⟨trivial, ⟨trivial, trivial⟩⟩, ⟨trivial, ⟨trivial, trivial⟩⟩⟩, trivial⟩⟩, trivial⟩
theorem is_law_gaps {f : Addr} {fd : FuncData} (F : L2.FunD K "_law_gaps" "_law_gaps" (L2.defArgs s_law_gaps) (L2.defBody s_law_gaps) (L2.defScope s_law_gaps) [] [] f fd) (hm : mg "_law_gaps" = some (.ref f)) : DefIs (mkU K (some "Laid") P w) P w K mg base 1 "_law_gaps" 2 f_law_gaps := by
  exact def_is (ps := ["_law_web_here", "_law_order_here"]) (N := n_law_gaps) (t := tabT) (b := b_law_gaps) F hm (F.bindsN fun _ _ _ _ _ _ us hl => match us, hl with | [_, _], _ => rfl) sc_law_gaps M na k_law_gaps ⟨trivial, ⟨⟨⟨⟨trivial, trivial⟩, trivial⟩, ⟨trivial, ⟨⟨⟨trivial, trivial⟩, ⟨⟨⟨⟨trivial, ⟨trivial, trivial⟩⟩, ⟨⟨trivial, ⟨trivial, trivial⟩⟩, trivial⟩⟩, trivial⟩, ⟨⟨trivial, ⟨trivial, ⟨⟨⟨trivial, trivial⟩, trivial, ⟨trivial, trivial⟩⟩, trivial⟩⟩⟩, trivial⟩⟩⟩, ⟨trivial, trivial⟩⟩⟩⟩, ⟨trivial, trivial⟩⟩⟩
theorem is_law_measured {f : Addr} {fd : FuncData} (F : L2.FunD K "_law_measured" "_law_measured" (L2.defArgs s_law_measured) (L2.defBody s_law_measured) (L2.defScope s_law_measured) [] [] f fd) (hm : mg "_law_measured" = some (.ref f)) (d_law_lengths : DefIs (mkU K (some "Laid") P w) P w K mg base 1 "_law_lengths" 2 f_law_lengths) (d_law_gaps : DefIs (mkU K (some "Laid") P w) P w K mg base 1 "_law_gaps" 2 f_law_gaps) : DefIs (mkU K (some "Laid") P w) P w K mg base 2 "_law_measured" 3 f_law_measured := by
  have c_law_lengths : PcIs (mkU K (some "Laid") P w) P w K mg base 1 tabT 0 9 f_law_lengths := ⟨_, _, rfl, d_law_lengths.mono (by decide)⟩
  have c_law_gaps : PcIs (mkU K (some "Laid") P w) P w K mg base 1 tabT 0 10 f_law_gaps := ⟨_, _, rfl, d_law_gaps.mono (by decide)⟩
  exact def_is (ps := ["_law_web_here", "_law_kind", "_law_order_here"]) (N := n_law_measured) (t := tabT) (b := b_law_measured) F hm (F.bindsN fun _ _ _ _ _ _ us hl => match us, hl with | [_, _, _], _ => rfl) sc_law_measured M na k_law_measured ⟨⟨⟨trivial, trivial⟩, ⟨⟨⟨⟨trivial, trivial⟩, ⟨c_law_lengths, ⟨trivial, ⟨trivial, trivial⟩⟩⟩⟩, trivial⟩, trivial⟩, trivial⟩, ⟨⟨c_law_gaps, ⟨trivial, ⟨trivial, trivial⟩⟩⟩, ⟨⟨⟨trivial, trivial⟩, ⟨⟨⟨trivial, trivial⟩, trivial⟩, trivial⟩, ⟨trivial, trivial⟩⟩, trivial⟩⟩⟩
theorem is_law_refusal {f : Addr} {fd : FuncData} (F : L2.FunD K "_law_refusal" "_law_refusal" (L2.defArgs s_law_refusal) (L2.defBody s_law_refusal) (L2.defScope s_law_refusal) [] [] f fd) (hm : mg "_law_refusal" = some (.ref f)) : DefIs (mkU K (some "Laid") P w) P w K mg base 1 "_law_refusal" 1 f_law_refusal := by
  exact def_is (ps := ["_law_kept"]) (N := n_law_refusal) (t := tabT) (b := b_law_refusal) F hm (F.bindsN fun _ _ _ _ _ _ us hl => match us, hl with | [_], _ => rfl) sc_law_refusal M na k_law_refusal ⟨⟨⟨trivial, trivial⟩, ⟨trivial, trivial⟩, trivial⟩, ⟨⟨trivial, ⟨trivial, ⟨trivial, trivial⟩⟩⟩, ⟨⟨trivial, ⟨trivial, ⟨trivial, trivial⟩⟩⟩, ⟨⟨⟨⟨⟨trivial, ⟨trivial, trivial⟩⟩, trivial⟩, ⟨trivial, trivial⟩⟩, ⟨trivial, trivial⟩, trivial⟩, ⟨⟨⟨trivial, ⟨trivial, ⟨trivial, ⟨trivial, ⟨trivial, trivial⟩⟩⟩⟩⟩, ⟨trivial, ⟨trivial, trivial⟩⟩⟩, trivial⟩⟩⟩⟩⟩
theorem is_law_done {f : Addr} {fd : FuncData} (F : L2.FunD K "_law_done" "_law_done" (L2.defArgs s_law_done) (L2.defBody s_law_done) (L2.defScope s_law_done) [] [] f fd) (hm : mg "_law_done" = some (.ref f)) (d_Laid_swap : MetIsM (mkU K (some "Laid") P w) P w K mg base 2 "swap" 2 f_Laid_swap) (d_Laid_move : MetIsM (mkU K (some "Laid") P w) P w K mg base 2 "move" 2 f_Laid_move) (d_Laid_turn : MetIsM (mkU K (some "Laid") P w) P w K mg base 2 "turn" 2 f_Laid_turn) (d_law_refusal : DefIs (mkU K (some "Laid") P w) P w K mg base 1 "_law_refusal" 1 f_law_refusal) : DefIsM (mkU K (some "Laid") P w) P w K mg base 3 "_law_done" 3 f_law_done := by
  have p_Laid_swap : PmIs (mkU K (some "Laid") P w) P w K mg base 2 tabT 0 2 f_Laid_swap := ⟨_, _, rfl, d_Laid_swap.mono (by decide)⟩
  have p_Laid_move : PmIs (mkU K (some "Laid") P w) P w K mg base 2 tabT 0 3 f_Laid_move := ⟨_, _, rfl, d_Laid_move.mono (by decide)⟩
  have p_Laid_turn : PmIs (mkU K (some "Laid") P w) P w K mg base 2 tabT 0 4 f_Laid_turn := ⟨_, _, rfl, d_Laid_turn.mono (by decide)⟩
  have c_law_refusal : PcIs (mkU K (some "Laid") P w) P w K mg base 2 tabT 0 12 f_law_refusal := ⟨_, _, rfl, d_law_refusal.mono (by decide)⟩
  exact def_isM (ps := ["_law_laid", "_law_word", "_law_one", "_law_other"]) (N := n_law_done) (t := tabT) (b := b_law_done) F hm rfl (F.bindsN fun _ _ _ _ _ _ us hl => match us, hl with | [_, _, _, _], _ => rfl) sc_law_done M na k_law_done ⟨trivial, ⟨⟨⟨⟨trivial, trivial⟩, ⟨⟨p_Laid_swap, ⟨trivial, ⟨trivial, trivial⟩⟩⟩, trivial⟩, ⟨⟨⟨trivial, trivial⟩, ⟨⟨p_Laid_move, ⟨trivial, ⟨trivial, trivial⟩⟩⟩, trivial⟩, ⟨⟨p_Laid_turn, ⟨trivial, ⟨trivial, trivial⟩⟩⟩, trivial⟩⟩, trivial⟩⟩, trivial⟩, ⟨⟨c_law_refusal, ⟨trivial, trivial⟩⟩, trivial⟩⟩⟩
theorem is_law_made {f : Addr} {fd : FuncData} (F : L2.FunD K "_law_made" "_law_made" (L2.defArgs s_law_made) (L2.defBody s_law_made) (L2.defScope s_law_made) [] [] f fd) (hm : mg "_law_made" = some (.ref f)) (d_Laid : MakIs (mkU K (some "Laid") P w) P w K mg base 4 "Laid" 2 f_Laid) (d_law_refusal : DefIs (mkU K (some "Laid") P w) P w K mg base 1 "_law_refusal" 1 f_law_refusal) : DefIs (mkU K (some "Laid") P w) P w K mg base 5 "_law_made" 2 f_law_made := by
  have c_Laid : PcIs (mkU K (some "Laid") P w) P w K mg base 4 tabT 2 0 f_Laid := ⟨_, _, rfl, d_Laid.mono (by decide)⟩
  have c_law_refusal : PcIs (mkU K (some "Laid") P w) P w K mg base 4 tabT 0 12 f_law_refusal := ⟨_, _, rfl, d_law_refusal.mono (by decide)⟩
  exact def_is (ps := ["_law_web_here", "_law_order_here"]) (N := n_law_made) (t := tabT) (b := b_law_made) F hm (F.bindsN fun _ _ _ _ _ _ us hl => match us, hl with | [_, _], _ => rfl) sc_law_made M na k_law_made ⟨trivial, ⟨⟨⟨c_Laid, ⟨trivial, ⟨trivial, trivial⟩⟩⟩, trivial⟩, ⟨⟨c_law_refusal, ⟨trivial, trivial⟩⟩, trivial⟩⟩⟩
theorem is_law_deed {f : Addr} {fd : FuncData} (F : L2.FunD K "_law_deed" "_law_deed" (L2.defArgs s_law_deed) (L2.defBody s_law_deed) (L2.defScope s_law_deed) [] [] f fd) (hm : mg "_law_deed" = some (.ref f)) : DefIs (mkU K (some "Laid") P w) P w K mg base 1 "_law_deed" 4 f_law_deed := by
  exact def_is (ps := ["_law_row", "_law_word", "_law_one", "_law_other"]) (N := n_law_deed) (t := tabT) (b := b_law_deed) F hm (F.bindsN fun _ _ _ _ _ _ us hl => match us, hl with | [_, _, _, _], _ => rfl) sc_law_deed M na k_law_deed ⟨⟨trivial, trivial⟩, ⟨⟨⟨trivial, trivial⟩, ⟨⟨trivial, ⟨trivial, trivial⟩⟩, ⟨⟨trivial, ⟨trivial, trivial⟩⟩, ⟨trivial, trivial⟩⟩⟩, trivial⟩, ⟨⟨⟨trivial, trivial⟩, ⟨⟨⟨trivial, trivial, trivial⟩, ⟨trivial, ⟨trivial, trivial⟩, trivial⟩⟩, ⟨⟨⟨⟨trivial, trivial, trivial⟩, ⟨⟨trivial, trivial⟩, trivial⟩⟩, ⟨trivial, trivial, trivial⟩⟩, trivial⟩⟩, trivial⟩, ⟨⟨trivial, ⟨trivial, trivial⟩⟩, ⟨⟨trivial, ⟨trivial, trivial⟩⟩, ⟨⟨⟨⟨trivial, trivial, trivial⟩, ⟨trivial, trivial, ⟨trivial, trivial⟩⟩⟩, ⟨trivial, ⟨trivial, trivial⟩, trivial⟩⟩, trivial⟩⟩⟩⟩⟩⟩
theorem is_law_best {f : Addr} {fd : FuncData} (F : L2.FunD K "_law_best" "_law_best" (L2.defArgs s_law_best) (L2.defBody s_law_best) (L2.defScope s_law_best) [] [] f fd) (hm : mg "_law_best" = some (.ref f)) (d_law_measured : DefIs (mkU K (some "Laid") P w) P w K mg base 2 "_law_measured" 3 f_law_measured) (d_law_deed : DefIs (mkU K (some "Laid") P w) P w K mg base 1 "_law_deed" 4 f_law_deed) : DefIs (mkU K (some "Laid") P w) P w K mg base 3 "_law_best" 2 f_law_best := by
  have c_law_measured : PcIs (mkU K (some "Laid") P w) P w K mg base 2 tabT 0 11 f_law_measured := ⟨_, _, rfl, d_law_measured.mono (by decide)⟩
  have c_law_deed : PcIs (mkU K (some "Laid") P w) P w K mg base 2 tabT 0 15 f_law_deed := ⟨_, _, rfl, d_law_deed.mono (by decide)⟩
  exact def_is (ps := ["_law_web_here", "_law_row"]) (N := n_law_best) (t := tabT) (b := b_law_best) F hm (F.bindsN fun _ _ _ _ _ _ us hl => match us, hl with | [_, _], _ => rfl) sc_law_best M na k_law_best ⟨⟨c_law_measured, ⟨trivial, ⟨trivial, ⟨trivial, trivial⟩⟩⟩⟩, ⟨trivial, ⟨⟨⟨trivial, trivial⟩, ⟨⟨⟨⟨trivial, trivial⟩, ⟨trivial, trivial⟩⟩, ⟨⟨c_law_measured, ⟨trivial, ⟨trivial, ⟨⟨c_law_deed, ⟨trivial, ⟨trivial, ⟨trivial, ⟨trivial, trivial⟩⟩⟩⟩⟩, trivial⟩⟩⟩⟩, ⟨⟨⟨⟨trivial, trivial⟩, ⟨⟨⟨trivial, trivial⟩, ⟨⟨trivial, ⟨trivial, trivial⟩⟩, trivial⟩⟩, trivial⟩⟩, ⟨⟨trivial, ⟨trivial, ⟨trivial, trivial⟩⟩⟩, trivial⟩, trivial⟩, trivial⟩⟩⟩, trivial⟩⟩, ⟨⟨⟨trivial, trivial⟩, trivial, ⟨trivial, trivial, trivial⟩⟩, trivial⟩⟩⟩⟩
theorem is_law_same {f : Addr} {fd : FuncData} (F : L2.FunD K "_law_same" "_law_same" (L2.defArgs s_law_same) (L2.defBody s_law_same) (L2.defScope s_law_same) [] [] f fd) (hm : mg "_law_same" = some (.ref f)) (d_Laid_order : MetIsF (mkU K (some "Laid") P w) P w K mg base 1 "order" 0 f_Laid_order) (d_Laid_gaps : MetIsF (mkU K (some "Laid") P w) P w K mg base 4 "gaps" 0 f_Laid_gaps) (d_law_gaps : DefIs (mkU K (some "Laid") P w) P w K mg base 1 "_law_gaps" 2 f_law_gaps) (d_Laid_best_swap : MetIs (mkU K (some "Laid") P w) P w K mg base 5 "best_swap" 0 f_Laid_best_swap) (d_law_best : DefIs (mkU K (some "Laid") P w) P w K mg base 3 "_law_best" 2 f_law_best) (d_Laid_longest : MetIs (mkU K (some "Laid") P w) P w K mg base 4 "longest" 0 f_Laid_longest) (d_law_measured : DefIs (mkU K (some "Laid") P w) P w K mg base 2 "_law_measured" 3 f_law_measured) (d_law_whole : DefIs (mkU K (some "Laid") P w) P w K mg base 1 "_law_whole" 1 f_law_whole) (d_Laid_total : MetIs (mkU K (some "Laid") P w) P w K mg base 4 "total" 0 f_Laid_total) : DefIs (mkU K (some "Laid") P w) P w K mg base 6 "_law_same" 3 f_law_same := by
  have c_Laid_order : PcIs (mkU K (some "Laid") P w) P w K mg base 5 tabT 1 6 f_Laid_order := ⟨_, _, rfl, d_Laid_order.dat.mono (by decide)⟩
  have c_Laid_gaps : PcIs (mkU K (some "Laid") P w) P w K mg base 5 tabT 1 8 f_Laid_gaps := ⟨_, _, rfl, d_Laid_gaps.dat.mono (by decide)⟩
  have c_law_gaps : PcIs (mkU K (some "Laid") P w) P w K mg base 5 tabT 0 10 f_law_gaps := ⟨_, _, rfl, d_law_gaps.mono (by decide)⟩
  have c_Laid_best_swap : PcIs (mkU K (some "Laid") P w) P w K mg base 5 tabT 1 10 f_Laid_best_swap := ⟨_, _, rfl, d_Laid_best_swap.mono (by decide)⟩
  have c_law_best : PcIs (mkU K (some "Laid") P w) P w K mg base 5 tabT 0 16 f_law_best := ⟨_, _, rfl, d_law_best.mono (by decide)⟩
  have c4_Laid_order : PcIs (mkU K (some "Laid") P w) P w K mg base 5 tabT 4 6 f_Laid_order := ⟨_, _, rfl, d_Laid_order.mono (by decide)⟩
  have c4_Laid_gaps : PcIs (mkU K (some "Laid") P w) P w K mg base 5 tabT 4 8 f_Laid_gaps := ⟨_, _, rfl, d_Laid_gaps.mono (by decide)⟩
  have c_Laid_longest : PcIs (mkU K (some "Laid") P w) P w K mg base 5 tabT 1 7 f_Laid_longest := ⟨_, _, rfl, d_Laid_longest.mono (by decide)⟩
  have c_law_measured : PcIs (mkU K (some "Laid") P w) P w K mg base 5 tabT 0 11 f_law_measured := ⟨_, _, rfl, d_law_measured.mono (by decide)⟩
  have c_law_whole : PcIs (mkU K (some "Laid") P w) P w K mg base 5 tabT 0 6 f_law_whole := ⟨_, _, rfl, d_law_whole.mono (by decide)⟩
  have c_Laid_total : PcIs (mkU K (some "Laid") P w) P w K mg base 5 tabT 1 9 f_Laid_total := ⟨_, _, rfl, d_Laid_total.mono (by decide)⟩
  exact def_is (ps := ["_law_laid", "_law_web_here", "_law_row"]) (N := n_law_same) (t := tabT) (b := b_law_same) F hm (F.bindsN fun _ _ _ _ _ _ us hl => match us, hl with | [_, _, _], _ => rfl) sc_law_same M na k_law_same ⟨⟨⟨⟨⟨c_Laid_order, trivial, trivial⟩, trivial⟩, ⟨⟨⟨c_Laid_gaps, trivial, trivial⟩, ⟨c_law_gaps, ⟨trivial, ⟨trivial, trivial⟩⟩⟩⟩, ⟨⟨⟨c_Laid_best_swap, trivial, trivial⟩, ⟨c_law_best, ⟨trivial, ⟨trivial, trivial⟩⟩⟩⟩, trivial⟩⟩⟩, ⟨trivial, trivial⟩, trivial⟩, ⟨⟨c4_Laid_order, trivial, trivial⟩, ⟨⟨c4_Laid_gaps, trivial, trivial⟩, ⟨⟨⟨⟨⟨c_Laid_longest, trivial, trivial⟩, ⟨c_law_measured, ⟨trivial, ⟨trivial, ⟨trivial, trivial⟩⟩⟩⟩⟩, ⟨⟨c_law_whole, ⟨⟨c_Laid_total, trivial, trivial⟩, trivial⟩⟩, trivial⟩⟩, ⟨trivial, trivial⟩, trivial⟩, ⟨⟨⟨c_Laid_total, trivial, trivial⟩, ⟨c_law_measured, ⟨trivial, ⟨trivial, ⟨trivial, trivial⟩⟩⟩⟩⟩, trivial⟩⟩⟩⟩⟩
theorem is_law {f : Addr} {fd : FuncData} (F : L2.FunD K "law" "law" (L2.defArgs s_law) (L2.defBody s_law) (L2.defScope s_law) [] [] f fd) (hm : mg "law" = some (.ref f)) (d_law_web : DefIs (mkU K (some "Laid") P w) P w K mg base 3 "_law_web" 3 f_law_web) (d_law_order : DefIs (mkU K (some "Laid") P w) P w K mg base 3 "_law_order" 3 f_law_order) (dJ_Laid : MakIsJ (mkU K (some "Laid") P w) P w K mg base 4 "Laid" f_LaidJ) (d_law_mix : DefIs (mkU K (some "Laid") P w) P w K mg base 2 "_law_mix" 2 f_law_mix) (d_Laid_back : MetIsM (mkU K (some "Laid") P w) P w K mg base 1 "back" 0 f_Laid_back) (d_law_done : DefIsM (mkU K (some "Laid") P w) P w K mg base 3 "_law_done" 3 f_law_done) (d_law_deed : DefIs (mkU K (some "Laid") P w) P w K mg base 1 "_law_deed" 4 f_law_deed) (d_law_same : DefIs (mkU K (some "Laid") P w) P w K mg base 6 "_law_same" 3 f_law_same) (d_law_made : DefIs (mkU K (some "Laid") P w) P w K mg base 5 "_law_made" 2 f_law_made) : DefIs (mkU K (some "Laid") P w) P w K mg base 7 "law" 1 f_law := by
  have c_law_web : PcIs (mkU K (some "Laid") P w) P w K mg base 6 tabT 0 7 f_law_web := ⟨_, _, rfl, d_law_web.mono (by decide)⟩
  have c_law_order : PcIs (mkU K (some "Laid") P w) P w K mg base 6 tabT 0 8 f_law_order := ⟨_, _, rfl, d_law_order.mono (by decide)⟩
  have p_Laid : PmIs (mkU K (some "Laid") P w) P w K mg base 6 tabT 2 0 f_LaidJ := ⟨_, rfl, dJ_Laid.mono (by decide)⟩
  have c_law_mix : PcIs (mkU K (some "Laid") P w) P w K mg base 6 tabT 0 5 f_law_mix := ⟨_, _, rfl, d_law_mix.mono (by decide)⟩
  have p_Laid_back : PmIs (mkU K (some "Laid") P w) P w K mg base 6 tabT 0 5 f_Laid_back := ⟨_, _, rfl, d_Laid_back.mono (by decide)⟩
  have p_law_done : PmIs (mkU K (some "Laid") P w) P w K mg base 6 tabT 1 13 f_law_done := ⟨_, _, rfl, d_law_done.mono (by decide)⟩
  have c_law_deed : PcIs (mkU K (some "Laid") P w) P w K mg base 6 tabT 0 15 f_law_deed := ⟨_, _, rfl, d_law_deed.mono (by decide)⟩
  have c_law_same : PcIs (mkU K (some "Laid") P w) P w K mg base 6 tabT 0 17 f_law_same := ⟨_, _, rfl, d_law_same.mono (by decide)⟩
  have c_law_made : PcIs (mkU K (some "Laid") P w) P w K mg base 6 tabT 0 14 f_law_made := ⟨_, _, rfl, d_law_made.mono (by decide)⟩
  exact def_is (ps := ["_law_script"]) (N := n_law) (t := tabT) (b := b_law) F hm (F.bindsN fun _ _ _ _ _ _ us hl => match us, hl with | [_], _ => rfl) sc_law M na k_law ⟨⟨c_law_web, ⟨trivial, ⟨trivial, ⟨trivial, trivial⟩⟩⟩⟩, ⟨⟨c_law_order, ⟨trivial, ⟨trivial, ⟨⟨trivial, trivial⟩, trivial⟩⟩⟩⟩, ⟨trivial, ⟨p_Laid, ⟨p_Laid, ⟨⟨trivial, ⟨trivial, ⟨trivial, trivial⟩⟩⟩, ⟨trivial, ⟨⟨trivial, trivial⟩, ⟨⟨⟨⟨c_law_mix, ⟨trivial, ⟨trivial, trivial⟩⟩⟩, trivial⟩, ⟨⟨c_law_mix, ⟨trivial, ⟨⟨trivial, trivial⟩, trivial⟩⟩⟩, ⟨⟨⟨⟨trivial, trivial⟩, trivial⟩, ⟨⟨⟨trivial, trivial⟩, ⟨⟨trivial, trivial⟩, trivial⟩⟩, trivial⟩, ⟨⟨trivial, trivial⟩, ⟨trivial, ⟨⟨trivial, trivial⟩, trivial⟩⟩⟩⟩, ⟨⟨⟨trivial, trivial⟩, ⟨trivial, ⟨⟨trivial, trivial⟩, trivial⟩⟩⟩, ⟨⟨⟨⟨⟨trivial, trivial⟩, trivial⟩, trivial⟩, ⟨⟨p_Laid_back, trivial, ⟨⟨trivial, trivial⟩, trivial⟩, ⟨trivial, trivial⟩, trivial⟩, ⟨trivial, ⟨⟨trivial, trivial, ⟨trivial, ⟨⟨⟨trivial, trivial⟩, trivial⟩, trivial⟩⟩⟩, trivial⟩⟩⟩, ⟨⟨⟨trivial, trivial, ⟨trivial, trivial⟩⟩, ⟨⟨trivial, ⟨trivial, trivial⟩⟩, trivial⟩⟩, ⟨⟨⟨trivial, trivial⟩, trivial⟩, ⟨⟨⟨⟨trivial, ⟨trivial, trivial⟩⟩, ⟨⟨trivial, ⟨trivial, trivial⟩⟩, trivial⟩⟩, ⟨⟨trivial, trivial⟩, trivial⟩⟩, ⟨⟨p_law_done, ⟨trivial, ⟨trivial, ⟨trivial, trivial⟩⟩⟩, ⟨⟨trivial, ⟨trivial, trivial⟩⟩, ⟨trivial, trivial⟩⟩, ⟨trivial, trivial⟩, trivial⟩, ⟨⟨trivial, ⟨⟨c_law_deed, ⟨⟨trivial, trivial⟩, ⟨trivial, ⟨trivial, ⟨trivial, trivial⟩⟩⟩⟩⟩, trivial⟩, trivial⟩, trivial⟩⟩⟩⟩⟩⟩, ⟨⟨⟨c_law_same, ⟨trivial, ⟨trivial, ⟨⟨trivial, trivial⟩, trivial⟩⟩⟩⟩, ⟨trivial, trivial⟩, trivial⟩, trivial⟩⟩⟩⟩⟩⟩, ⟨⟨⟨⟨⟨c_law_made, ⟨⟨trivial, ⟨trivial, trivial⟩⟩, ⟨trivial, trivial⟩⟩⟩, trivial⟩, ⟨⟨⟨c_law_made, ⟨trivial, ⟨⟨trivial, ⟨trivial, trivial⟩⟩, trivial⟩⟩⟩, trivial⟩, trivial⟩⟩, ⟨trivial, trivial⟩, trivial⟩, ⟨⟨c_law_same, ⟨trivial, ⟨trivial, ⟨trivial, trivial⟩⟩⟩⟩, trivial⟩⟩⟩⟩⟩⟩⟩⟩⟩⟩⟩
theorem ok_law {f : Addr} {fd : FuncData} (F : L2.FunD K "law" "law" (L2.defArgs s_law) (L2.defBody s_law) (L2.defScope s_law) [] [] f fd) (d_law_web : DefIs (mkU K (some "Laid") P w) P w K mg base 3 "_law_web" 3 f_law_web) (d_law_order : DefIs (mkU K (some "Laid") P w) P w K mg base 3 "_law_order" 3 f_law_order) (dJ_Laid : MakIsJ (mkU K (some "Laid") P w) P w K mg base 4 "Laid" f_LaidJ) (d_law_mix : DefIs (mkU K (some "Laid") P w) P w K mg base 2 "_law_mix" 2 f_law_mix) (d_Laid_back : MetIsM (mkU K (some "Laid") P w) P w K mg base 1 "back" 0 f_Laid_back) (d_law_done : DefIsM (mkU K (some "Laid") P w) P w K mg base 3 "_law_done" 3 f_law_done) (d_law_deed : DefIs (mkU K (some "Laid") P w) P w K mg base 1 "_law_deed" 4 f_law_deed) (d_law_same : DefIs (mkU K (some "Laid") P w) P w K mg base 6 "_law_same" 3 f_law_same) (d_law_made : DefIs (mkU K (some "Laid") P w) P w K mg base 5 "_law_made" 2 f_law_made) : L2.FnOk P w K mg base (L2.CX P w) 7 f fd ["_law_script"] (spD (mkU K (some "Laid") P w) K 1 f_law) := by
  have c_law_web : PcIs (mkU K (some "Laid") P w) P w K mg base 6 tabT 0 7 f_law_web := ⟨_, _, rfl, d_law_web.mono (by decide)⟩
  have c_law_order : PcIs (mkU K (some "Laid") P w) P w K mg base 6 tabT 0 8 f_law_order := ⟨_, _, rfl, d_law_order.mono (by decide)⟩
  have p_Laid : PmIs (mkU K (some "Laid") P w) P w K mg base 6 tabT 2 0 f_LaidJ := ⟨_, rfl, dJ_Laid.mono (by decide)⟩
  have c_law_mix : PcIs (mkU K (some "Laid") P w) P w K mg base 6 tabT 0 5 f_law_mix := ⟨_, _, rfl, d_law_mix.mono (by decide)⟩
  have p_Laid_back : PmIs (mkU K (some "Laid") P w) P w K mg base 6 tabT 0 5 f_Laid_back := ⟨_, _, rfl, d_Laid_back.mono (by decide)⟩
  have p_law_done : PmIs (mkU K (some "Laid") P w) P w K mg base 6 tabT 1 13 f_law_done := ⟨_, _, rfl, d_law_done.mono (by decide)⟩
  have c_law_deed : PcIs (mkU K (some "Laid") P w) P w K mg base 6 tabT 0 15 f_law_deed := ⟨_, _, rfl, d_law_deed.mono (by decide)⟩
  have c_law_same : PcIs (mkU K (some "Laid") P w) P w K mg base 6 tabT 0 17 f_law_same := ⟨_, _, rfl, d_law_same.mono (by decide)⟩
  have c_law_made : PcIs (mkU K (some "Laid") P w) P w K mg base 6 tabT 0 14 f_law_made := ⟨_, _, rfl, d_law_made.mono (by decide)⟩
  exact def_ok (ps := ["_law_script"]) (N := n_law) (t := tabT) (b := b_law) F sc_law M na k_law ⟨⟨c_law_web, ⟨trivial, ⟨trivial, ⟨trivial, trivial⟩⟩⟩⟩, ⟨⟨c_law_order, ⟨trivial, ⟨trivial, ⟨⟨trivial, trivial⟩, trivial⟩⟩⟩⟩, ⟨trivial, ⟨p_Laid, ⟨p_Laid, ⟨⟨trivial, ⟨trivial, ⟨trivial, trivial⟩⟩⟩, ⟨trivial, ⟨⟨trivial, trivial⟩, ⟨⟨⟨⟨c_law_mix, ⟨trivial, ⟨trivial, trivial⟩⟩⟩, trivial⟩, ⟨⟨c_law_mix, ⟨trivial, ⟨⟨trivial, trivial⟩, trivial⟩⟩⟩, ⟨⟨⟨⟨trivial, trivial⟩, trivial⟩, ⟨⟨⟨trivial, trivial⟩, ⟨⟨trivial, trivial⟩, trivial⟩⟩, trivial⟩, ⟨⟨trivial, trivial⟩, ⟨trivial, ⟨⟨trivial, trivial⟩, trivial⟩⟩⟩⟩, ⟨⟨⟨trivial, trivial⟩, ⟨trivial, ⟨⟨trivial, trivial⟩, trivial⟩⟩⟩, ⟨⟨⟨⟨⟨trivial, trivial⟩, trivial⟩, trivial⟩, ⟨⟨p_Laid_back, trivial, ⟨⟨trivial, trivial⟩, trivial⟩, ⟨trivial, trivial⟩, trivial⟩, ⟨trivial, ⟨⟨trivial, trivial, ⟨trivial, ⟨⟨⟨trivial, trivial⟩, trivial⟩, trivial⟩⟩⟩, trivial⟩⟩⟩, ⟨⟨⟨trivial, trivial, ⟨trivial, trivial⟩⟩, ⟨⟨trivial, ⟨trivial, trivial⟩⟩, trivial⟩⟩, ⟨⟨⟨trivial, trivial⟩, trivial⟩, ⟨⟨⟨⟨trivial, ⟨trivial, trivial⟩⟩, ⟨⟨trivial, ⟨trivial, trivial⟩⟩, trivial⟩⟩, ⟨⟨trivial, trivial⟩, trivial⟩⟩, ⟨⟨p_law_done, ⟨trivial, ⟨trivial, ⟨trivial, trivial⟩⟩⟩, ⟨⟨trivial, ⟨trivial, trivial⟩⟩, ⟨trivial, trivial⟩⟩, ⟨trivial, trivial⟩, trivial⟩, ⟨⟨trivial, ⟨⟨c_law_deed, ⟨⟨trivial, trivial⟩, ⟨trivial, ⟨trivial, ⟨trivial, trivial⟩⟩⟩⟩⟩, trivial⟩, trivial⟩, trivial⟩⟩⟩⟩⟩⟩, ⟨⟨⟨c_law_same, ⟨trivial, ⟨trivial, ⟨⟨trivial, trivial⟩, trivial⟩⟩⟩⟩, ⟨trivial, trivial⟩, trivial⟩, trivial⟩⟩⟩⟩⟩⟩, ⟨⟨⟨⟨⟨c_law_made, ⟨⟨trivial, ⟨trivial, trivial⟩⟩, ⟨trivial, trivial⟩⟩⟩, trivial⟩, ⟨⟨⟨c_law_made, ⟨trivial, ⟨⟨trivial, ⟨trivial, trivial⟩⟩, trivial⟩⟩⟩, trivial⟩, trivial⟩⟩, ⟨trivial, trivial⟩, trivial⟩, ⟨⟨c_law_same, ⟨trivial, ⟨trivial, ⟨trivial, trivial⟩⟩⟩⟩, trivial⟩⟩⟩⟩⟩⟩⟩⟩⟩⟩⟩
end
end Rwl

set_option Elab.async false
set_option linter.all false
set_option maxRecDepth 100000
set_option maxHeartbeats 0
namespace Rwl
open PySem PySem.W PySem.Calls PyProof.Rows
theorem factsL (hlaw : ∀ ns : List Int, ns.length ≤ 63 → f_law [scr ns] = .ok (.bool true)) {P : Program} {w : World} {K : PySem.W.Frag} {h : Heap} {mg : Str → Option Value} {f : Addr} (X : K.In h) (G : h.Ns mainGlobals mg) (hfa : mg ("law" : Str) = some (.ref f)) (c : He.SaysD faL fnL K) (e : exL K = true) :
    ∃ fd : FuncData, (∀ (s : Shared) (v : Value), BindsTo s fd ⟨[v], []⟩ [("_law_script", v)]) ∧ ∀ base : Heap, K.In base → base.Ns mainGlobals mg → L2.FnOk P w K mg base L2.CX0 7 f fd ["_law_script"] (spLaw K) := by
  have e1 : exB K = true := e
  have c1 : (faL.all fun f => f.ok K) = true := (and2 (show ((faL.all fun f => f.ok K) && fnL.all fun d => d.ok K) = true from congrArg (fun z : He.AlD => z.1) c)).1
  have M : Md (mkU K (some "Laid") P w) P w K mg := md_of X G (fun f hf => List.all_eq_true.mp c1 f (List.mem_append_left _ hf)) e1
  have cls := He.cls_ok (c.fact 51 (f := .cls "Laid") rfl)
  have m_Laid := He.glo_ok X G (c.fact 50 (f := .glo "Laid") rfl)
  have mkr := He.mkr_ok (c.fact 52 (f := .mkr "Laid") rfl)
  have na : ∀ y, y ∈ tabT.F → NaOk (mkU K (some "Laid") P w) K y := fun y hy => by
    have one : ∀ x, (He.Fa.noat "Laid" x).ok K = true → NaOk (mkU K (some "Laid") P w) K x := fun x hx c C hC => by
      cases c with
      | zero => cases hC; exact ⟨cls, He.noat_ok hx⟩
      | succ c => cases hC
    simp only [tabT, List.mem_cons, List.not_mem_nil, or_false] at hy
    rcases hy with rfl | rfl | rfl
    · exact one _ (c.fact 53 (f := .noat "Laid" "web") rfl)
    · exact one _ (c.fact 54 (f := .noat "Laid" "row") rfl)
    · exact one _ (c.fact 55 (f := .noat "Laid" "old") rfl)
  obtain ⟨fd_look_web, F_look_web⟩ := c.def_ 0 (d := d_look_web) rfl
  have m_look_web := He.glo_ok X G (c.fact 29 (f := .glo "look_web") rfl)
  obtain ⟨fd_look_order, F_look_order⟩ := c.def_ 1 (d := d_look_order) rfl
  have m_look_order := He.glo_ok X G (c.fact 30 (f := .glo "look_order") rfl)
  obtain ⟨fd_lengths, F_lengths⟩ := c.def_ 2 (d := d_lengths) rfl
  have m_lengths := He.glo_ok X G (c.fact 31 (f := .glo "lengths") rfl)
  obtain ⟨fd_gaps, F_gaps⟩ := c.def_ 3 (d := d_gaps) rfl
  have m_gaps := He.glo_ok X G (c.fact 32 (f := .glo "gaps_webs") rfl)
  obtain ⟨fd_Laid_init, F_Laid_init⟩ := c.def_ 4 (d := d_Laid_init) rfl
  obtain ⟨fd_Laid_need, F_Laid_need⟩ := c.def_ 5 (d := d_Laid_need) rfl
  have m_Laid_need := He.meth_ok (c.fact 56 (f := .meth "Laid" "need") rfl)
  obtain ⟨fd_Laid_keep, F_Laid_keep⟩ := c.def_ 6 (d := d_Laid_keep) rfl
  have m_Laid_keep := He.meth_ok (c.fact 57 (f := .meth "Laid" "keep") rfl)
  obtain ⟨fd_Laid_swap, F_Laid_swap⟩ := c.def_ 7 (d := d_Laid_swap) rfl
  have m_Laid_swap := He.meth_ok (c.fact 58 (f := .meth "Laid" "swap") rfl)
  obtain ⟨fd_Laid_move, F_Laid_move⟩ := c.def_ 8 (d := d_Laid_move) rfl
  have m_Laid_move := He.meth_ok (c.fact 59 (f := .meth "Laid" "move") rfl)
  obtain ⟨fd_Laid_turn, F_Laid_turn⟩ := c.def_ 9 (d := d_Laid_turn) rfl
  have m_Laid_turn := He.meth_ok (c.fact 60 (f := .meth "Laid" "turn") rfl)
  obtain ⟨fd_Laid_back, F_Laid_back⟩ := c.def_ 10 (d := d_Laid_back) rfl
  have m_Laid_back := He.meth_ok (c.fact 61 (f := .meth "Laid" "back") rfl)
  obtain ⟨fd_Laid_order, F_Laid_order⟩ := c.def_ 11 (d := d_Laid_order) rfl
  have m_Laid_order := He.meth_ok (c.fact 62 (f := .meth "Laid" "order") rfl)
  obtain ⟨fd_Laid_longest, F_Laid_longest⟩ := c.def_ 12 (d := d_Laid_longest) rfl
  have m_Laid_longest := He.meth_ok (c.fact 63 (f := .meth "Laid" "longest") rfl)
  obtain ⟨fd_Laid_gaps, F_Laid_gaps⟩ := c.def_ 13 (d := d_Laid_gaps) rfl
  have m_Laid_gaps := He.meth_ok (c.fact 64 (f := .meth "Laid" "gaps") rfl)
  obtain ⟨fd_Laid_total, F_Laid_total⟩ := c.def_ 14 (d := d_Laid_total) rfl
  have m_Laid_total := He.meth_ok (c.fact 65 (f := .meth "Laid" "total") rfl)
  obtain ⟨fd_Laid_best_swap, F_Laid_best_swap⟩ := c.def_ 15 (d := d_Laid_best_swap) rfl
  have m_Laid_best_swap := He.meth_ok (c.fact 66 (f := .meth "Laid" "best_swap") rfl)
  obtain ⟨fd_law_cell, F_law_cell⟩ := c.def_ 16 (d := d_law_cell) rfl
  have m_law_cell := He.glo_ok X G (c.fact 33 (f := .glo "_law_cell") rfl)
  obtain ⟨fd_law_mix, F_law_mix⟩ := c.def_ 17 (d := d_law_mix) rfl
  have m_law_mix := He.glo_ok X G (c.fact 34 (f := .glo "_law_mix") rfl)
  obtain ⟨fd_law_whole, F_law_whole⟩ := c.def_ 18 (d := d_law_whole) rfl
  have m_law_whole := He.glo_ok X G (c.fact 35 (f := .glo "_law_whole") rfl)
  obtain ⟨fd_law_web, F_law_web⟩ := c.def_ 19 (d := d_law_web) rfl
  have m_law_web := He.glo_ok X G (c.fact 36 (f := .glo "_law_web") rfl)
  obtain ⟨fd_law_order, F_law_order⟩ := c.def_ 20 (d := d_law_order) rfl
  have m_law_order := He.glo_ok X G (c.fact 37 (f := .glo "_law_order") rfl)
  obtain ⟨fd_law_lengths, F_law_lengths⟩ := c.def_ 21 (d := d_law_lengths) rfl
  have m_law_lengths := He.glo_ok X G (c.fact 38 (f := .glo "_law_lengths") rfl)
  obtain ⟨fd_law_gaps, F_law_gaps⟩ := c.def_ 22 (d := d_law_gaps) rfl
  have m_law_gaps := He.glo_ok X G (c.fact 39 (f := .glo "_law_gaps") rfl)
  obtain ⟨fd_law_measured, F_law_measured⟩ := c.def_ 23 (d := d_law_measured) rfl
  have m_law_measured := He.glo_ok X G (c.fact 40 (f := .glo "_law_measured") rfl)
  obtain ⟨fd_law_refusal, F_law_refusal⟩ := c.def_ 24 (d := d_law_refusal) rfl
  have m_law_refusal := He.glo_ok X G (c.fact 41 (f := .glo "_law_refusal") rfl)
  obtain ⟨fd_law_done, F_law_done⟩ := c.def_ 25 (d := d_law_done) rfl
  have m_law_done := He.glo_ok X G (c.fact 42 (f := .glo "_law_done") rfl)
  obtain ⟨fd_law_made, F_law_made⟩ := c.def_ 26 (d := d_law_made) rfl
  have m_law_made := He.glo_ok X G (c.fact 43 (f := .glo "_law_made") rfl)
  obtain ⟨fd_law_deed, F_law_deed⟩ := c.def_ 27 (d := d_law_deed) rfl
  have m_law_deed := He.glo_ok X G (c.fact 44 (f := .glo "_law_deed") rfl)
  obtain ⟨fd_law_best, F_law_best⟩ := c.def_ 28 (d := d_law_best) rfl
  have m_law_best := He.glo_ok X G (c.fact 45 (f := .glo "_law_best") rfl)
  obtain ⟨fd_law_same, F_law_same⟩ := c.def_ 29 (d := d_law_same) rfl
  have m_law_same := He.glo_ok X G (c.fact 46 (f := .glo "_law_same") rfl)
  obtain ⟨fd_law, F_law⟩ := c.def_ 30 (d := d_law) rfl
  have m_law := He.glo_ok X G (c.fact 47 (f := .glo "law") rfl)
  have g_MOST_PLACES := gl_int (cn := (some "Laid")) (P := P) (w := w) X G (c.fact 48 (f := .int "MOST_PLACES" 8) rfl)
  have g_MOST_WEIGHT := gl_int (cn := (some "Laid")) (P := P) (w := w) X G (c.fact 49 (f := .int "MOST_WEIGHT" 100) rfl)
  have z := hfa.symm.trans m_law
  cases z
  refine ⟨fd_law, fun s v => L2.FunD.bindsA (ps := ["_law_script"]) F_law (fun _ _ _ _ _ _ us hl => match us, hl with | [_], _ => rfl) s [v] rfl, fun base _ _ => ?_⟩
  have D_look_web := is_look_web (P := P) (w := w) (base := base) M na F_look_web m_look_web g_MOST_PLACES g_MOST_WEIGHT
  have D_look_order := is_look_order (P := P) (w := w) (base := base) M na F_look_order m_look_order D_look_web
  have D_lengths := is_lengths (P := P) (w := w) (base := base) M na F_lengths m_lengths D_look_order
  have D_gaps := is_gaps (P := P) (w := w) (base := base) M na F_gaps m_gaps D_look_order
  have D_Laid := is_Laid (P := P) (w := w) (base := base) M na F_Laid_init rfl m_Laid mkr D_look_order
  have DJ_Laid := is_LaidJ (P := P) (w := w) (base := base) M na F_Laid_init rfl m_Laid mkr D_look_order
  have D_Laid_need := is_Laid_need (P := P) (w := w) (base := base) M na F_Laid_need rfl cls m_Laid_need
  have D_Laid_keep := is_Laid_keep (P := P) (w := w) (base := base) M na F_Laid_keep rfl cls m_Laid_keep
  have D_Laid_swap := is_Laid_swap (P := P) (w := w) (base := base) M na F_Laid_swap rfl cls m_Laid_swap D_Laid_need D_Laid_keep
  have D_Laid_move := is_Laid_move (P := P) (w := w) (base := base) M na F_Laid_move rfl cls m_Laid_move D_Laid_need D_Laid_keep
  have D_Laid_turn := is_Laid_turn (P := P) (w := w) (base := base) M na F_Laid_turn rfl cls m_Laid_turn D_Laid_need D_Laid_keep
  have D_Laid_back := is_Laid_back (P := P) (w := w) (base := base) M na F_Laid_back rfl cls m_Laid_back
  have D_Laid_order := is_Laid_order (P := P) (w := w) (base := base) M na F_Laid_order rfl cls m_Laid_order
  have D_Laid_longest := is_Laid_longest (P := P) (w := w) (base := base) M na F_Laid_longest rfl cls m_Laid_longest D_lengths
  have D_Laid_gaps := is_Laid_gaps (P := P) (w := w) (base := base) M na F_Laid_gaps rfl cls m_Laid_gaps D_gaps
  have D_Laid_total := is_Laid_total (P := P) (w := w) (base := base) M na F_Laid_total rfl cls m_Laid_total D_gaps
  have D_Laid_best_swap := is_Laid_best_swap (P := P) (w := w) (base := base) M na F_Laid_best_swap rfl cls m_Laid_best_swap D_gaps D_Laid_total
  have D_law_cell := is_law_cell (P := P) (w := w) (base := base) M na F_law_cell m_law_cell
  have D_law_mix := is_law_mix (P := P) (w := w) (base := base) M na F_law_mix m_law_mix D_law_cell
  have D_law_whole := is_law_whole (P := P) (w := w) (base := base) M na F_law_whole m_law_whole
  have D_law_web := is_law_web (P := P) (w := w) (base := base) M na F_law_web m_law_web D_law_mix
  have D_law_order := is_law_order (P := P) (w := w) (base := base) M na F_law_order m_law_order D_law_mix
  have D_law_lengths := is_law_lengths (P := P) (w := w) (base := base) M na F_law_lengths m_law_lengths
  have D_law_gaps := is_law_gaps (P := P) (w := w) (base := base) M na F_law_gaps m_law_gaps
  have D_law_measured := is_law_measured (P := P) (w := w) (base := base) M na F_law_measured m_law_measured D_law_lengths D_law_gaps
  have D_law_refusal := is_law_refusal (P := P) (w := w) (base := base) M na F_law_refusal m_law_refusal
  have D_law_done := is_law_done (P := P) (w := w) (base := base) M na F_law_done m_law_done D_Laid_swap D_Laid_move D_Laid_turn D_law_refusal
  have D_law_made := is_law_made (P := P) (w := w) (base := base) M na F_law_made m_law_made D_Laid D_law_refusal
  have D_law_deed := is_law_deed (P := P) (w := w) (base := base) M na F_law_deed m_law_deed
  have D_law_best := is_law_best (P := P) (w := w) (base := base) M na F_law_best m_law_best D_law_measured D_law_deed
  have D_law_same := is_law_same (P := P) (w := w) (base := base) M na F_law_same m_law_same D_Laid_order D_Laid_gaps D_law_gaps D_Laid_best_swap D_law_best D_Laid_longest D_law_measured D_law_whole D_Laid_total
  have D_law := ok_law (P := P) (w := w) (base := base) M na F_law D_law_web D_law_order DJ_Laid D_law_mix D_Laid_back D_law_done D_law_deed D_law_same D_law_made
  exact law_fn D_law hlaw
theorem finL (hlaw : ∀ ns : List Int, ns.length ≤ 63 → f_law [scr ns] = .ok (.bool true)) : PySem.Challenge.rw_rowlay_k10_whole_deeds.Holds := by
  w_on; o_law
  refine HandSHeadRun.head_any (r := rowL) (q := PySem.W.view rowL.prog [32]) (H := hkL) (ob := obL) (M := 3000) (loose := looseL) (d := HandSHeadRun.topDef rowL.prog 32) (kwd := []) obL_eq (by kernel_rfl) (fun s => by kernel_rfl) runL (by kernel_rfl) (by kernel_rfl) (by kernel_rfl) (by rfl) (by first | assumption | decide +kernel) (by decide +kernel) ⟨rfl, rfl, rfl, rfl, rfl, by decide +kernel⟩ ?hw ?hc
  case hw => w_witness2
  case hc =>
    refine L2.walk_ofE (l := PySem.Challenge.rw_rowlay_k10_whole_deeds) (n := 63) (k := 7) (x := "_law_script") (CX := L2.CX0) rfl (by decide) (by kernel_rfl) ⟨rfl, by decide, by decide⟩ ?F (fun _ _ _ _ z => z)
    intro w mg fa h Y G hmg0
    obtain ⟨K, KX, c, e⟩ := Y
    have hmg : mg ("law" : PySem.Str) = some (.ref fa) := by
      have e : (HandSHeadRun.topDef rowL.prog 32).name = ("law" : PySem.Str) := by kernel_rfl
      rw [← e]
      exact hmg0
    obtain ⟨fd, hb, hF⟩ := factsL hlaw (P := (PySem.Challenge.rw_rowlay_k10_whole_deeds).prog) (w := w) KX G hmg c e
    exact ⟨K, fd, spLaw K, KX, hb, fun H a ns hl _ hS => ⟨a, ns, rfl, hl, hS, fun _ => rfl⟩, hF⟩
end Rwl

set_option Elab.async false
set_option linter.all false
set_option maxRecDepth 100000
set_option maxHeartbeats 2000000
/-! Rwl, part R: reckoning with the interpreter (plain Lean). -/
namespace Rwl
open PySem
section
variable (env : Env) (a b c d : E) (i : Nat)
@[simp] theorem evE_var : evE env (.var i) = match env.get i with
    | .dat d => .ok d
    | _ => .bad := rfl
@[simp] theorem evE_int (n : Int) : evE env (.int n) = .ok (.int n) := rfl
@[simp] theorem evE_str (n : Str) : evE env (.str n) = .ok (.str n) := rfl
@[simp] theorem evE_bl (n : Bool) : evE env (.bl n) = .ok (.bool n) := rfl
@[simp] theorem evE_non : evE env .non = .ok .none := rfl
@[simp] theorem evE_glb (x : Str) (d : D) : evE env (.glb x d) = .ok d := rfl
@[simp] theorem evE_bin (o : O2) : evE env (.bin o a b) = (evE env a).bind fun x => (evE env b).bind fun y => o.run x y := rfl
@[simp] theorem evE_neg : evE env (.neg a) = (evE env a).bind negD := rfl
@[simp] theorem evE_not : evE env (.not a) = (evE env a).bind fun x => (tru x).bind fun b => .ok (.bool (!b)) := rfl
@[simp] theorem evE_cmp (o : Cm) : evE env (.cmp o a b) = (evE env a).bind fun x => (evE env b).bind fun y => (o.run x y).bind fun k => .ok (.bool k) := rfl
@[simp] theorem evE_ch2 (o p : Cm) : evE env (.ch2 o p a b c) = (evE env a).bind fun x => (evE env b).bind fun y => (o.run x y).bind fun k => match k with
    | false => .ok (.bool false)
    | true => (evE env c).bind fun z => (p.run y z).bind fun k => .ok (.bool k) := rfl
@[simp] theorem evE_ch3 (o p q : Cm) : evE env (.ch3 o p q a b c d) = (evE env a).bind fun x => (evE env b).bind fun y => (o.run x y).bind fun k => match k with
    | false => .ok (.bool false)
    | true => (evE env c).bind fun z => (p.run y z).bind fun k => match k with
      | false => .ok (.bool false)
      | true => (evE env d).bind fun w => (q.run z w).bind fun k => .ok (.bool k) := rfl
@[simp] theorem evE_and : evE env (.and a) = evAnd env a := rfl
@[simp] theorem evE_or : evE env (.or a) = evOr env a := rfl
@[simp] theorem evE_ite : evE env (.ite c a b) = (evT env c).bind fun k => match k with
    | true => evE env a
    | false => evE env b := rfl
@[simp] theorem evE_tup : evE env (.tup a) = (evL env a).bind fun ds => req (decide (ds.length ≤ lim)) (.ok (.tuple ds)) := rfl
@[simp] theorem evE_lst : evE env (.lst a) = (evL env a).bind fun ds => req (decide (ds.length ≤ lim)) (.ok (.list ds)) := rfl
@[simp] theorem evE_ix : evE env (.ix a b) = match evI1 env a with
    | some kvs => (evE env b).bind fun y => (asInt y).bind fun k => ofO (klook kvs k)
    | none => (evC env a).bind fun x => (evE env b).bind fun y => ixD x y := rfl
@[simp] theorem evE_sl : evE env (.sl a b c) = (evC env a).bind fun x => (evO env b).bind fun l => (evO env c).bind fun h => slD l h x := rfl
@[simp] theorem evE_rev : evE env (.rev a) = (evC env a).bind revD := rfl
@[simp] theorem evE_bi (k : Bi) : evE env (.bi k a) = (evL env a).bind fun ds => bi k ds := rfl
@[simp] theorem evE_maxd : evE env (.maxd a d) = (evE env a).bind fun x => (evE env d).bind fun y => match x with
    | .list xs => (ofO (intL xs)).bind fun ns => match ns with
      | [] => .ok y
      | n :: r => .ok (.int (r.foldl max n))
    | _ => .bad := rfl
@[simp] theorem evE_lrg : evE env (.lrg a) = (evE env a).bind fun x => (asInt x).bind fun n => req (decide (0 ≤ n) && decide (n ≤ 100000)) (.ok (.list (rngD 0 n))) := rfl
@[simp] theorem evE_isi (t : Ty) : evE env (.isi a t) = (evE env a).bind fun x => (isiD x t).bind fun b => .ok (.bool b) := rfl
@[simp] theorem evE_call (k : Nat) (f : List D → Res D) : evE env (.call k f a) = (evL env a).bind f := rfl
@[simp] theorem evE_mt (m : Mt) : evE env (.mt m a b) = (evE env a).bind fun x => match x with
    | .list xs => (evL env b).bind fun ds => mt m (.list xs) ds
    | _ => .bad := rfl
@[simp] theorem evE_ms (m : Ms) : evE env (.ms m a b) = (evE env a).bind fun x => match x with
    | .str s => (evL env b).bind fun ds => msD m s ds
    | _ => .bad := rfl
/-- a comprehension's turn -/
def lcTurn (env : Env) (own : List Nat) (t : Tg) (c e : E) (d : D) : Res (Option D) := (t.run (env.wipe own) d).bind fun env' => (evP env' c).bind fun k => match k with
    | true => (evE env' e).bind fun y => .ok (some y)
    | false => .ok none
theorem evE_lc (own : List Nat) (t : Tg) (it : E) : evE env (.lc own t it c a) = (evI env it).bind fun ds => req (decide (ds.length ≤ lim)) ((lcRun (lcTurn env own t c a) ds).bind fun ys => .ok (.list ys)) := rfl
def evN (env : Env) (a : E) : Res Int := pickN (evE env a) (evE env.frz a)
theorem rng_seq0 {b : Bool} {ds : List D} : (req b (.ok (.list ds)) : Res D).bind seqOf = req b (.ok ds) := by cases b <;> rfl
@[simp] theorem evI_rng1 : evI env (.rng1 a) = (evN env a).bind fun n => req (decide (-1000000 ≤ n) && decide (n ≤ 1000000)) (.ok (rngD 0 n)) := by
  show ((evN env a).bind fun n => req (decide (-1000000 ≤ n) && decide (n ≤ 1000000)) (.ok (.list (rngD 0 n)))).bind seqOf = _
  cases evN env a with
  | ok n => exact rng_seq0
  | _ => rfl
@[simp] theorem evI_rng2 : evI env (.rng2 a b) = (evN env a).bind fun m => (evN env b).bind fun n => req (decide (-1000000 ≤ m) && decide (m ≤ 1000000) && decide (-1000000 ≤ n) && decide (n ≤ 1000000)) (.ok (rngD m n)) := by
  show ((evN env a).bind fun m => (evN env b).bind fun n => req (decide (-1000000 ≤ m) && decide (m ≤ 1000000) && decide (-1000000 ≤ n) && decide (n ≤ 1000000)) (.ok (.list (rngD m n)))).bind seqOf = _
  cases evN env a with
  | ok m =>
    show ((evN env b).bind fun n => _).bind seqOf = (evN env b).bind _
    cases evN env b with
    | ok n => exact rng_seq0
    | _ => rfl
  | _ => rfl
theorem evN_ok {env : Env} {a : E} {n : Int} (h : evE env a = .ok (.int n)) : evN env a = .ok n := by
  unfold evN
  rw [h]
  rfl
theorem evN_frz {env : Env} {a : E} {n : Int} (h : evE env a = .bad) (h1 : evE env.frz a = .ok (.int n)) : evN env a = .ok n := by
  unfold evN
  rw [h, h1]
  rfl
theorem evI_seq : evI env a = (evE env a).bind seqOf := rfl
@[simp] theorem evI_var : evI env (.var i) = (evE env (.var i)).bind seqOf := rfl
@[simp] theorem evI_ix : evI env (.ix a b) = (evE env (.ix a b)).bind seqOf := rfl
@[simp] theorem evI_lst : evI env (.lst a) = (evE env (.lst a)).bind seqOf := rfl
@[simp] theorem evI_sl : evI env (.sl a b c) = (evE env (.sl a b c)).bind seqOf := rfl
@[simp] theorem evI_call (k : Nat) (f : List D → Res D) : evI env (.call k f a) = (evE env (.call k f a)).bind seqOf := rfl
@[simp] theorem evL_nil : evL env .nil = .ok [] := rfl
@[simp] theorem evL_cons : evL env (.cons a b) = (evE env a).bind fun x => (evL env b).bind fun xs => .ok (x :: xs) := rfl
@[simp] theorem evAnd_one : evAnd env (.cons a .nil) = evE env a := rfl
@[simp] theorem evAnd_cons : evAnd env (.cons a (.cons b c)) = (evE env a).bind fun x => (tru x).bind fun k => match k with
    | true => evAnd env (.cons b c)
    | false => .ok x := rfl
@[simp] theorem evOr_one : evOr env (.cons a .nil) = evE env a := rfl
@[simp] theorem evOr_cons : evOr env (.cons a (.cons b c)) = (evE env a).bind fun x => (tru x).bind fun k => match k with
    | true => .ok x
    | false => evOr env (.cons b c) := rfl
@[simp] theorem evTAnd_one : evTAnd env (.cons a .nil) = evT env a := rfl
@[simp] theorem evTAnd_cons : evTAnd env (.cons a (.cons b c)) = (evT env a).bind fun k => match k with
    | true => evTAnd env (.cons b c)
    | false => .ok false := rfl
@[simp] theorem evTOr_one : evTOr env (.cons a .nil) = evT env a := rfl
@[simp] theorem evTOr_cons : evTOr env (.cons a (.cons b c)) = (evT env a).bind fun k => match k with
    | true => .ok true
    | false => evTOr env (.cons b c) := rfl
@[simp] theorem evT_and : evT env (.and a) = evTAnd env a := rfl
@[simp] theorem evT_or : evT env (.or a) = evTOr env a := rfl
@[simp] theorem evT_not : evT env (.not a) = (evT env a).bind fun b => .ok (!b) := rfl
@[simp] theorem evT_var : evT env (.var i) = match env.get i with
    | .own xs => .ok (!xs.isEmpty)
    | .dat d => tru d
    | _ => .bad := rfl
@[simp] theorem evT_cmp (o : Cm) : evT env (.cmp o a b) = (evE env a).bind fun x => (evE env b).bind fun y => o.run x y := rfl
@[simp] theorem evT_ch2 (o p : Cm) : evT env (.ch2 o p a b c) = (evE env (.ch2 o p a b c)).bind tru := rfl
@[simp] theorem evT_ch3 (o p q : Cm) : evT env (.ch3 o p q a b c d) = (evE env (.ch3 o p q a b c d)).bind tru := rfl
@[simp] theorem evT_ix : evT env (.ix a b) = (evE env (.ix a b)).bind tru := rfl
@[simp] theorem evT_bi (k : Bi) : evT env (.bi k a) = (evE env (.bi k a)).bind tru := rfl
@[simp] theorem evT_isi (t : Ty) : evT env (.isi a t) = (evE env (.isi a t)).bind tru := rfl
@[simp] theorem evT_call (k : Nat) (f : List D → Res D) : evT env (.call k f a) = (evE env (.call k f a)).bind tru := rfl
@[simp] theorem evC_var : evC env (.var i) = match env.get i with
    | .dat d => .ok d
    | .own xs => .ok (.list xs)
    | .dcn kvs => .ok (ndD kvs)
    | _ => .bad := rfl
@[simp] theorem evC_ix : evC env (.ix a b) = evE env (.ix a b) := rfl
@[simp] theorem evC_lst : evC env (.lst a) = evE env (.lst a) := rfl
@[simp] theorem evC_sl : evC env (.sl a b c) = evE env (.sl a b c) := rfl
@[simp] theorem evC_call (k : Nat) (f : List D → Res D) : evC env (.call k f a) = evE env (.call k f a) := rfl
@[simp] theorem evI1_var : evI1 env (.var i) = match env.get i with
    | .dct kvs => some kvs
    | _ => none := rfl
@[simp] theorem evI1_str (x : Str) : evI1 env (.str x) = none := rfl
@[simp] theorem evC_str (x : Str) : evC env (.str x) = evE env (.str x) := rfl
@[simp] theorem evE_att (x : Str) : evE env (.att a x) = pickA env a x (evE env a) := rfl
@[simp] theorem evT_att (x : Str) : evT env (.att a x) = (evE env (.att a x)).bind tru := rfl
@[simp] theorem evC_att (x : Str) : evC env (.att a x) = evE env (.att a x) := rfl
@[simp] theorem evI_att (x : Str) : evI env (.att a x) = (evE env (.att a x)).bind seqOf := rfl
@[simp] theorem evI1_att (x : Str) : evI1 env (.att a x) = none := rfl
@[simp] theorem evE_mth (k : Nat) (m : Str) (f : List D → Res D) : evE env (.mth k m f a b) = (evE env a).bind fun o => req (isObj m o) ((evL env b).bind fun ds => f (o :: ds)) := rfl
@[simp] theorem evI_mth (k : Nat) (m : Str) (f : List D → Res D) : evI env (.mth k m f a b) = (evE env (.mth k m f a b)).bind seqOf := rfl
@[simp] theorem evC_mth (k : Nat) (m : Str) (f : List D → Res D) : evC env (.mth k m f a b) = evE env (.mth k m f a b) := rfl
@[simp] theorem evI1_mth (k : Nat) (m : Str) (f : List D → Res D) : evI1 env (.mth k m f a b) = none := rfl
@[simp] theorem evE_mk (k : Nat) (f : List D → Res D) : evE env (.mk k f a) = (evL env a).bind f := rfl
@[simp] theorem evE_ind (n : Bool) : evE env (.ind n a b) = (evE env a).bind fun x => (evC env b).bind fun y => (inND x y).bind fun k => .ok (.bool (xor n k)) := rfl
@[simp] theorem evT_ind (n : Bool) : evT env (.ind n a b) = (evE env (.ind n a b)).bind tru := rfl
@[simp] theorem evE_srt : evE env (.srt a) = (evC env a).bind srtD := rfl
@[simp] theorem evE_srs : evE env (.srs a) = (evC env a).bind srsD := rfl
@[simp] theorem evI_rvs : evI env (.rvs a) = ((evE env a).bind revD).bind seqOf := rfl
theorem pickA_dat {env : Env} {i : Nat} {x : Str} {d : D} {r : Res D} (h : env.get i = .dat d) : pickA env (.var i) x r = r.bind (attD x) := by
  unfold pickA
  dsimp only
  rw [h]
theorem pickA_ins {env : Env} {i : Nat} {x : Str} {t c : Nat} {fs : List (Str × Fl)} {d : D} {r : Res D} (h : env.get i = .ins t c fs) (hx : attF x fs = some (.dat d)) : pickA env (.var i) x r = .ok d := by
  unfold pickA
  dsimp only
  rw [h]
  dsimp only
  rw [hx]
@[simp] theorem evI1_ix : evI1 env (.ix a b) = none := rfl
@[simp] theorem evI1_lst : evI1 env (.lst a) = none := rfl
@[simp] theorem evI1_sl : evI1 env (.sl a b c) = none := rfl
@[simp] theorem evI1_call (k : Nat) (f : List D → Res D) : evI1 env (.call k f a) = none := rfl
@[simp] theorem evO_nop : evO env .nop = .ok none := rfl
@[simp] theorem evO_int (n : Int) : evO env (.int n) = .ok (some n) := rfl
@[simp] theorem evO_var : evO env (.var i) = (evE env (.var i)).bind fun x => (asInt x).bind fun i => .ok (some i) := rfl
@[simp] theorem evO_bin (o : O2) : evO env (.bin o a b) = (evE env (.bin o a b)).bind fun x => (asInt x).bind fun i => .ok (some i) := rfl
@[simp] theorem evO_neg : evO env (.neg a) = (evE env (.neg a)).bind fun x => (asInt x).bind fun i => .ok (some i) := rfl
@[simp] theorem evP_nop : evP env .nop = .ok true := rfl
@[simp] theorem evP_cmp (o : Cm) : evP env (.cmp o a b) = evT env (.cmp o a b) := rfl
@[simp] theorem asInt_int (n : Int) : asInt (.int n) = .ok n := rfl
@[simp] theorem run_add : O2.add.run = addD := rfl
@[simp] theorem run_sub : O2.sub.run = subD := rfl
@[simp] theorem run_mul : O2.mul.run = mulD := rfl
@[simp] theorem run_fdiv : O2.fdiv.run = fdivD := rfl
@[simp] theorem run_mod : O2.mod.run = modD := rfl
@[simp] theorem add_int (m n : Int) : addD (.int m) (.int n) = .ok (.int (m + n)) := rfl
@[simp] theorem sub_int (m n : Int) : subD (.int m) (.int n) = .ok (.int (m - n)) := rfl
@[simp] theorem neg_int (n : Int) : negD (.int n) = .ok (.int (-n)) := rfl
theorem mul_int {m n : Int} (h : (near64 m || near64 n) = true) : mulD (.int m) (.int n) = .ok (.int (m * n)) := by
  show req (near64 m || near64 n) _ = _
  rw [h]; rfl
theorem near_of {n : Int} (h1 : -(2 ^ 64) < n) (h2 : n < 2 ^ 64) : near64 n = true := by unfold near64; rw [decide_eq_true h1, decide_eq_true h2]; rfl
@[simp] theorem mod_int {m n : Int} (h : (decide (0 < n)) = true) : modD (.int m) (.int n) = .ok (.int (m % n)) := by
  show req (decide (0 < n)) _ = _
  rw [h]; rfl
@[simp] theorem fdiv_int {m n : Int} (h : (decide (0 < n) && decide (n < 1073741824)) = true) : fdivD (.int m) (.int n) = .ok (.int (m / n)) := by
  show req (decide (0 < n) && decide (n < 1073741824)) _ = _
  rw [h]; rfl
@[simp] theorem run_lt : Cm.lt.run = ltD := rfl
@[simp] theorem run_le : Cm.le.run = leD := rfl
@[simp] theorem run_gt : Cm.gt.run = gtD := rfl
@[simp] theorem run_ge : Cm.ge.run = geD := rfl
@[simp] theorem run_eq : Cm.eq.run = eqD := rfl
@[simp] theorem run_ne (x y : D) : Cm.ne.run x y = (eqD x y).nott := rfl
@[simp] theorem run_isn (x y : D) : Cm.isn.run x y = req (nonD y) (.ok (nonD x)) := rfl
@[simp] theorem nonD_none : nonD .none = true := rfl
@[simp] theorem run_in (x y : D) : Cm.inn.run x y = inD x y := rfl
@[simp] theorem run_nin (x y : D) : Cm.nin.run x y = (inD x y).nott := rfl
@[simp] theorem lt_int (m n : Int) : ltD (.int m) (.int n) = .ok (decide (m < n)) := rfl
@[simp] theorem le_int (m n : Int) : leD (.int m) (.int n) = .ok (decide (m ≤ n)) := rfl
@[simp] theorem gt_int (m n : Int) : gtD (.int m) (.int n) = .ok (decide (n < m)) := rfl
@[simp] theorem ge_int (m n : Int) : geD (.int m) (.int n) = .ok (decide (n ≤ m)) := rfl
@[simp] theorem eq_int (m n : Int) : eqD (.int m) (.int n) = .ok (decide (m = n)) := by
  show Res.ok (m == n) = _
  rw [Bool.beq_eq_decide_eq]
@[simp] theorem nott_ok (k : Bool) : Res.nott (.ok k) = .ok (!k) := rfl
@[simp] theorem tru_int (n : Int) : tru (.int n) = .ok (n != 0) := rfl
@[simp] theorem tru_bool (n : Bool) : tru (.bool n) = .ok n := rfl
@[simp] theorem tru_list (xs : List D) : tru (.list xs) = .ok (!xs.isEmpty) := rfl
@[simp] theorem seq_list (xs : List D) : seqOf (.list xs) = .ok xs := rfl
@[simp] theorem seq_tuple (xs : List D) : seqOf (.tuple xs) = .ok xs := rfl
end
@[simp] theorem frz_nil : Env.frz [] = [] := rfl
@[simp] theorem frz_cons (s : Slot) (r : Env) : Env.frz (s :: r) = s.frz :: Env.frz r := rfl
@[simp] theorem frz_dat (d : D) : Slot.frz (.dat d) = .dat d := rfl
@[simp] theorem frz_own (d : List D) : Slot.frz (.own d) = .dat (.list d) := rfl
@[simp] theorem frz_none : Slot.frz .none = .none := rfl
@[simp] theorem get_zero (s : Slot) (r : Env) : Env.get (s :: r) 0 = s := rfl
@[simp] theorem get_succ (s : Slot) (r : Env) (n : Nat) : Env.get (s :: r) (n + 1) = Env.get r n := rfl
@[simp] theorem get_one (s t : Slot) (r : Env) : Env.get (s :: t :: r) 1 = t := rfl
@[simp] theorem bindT_nil (env : Env) : bindT env [] [] = .ok env := rfl
@[simp] theorem bindT_cons (env : Env) (i : Nat) (is : List Nat) (d : D) (ds : List D) : bindT env (i :: is) (d :: ds) = bindT (env.set i (.dat d)) is ds := rfl
@[simp] theorem tg_one (env : Env) (i : Nat) (d : D) : (⟨false, [i]⟩ : Tg).run env d = .ok (env.set i (.dat d)) := rfl
@[simp] theorem tg_many (env : Env) (is : List Nat) (ds : List D) : (⟨true, is⟩ : Tg).run env (.tuple ds) = bindT env is ds := rfl
theorem pix_nn {α : Type} {xs : List α} {i : Int} (h : 0 ≤ i) : pix xs i = xs[i.toNat]? := by unfold pix; rw [if_pos h]
/-- what is plain stays -/
theorem evV_pl {env : Env} {e : E} (h : env.frz = env) : evV env e = evE env e := by
  unfold evV
  rw [h]
  cases hr : evE env e with
  | ok d => dsimp only; cases scal d <;> first | rfl | exact hr
  | _ => first | rfl | exact hr
theorem evR_pl {env : Env} {e : E} (h : env.frz = env) : evR env e = evE env e := by
  unfold evR
  rw [h]
  cases hr : evE env e <;> first | rfl | exact hr
theorem evB_pl {env : Env} {e : E} (h : env.frz = env) : evB env e = evT env e := by
  unfold evB
  rw [h]
  cases hr : evT env e <;> first | rfl | exact hr
/-- nothing is owned -/
def Slot.pl : Slot → Bool
  | .own _ => false
  | .dct _ => false
  | .ins _ _ _ => false
  | .dcn _ => false
  | .rws _ => false
  | .obj _ => false
  | .hnd _ _ _ => false
  | _ => true
def Env.pl : Env → Bool
  | [] => true
  | s :: r => s.pl && Env.pl r
theorem frz_pl : ∀ {env : Env}, Env.pl env = true → env.frz = env
  | [], _ => rfl
  | s :: r, h => by
    have h : (s.pl && Env.pl r) = true := h
    have h' : s.pl = true ∧ Env.pl r = true := by simpa using h
    have e : s.frz = s := by cases s <;> first | rfl | cases h'.1
    show s.frz :: Env.frz r = s :: r
    rw [e, frz_pl h'.2]
@[simp] theorem pl_nil : Env.pl [] = true := rfl
@[simp] theorem pl_cons (s : Slot) (r : Env) : Env.pl (s :: r) = (s.pl && Env.pl r) := rfl
@[simp] theorem pl_dat (d : D) : Slot.pl (.dat d) = true := rfl
@[simp] theorem pl_none : Slot.pl .none = true := rfl
@[simp] theorem evV_plain {env : Env} {e : E} (h : Env.pl env = true) : evV env e = evE env e := evV_pl (frz_pl h)
@[simp] theorem evR_plain {env : Env} {e : E} (h : Env.pl env = true) : evR env e = evE env e := evR_pl (frz_pl h)
@[simp] theorem evB_plain {env : Env} {e : E} (h : Env.pl env = true) : evB env e = evT env e := evB_pl (frz_pl h)
/-- by what all that is let go gives -/
theorem evV_scal {env : Env} {e : E} {d : D} (h : evE env.frz e = .ok d) (s : scal d = true) : evV env e = .ok d := by
  unfold evV
  rw [h]
  dsimp only
  rw [s]
theorem evR_ok {env : Env} {e : E} {d : D} (h : evE env.frz e = .ok d) : evR env e = .ok d := by
  unfold evR
  rw [h]
theorem evB_ok {env : Env} {e : E} {d : Bool} (h : evT env.frz e = .ok d) : evB env e = .ok d := by
  unfold evB
  rw [h]
theorem evV_both {env : Env} {e : E} {d : D} (h : evE env.frz e = .ok d) (h2 : evE env e = .ok d) : evV env e = .ok d := by
  unfold evV
  rw [h]
  dsimp only
  cases scal d
  · exact h2
  · rfl
section
variable (env : Env)
@[simp] theorem exS_nil : exS .nil env = .nx env := rfl
@[simp] theorem exS_cons (s r : S) : exS (.cons s r) env = (exS s env).seq (exS r) := rfl
@[simp] theorem exS_asg (i : Nat) (e : E) : exS (.asg i e) env = (evV env e).out env fun d => .nx (env.set i (.dat d)) := rfl
@[simp] theorem exS_asgT (is : List Nat) (e : E) : exS (.asgT is e) env = (evV env e).out env fun d => match d with
    | .tuple ds => (bindT env is ds).out env .nx
    | _ => .bad := rfl
@[simp] theorem exS_new (i : Nat) (e : E) : exS (.new i e) env = (evE env e).out env fun d => match d with
    | .list xs => .nx (env.set i (.own xs))
    | _ => .bad := rfl
@[simp] theorem exS_newd (i : Nat) : exS (.newd i) env = .nx (env.set i (.dct [])) := rfl
@[simp] theorem exS_drop (e : E) : exS (.drop e) env = (evR env e).out env fun _ => .nx env := rfl
@[simp] theorem exS_ret (e : E) : exS (.ret e) env = (evR env e).out env .ret := rfl
@[simp] theorem exS_rai (c : Nat) : exS (.rai c) env = .exc c env := rfl
@[simp] theorem exS_tryk (b : S) (c k n : Nat) : exS (.tryk b c k n) env = match exS b env with
    | .exc c' env' => match decide (c' < 5), below c' c with
      | true, true => .nx ((env'.set k (.dat (exn c'))).set n .none)
      | true, false => .exc c' env'
      | false, _ => .bad
    | o => o := rfl
@[simp] theorem exS_brk : exS .brk env = .brk env := rfl
@[simp] theorem exS_ifs (c : E) (a b : S) : exS (.ifs c a b) env = (evB env c).out env fun k => match k with
    | true => exS a env
    | false => exS b env := rfl
@[simp] theorem exS_forr (t : Tg) (it : E) (b : S) : exS (.forr t it b) env = (evI env it).out env fun ds => forGo (fun d env => (t.run env d).out env (exS b)) ds env := rfl
@[simp] theorem exS_whil (n : Nat) (c : E) (b : S) : exS (.whil n c b) env = whGo (fun env => evB env c) (exS b) n env := rfl
theorem exS_seta {i : Nat} {x : Str} {e : E} {t c : Nat} {fs : List (Str × Fl)} {d : D} (h : env.get i = .ins t c fs) (he : evV env e = .ok d) (hl : fs.length < 900) : exS (.seta i x e) env = .nx (env.set i (.ins t c (fput x (.dat d) fs))) := by
  show (match env.get i with
    | .ins t c fs => (evV env e).out env fun d => match decide (fs.length < 900) with
      | true => Out.nx (env.set i (.ins t c (fput x (.dat d) fs)))
      | false => .bad
    | _ => .bad) = _
  rw [h, he]
  dsimp only [out_ok]
  rw [decide_eq_true hl]
@[simp] theorem exS_newn (i : Nat) : exS (.newn i) env = .nx (env.set i (.dcn [])) := rfl
theorem exS_newk {i : Nat} {k e : E} {x d : D} (hk : evV env k = .ok x) (he : evV env e = .ok d) (hi : isKey x = true) : exS (.newk i k e) env = .nx (env.set i (.dcn [(x, d)])) := by
  show ((evV env k).out env fun x => (evV env e).out env fun d => match isKey x with
    | true => Out.nx (env.set i (.dcn [(x, d)]))
    | false => .bad) = _
  rw [hk, he]
  dsimp only [out_ok]
  rw [hi]
theorem exS_setn {i : Nat} {k e : E} {kvs : List (D × D)} {x d : D} (h : env.get i = .dcn kvs) (he : evV env e = .ok d) (hk : evV env k = .ok x) (hi : isKey x = true) (hl : kvs.length < lim) : exS (.setn i k e) env = .nx (env.set i (.dcn (nput kvs x d))) := by
  show (match env.get i with
    | .dcn kvs => (evV env e).out env fun d => (evV env k).out env fun y => match isKey y && decide (kvs.length < lim) with
      | true => Out.nx (env.set i (.dcn (nput kvs y d)))
      | false => .bad
    | _ => .bad) = _
  rw [h, he, hk]
  dsimp only [out_ok]
  rw [hi, decide_eq_true hl]
  rfl
theorem exS_newr {i t : Nat} {own : List Nat} {it : E} {ds : List D} (h : evI env it = .ok ds) (hl : ds.length ≤ 1000) : exS (.newr i own t it) env = .nx (env.set i (.rws (List.replicate ds.length []))) := by
  show ((evI env it).out env fun ds => match decide (ds.length ≤ 1000) with
    | true => Out.nx (env.set i (.rws (List.replicate ds.length [])))
    | false => .bad) = _
  rw [h]
  dsimp only [out_ok]
  rw [decide_eq_true hl]
theorem exS_appr {i : Nat} {k e : E} {xss : List (List D)} {j : Int} {d : D} (h : env.get i = .rws xss) (hk : evE env k = .ok (.int j)) (h0 : 0 ≤ j) (h1 : j < xss.length) (he : evE env e = .ok d) (hl : (xss.getD j.toNat []).length < lim) : exS (.appr i k e) env = .nx (env.set i (.rws (xss.set j.toNat (xss.getD j.toNat [] ++ [d])))) := by
  show (match env.get i with
    | .rws xss => (evE env k).out env fun y => match y with
      | .int j => match decide (0 ≤ j) && decide (j < xss.length) with
        | true => (evE env e).out env fun d => match decide ((xss.getD j.toNat []).length < lim) with
          | true => Out.nx (env.set i (.rws (xss.set j.toNat (xss.getD j.toNat [] ++ [d]))))
          | false => .bad
        | false => .bad
      | _ => .bad
    | _ => .bad) = _
  rw [h, hk]
  dsimp only [out_ok]
  rw [decide_eq_true h0, decide_eq_true h1]
  rw [he, out_ok]
  rw [decide_eq_true hl]
  rfl
theorem exS_forp {t : Tg} {j k : Nat} {m : Str} {f : List D → Res D} {a : E} {b : S} {xs ds : List D} {d o : D} (h : env.get j = .own xs) (hd : xs.getLast? = some d) (ho : evE env a = .ok o) (hm : isObj m o = true) (hf : f [o, d] = .ok (.list ds)) :
    exS (.forp t j k m f a b) env = forGo (fun d env => (t.run env d).out env (exS b)) ds (env.set j (.own xs.dropLast)) := by
  show (match env.get j with
    | .own xs => match xs.getLast? with
      | some d => (evE env a).out env fun o => match isObj m o with
        | true => (f [o, d]).out (env.set j (.own xs.dropLast)) fun l => match l with
          | .list ds => forGo (fun d env => (t.run env d).out env (exS b)) ds (env.set j (.own xs.dropLast))
          | _ => .bad
        | false => .bad
      | none => .bad
    | _ => .bad) = _
  rw [h]
  dsimp only
  rw [hd]
  dsimp only
  rw [ho, out_ok, hm]
  dsimp only
  rw [hf, out_ok]
theorem exS_app {i : Nat} {e : E} {xs : List D} {d : D} (h : env.get i = .own xs) (he : evV env e = .ok d) (hl : xs.length < lim) : exS (.app i e) env = .nx (env.set i (.own (xs ++ [d]))) := by
  show (match env.get i with
    | .own xs => (evV env e).out env fun d => match decide (xs.length < lim) with
      | true => Out.nx (env.set i (.own (xs ++ [d])))
      | false => .bad
    | _ => .bad) = _
  rw [h, he]
  dsimp only [out_ok]
  rw [decide_eq_true hl]
theorem exS_ext {i : Nat} {e : E} {xs ys : List D} (h : env.get i = .own xs) (he : evV env e = .ok (.list ys)) (hl : xs.length + ys.length < lim) : exS (.ext i e) env = .nx (env.set i (.own (xs ++ ys))) := by
  show (match env.get i with
    | .own xs => (evV env e).out env fun d => match d with
      | .list ys => match decide (xs.length + ys.length < lim) with
        | true => Out.nx (env.set i (.own (xs ++ ys)))
        | false => .bad
      | _ => .bad
    | _ => .bad) = _
  rw [h, he]
  dsimp only [out_ok]
  rw [decide_eq_true hl]
theorem exS_seti {i : Nat} {k e : E} {xs : List D} {d : D} {j : Int} (h : env.get i = .own xs) (he : evV env e = .ok d) (hk : evV env k = .ok (.int j)) (h0 : 0 ≤ j) (h1 : j < xs.length) : exS (.seti i k e) env = .nx (env.set i (.own (xs.set j.toNat d))) := by
  show (match env.get i with
    | .own xs => (evV env e).out env fun d => (evV env k).out env fun y => match y with
      | .int j => match decide (0 ≤ j) && decide (j < xs.length) with
        | true => Out.nx (env.set i (.own (xs.set j.toNat d)))
        | false => .bad
      | _ => .bad
    | _ => .bad) = _
  rw [h, he, hk]
  dsimp only [out_ok]
  rw [decide_eq_true h0, decide_eq_true h1]
  rfl
theorem exS_setd {i : Nat} {k e : E} {xs : List (Int × D)} {d : D} {j : Int} (h : env.get i = .dct xs) (he : evV env e = .ok d) (hk : evV env k = .ok (.int j)) (hl : xs.length < lim) : exS (.setd i k e) env = .nx (env.set i (.dct (kput xs j d))) := by
  show (match env.get i with
    | .dct kvs => (evV env e).out env fun d => (evV env k).out env fun y => match y with
      | .int j => match decide (kvs.length < lim) with
        | true => Out.nx (env.set i (.dct (kput kvs j d)))
        | false => .bad
      | _ => .bad
    | _ => .bad) = _
  rw [h, he, hk]
  dsimp only [out_ok]
  rw [decide_eq_true hl]
end
theorem exS_appPop {env : Env} {i j : Nat} {e : E} {xs ys : List D} {k : Int} (h : env.get i = .own xs) (h2 : env.get j = .own ys) (he : evV env e = .ok (.int k)) (h0 : 0 ≤ k) (h1 : k < ys.length) (hx : xs.length < lim) (hy : ys.length < lim) (hij : (i != j) = true) :
    exS (.appPop i j e) env = .nx ((env.set j (.own (ys.eraseIdx k.toNat))).set i (.own (xs ++ [ys.getD k.toNat .none]))) := by
  show (match env.get i, env.get j with
    | .own xs, .own ys => (evV env e).out env fun y => match y with
      | .int k => match decide (0 ≤ k) && decide (k < ys.length) && decide (xs.length < lim) && decide (ys.length < lim) && (i != j) with
        | true => Out.nx ((env.set j (.own (ys.eraseIdx k.toNat))).set i (.own (xs ++ [ys.getD k.toNat .none])))
        | false => .bad
      | _ => .bad
    | _, _ => .bad) = _
  rw [h, h2, he]
  dsimp only [out_ok]
  rw [decide_eq_true h0, decide_eq_true h1, decide_eq_true hx, decide_eq_true hy, hij]
  rfl
@[simp] theorem bi_len (xs : List D) : bi .len [.list xs] = .ok (.int xs.length) := rfl
@[simp] theorem bi_lenT (xs : List D) : bi .len [.tuple xs] = .ok (.int xs.length) := rfl
@[simp] theorem bi_abs (i : Int) : bi .abs [.int i] = .ok (.int (if i < 0 then -i else i)) := rfl
theorem bi_sum (ns : List Int) : bi .sum [.list (ns.map .int)] = .ok (.int ns.sum) := by show (ofO (intL _)).bind _ = _; rw [intL_map]; rfl
theorem bi_sorted (ns : List Int) : bi .sorted [.list (ns.map .int)] = .ok (.list ((srt ns).map .int)) := by show (ofO (intL _)).bind _ = _; rw [intL_map]; rfl
theorem bi_max (n : Int) (ns : List Int) : bi .max [.list ((n :: ns).map .int)] = .ok (.int (ns.foldl max n)) := by show (ofO (intL _)).bind _ = _; rw [intL_map]; rfl
@[simp] theorem bi_list (xs : List D) : bi .list [.list xs] = .ok (.list xs) := rfl
@[simp] theorem bi_intB (k : Bool) : bi .int [.bool k] = .ok (.int (if k then 1 else 0)) := rfl
theorem exS_asgT_ok {env env' : Env} {is : List Nat} {e : E} {ds : List D} (h : evV env e = .ok (.tuple ds)) (hb : bindT env is ds = .ok env') : exS (.asgT is e) env = .nx env' := by
  rw [exS_asgT, h, out_ok]
  dsimp only
  rw [hb]
  rfl
theorem rng1_okN {env : Env} {a : E} {n : Int} (ha : evN env a = .ok n) (h0 : -1000000 ≤ n) (h1 : n ≤ 1000000) : evI env (.rng1 a) = .ok (rngD 0 n) := by
  rw [evI_rng1, ha, bind_ok, decide_eq_true h0, decide_eq_true h1]
  rfl
theorem rng2_okN {env : Env} {a b : E} {m n : Int} (ha : evN env a = .ok m) (hb : evN env b = .ok n) (h0 : -1000000 ≤ m) (h1 : m ≤ 1000000) (h2 : -1000000 ≤ n) (h3 : n ≤ 1000000) : evI env (.rng2 a b) = .ok (rngD m n) := by
  rw [evI_rng2, ha, bind_ok, hb, bind_ok, decide_eq_true h0, decide_eq_true h1, decide_eq_true h2, decide_eq_true h3]
  rfl
theorem rng1_ok {env : Env} {a : E} {n : Int} (ha : evE env a = .ok (.int n)) (h0 : -1000000 ≤ n) (h1 : n ≤ 1000000) : evI env (.rng1 a) = .ok (rngD 0 n) := rng1_okN (evN_ok ha) h0 h1
theorem rng2_ok {env : Env} {a b : E} {m n : Int} (ha : evE env a = .ok (.int m)) (hb : evE env b = .ok (.int n)) (h0 : -1000000 ≤ m) (h1 : m ≤ 1000000) (h2 : -1000000 ≤ n) (h3 : n ≤ 1000000) : evI env (.rng2 a b) = .ok (rngD m n) := rng2_okN (evN_ok ha) (evN_ok hb) h0 h1 h2 h3
/-! ### lists -/
theorem lcRun_map {α : Type} {f : D → Res (Option D)} {g : α → D} {h : α → D} : ∀ {l : List α}, (∀ x ∈ l, f (g x) = .ok (some (h x))) → lcRun f (l.map g) = .ok (l.map h)
  | [], _ => rfl
  | x :: r, q => by
    have e := q x List.mem_cons_self
    have ih := lcRun_map (l := r) fun y hy => q y (List.mem_cons_of_mem _ hy)
    show (f (g x)).bind (fun o => (lcRun f (r.map g)).bind fun ds => .ok (o.toList ++ ds)) = _
    rw [e, ih]
    rfl
theorem lcRun_filter {α : Type} {f : D → Res (Option D)} {g : α → D} {h : α → Option D} : ∀ {l : List α}, (∀ x ∈ l, f (g x) = .ok (h x)) → lcRun f (l.map g) = .ok (l.filterMap h)
  | [], _ => rfl
  | x :: r, q => by
    have e := q x List.mem_cons_self
    have ih := lcRun_filter (l := r) fun y hy => q y (List.mem_cons_of_mem _ hy)
    show (f (g x)).bind (fun o => (lcRun f (r.map g)).bind fun ds => .ok (o.toList ++ ds)) = _
    rw [e, ih, List.filterMap_cons]
    cases h x <;> rfl
theorem forGo_inv {α : Type} {f : D → Env → Out} {g : α → D} (I : List α → Env → Prop) : ∀ {l : List α} {env : Env}, I l env → (∀ x r env, I (x :: r) env → ∃ env', f (g x) env = .nx env' ∧ I r env') → ∃ env', forGo f (l.map g) env = .nx env' ∧ I [] env'
  | [], env, h, _ => ⟨env, rfl, h⟩
  | x :: r, env, h, q => by
    obtain ⟨env1, e1, h1⟩ := q x r env h
    obtain ⟨env2, e2, h2⟩ := forGo_inv I h1 q
    refine ⟨env2, ?_, h2⟩
    show (f (g x) env).turn (forGo f (r.map g)) = _
    rw [e1]
    exact e2
/-- the turns of a range -/
theorem forGo_rng {f : D → Env → Out} {m : Int} (I : Nat → Env → Prop) {n : Nat} {env : Env} (h : I 0 env) (q : ∀ i env, i < n → I i env → ∃ env', f (.int (m + i)) env = .nx env' ∧ I (i + 1) env') : ∃ env', forGo f ((List.range n).map fun (i : Nat) => .int (m + i)) env = .nx env' ∧ I n env' := by
  have aux : ∀ (k j : Nat) (env : Env), j + k = n → I j env → ∃ env', forGo f ((List.range' j k).map fun (i : Nat) => .int (m + i)) env = .nx env' ∧ I n env' := by
    intro k
    induction k with
    | zero =>
      intro j env hj hi
      have : j = n := by omega
      subst this
      exact ⟨env, rfl, hi⟩
    | succ k ih =>
      intro j env hj hi
      obtain ⟨env1, e1, h1⟩ := q j env (by omega) hi
      obtain ⟨env2, e2, h2⟩ := ih (j + 1) env1 (by omega) h1
      refine ⟨env2, ?_, h2⟩
      rw [List.range'_succ, List.map_cons]
      show (f (.int (m + j)) env).turn _ = _
      rw [e1]
      exact e2
  rw [List.range_eq_range']
  exact aux n 0 env (by omega) h
theorem rngD_nat (n : Nat) : rngD 0 (n : Int) = (List.range n).map fun (i : Nat) => .int (0 + i) := by unfold rngD; simp
end Rwl

set_option Elab.async false
set_option linter.all false
set_option maxRecDepth 100000
set_option maxHeartbeats 1000000
namespace Rwl
open PySem
/-! ### the script's numbers -/
def cellZ (ns : List Int) (k : Int) : Int := match ns with
  | [] => 0
  | _ :: _ => (ns[(k % (ns.length : Int)).toNat]?).getD 0
theorem tru_scr (ns : List Int) : tru (scr ns) = .ok (!ns.isEmpty) := by simp [tru, scr, scrOf]
theorem len_scr (ns : List Int) : bi .len [scr ns] = .ok (.int ns.length) := by simp [bi, scr, scrOf]
theorem ix_scr (ns : List Int) (i : Int) : ixD (scr ns) (.int i) = ofO (pix (ns.map .int) i) := by simp [ixD, scr, scrOf]
theorem cell_ok (ns : List Int) (k : Int) : f_law_cell [scr ns, .int k] = .ok (.int (cellZ ns k)) := by
  cases ns with
  | nil => rfl
  | cons n r =>
    have hlt : (0 : Int) < ((n :: r).length : Int) := by simp only [List.length_cons]; omega
    have h0 := Int.emod_nonneg k (Int.ne_of_gt hlt)
    have h1 := Int.emod_lt_of_pos k hlt
    have hp : ofO (pix ((n :: r).map PyData.int) (k % ((n :: r).length : Int))) = Res.ok (PyData.int (cellZ (n :: r) k)) := by
      rw [pix_nn h0, List.getElem?_map, List.getElem?_eq_getElem (by omega)]
      simp only [Option.map_some, ofO_some]
      unfold cellZ
      dsimp only
      rw [List.getElem?_eq_getElem (by omega)]
      rfl
    simp only [List.length_cons, List.map_cons, Int.natCast_add, Int.cast_ofNat_Int] at hp
    simp [f_law_cell, b_law_cell, x0_law_cell, run, tru_scr, len_scr, ix_scr, hp]
def mixZ (ns : List Int) (k : Int) : Int := ((cellZ ns k + 104729 * (k + 1)) % 4294967291 * 48271 % 4294967279 / 64 * 69621 + (cellZ ns k + 104729 * (k + 1)) % 4294967291 * 48271 % 4294967279) % 4294967231
theorem mix_ok (ns : List Int) (k : Int) : f_law_mix [scr ns, .int k] = .ok (.int (mixZ ns k)) := by
  simp [f_law_mix, b_law_mix, x0_law_mix, x1_law_mix, x2_law_mix, run, cell_ok, mulD, near64, mixZ]
theorem mix_nn (ns : List Int) (k : Int) : 0 ≤ mixZ ns k := by unfold mixZ; omega
end Rwl

set_option Elab.async false
set_option linter.all false
set_option maxRecDepth 100000
set_option maxHeartbeats 1000000
namespace Rwl
open PySem
/-! ### a web -/
abbrev Tie := Int × Int × Int
def tieD (t : Tie) : D := .tuple [.int t.1, .int t.2.1, .int t.2.2]
def Tie.lt (s t : Tie) : Prop := s.1 < t.1 ∨ (s.1 = t.1 ∧ s.2.1 < t.2.1)
structure Ties (m : Int) (ts : List Tie) : Prop where
  each : ∀ t ∈ ts, 0 ≤ t.1 ∧ t.1 < t.2.1 ∧ t.2.1 < m ∧ 1 ≤ t.2.2 ∧ t.2.2 ≤ 100
  up : ts.Pairwise Tie.lt
def wtZ (n : Int) : Int := match (n / 64 % 6).toNat with
  | 0 => 1
  | 1 => 1
  | 2 => 2
  | 3 => 3
  | 4 => 7
  | _ => 100
theorem wt_ok (n : Int) : ixD (.list [.int 1, .int 1, .int 2, .int 3, .int 7, .int 100]) (.int (n / 64 % 6)) = .ok (.int (wtZ n)) := by
  have h0 : 0 ≤ n / 64 % 6 := by omega
  have h1 : n / 64 % 6 < 6 := by omega
  show ofO (pix _ _) = _
  rw [pix_nn h0]
  unfold wtZ
  have hr : (n / 64 % 6).toNat < 6 := by omega
  generalize (n / 64 % 6).toNat = r at *
  match r, hr with
  | 0, _ => rfl
  | 1, _ => rfl
  | 2, _ => rfl
  | 3, _ => rfl
  | 4, _ => rfl
  | 5, _ => rfl
theorem wt_rng (n : Int) : 1 ≤ wtZ n ∧ wtZ n ≤ 100 := by
  unfold wtZ
  split <;> omega
/-- the frame of _law_web -/
def envW (ns : List Int) (k p m dn : Int) (xs : List D) (s6 s7 s8 : Slot) : Env := [.dat (scr ns), .dat (.int k), .dat (.int p), .dat (.int m), .dat (.int dn), .own xs, s6, s7, s8]
theorem in_turn (ns : List Int) (k p m dn a b : Int) (xs : List D) (s7 s8 : Slot) (hx : xs.length < lim) :
    ∃ xs' s8', exS l5_law_web (envW ns k p m dn xs (.dat (.int a)) (.dat (.int b)) s8) = .nx (envW ns k p m dn xs' (.dat (.int a)) (.dat (.int b)) s8') ∧ (xs' = xs ∨ ∃ w, 1 ≤ w ∧ w ≤ 100 ∧ xs' = xs ++ [tieD (a, b, w)]) := by
  have e1 : evV (envW ns k p m dn xs (.dat (.int a)) (.dat (.int b)) s8) x2_law_web = .ok (.int (mixZ ns (k + 2 + 8 * a + b))) :=
    evV_scal (by simp [envW, x2_law_web, mulD, near64, mix_ok]) rfl
  generalize mixZ ns (k + 2 + 8 * a + b) = z at *
  have e2 : evB (envW ns k p m dn xs (.dat (.int a)) (.dat (.int b)) (.dat (.int z))) x3_law_web = .ok (decide (z / 8 % 4 < dn)) :=
    evB_ok (by simp [envW, x3_law_web])
  have e3 : evV (envW ns k p m dn xs (.dat (.int a)) (.dat (.int b)) (.dat (.int z))) x4_law_web = .ok (tieD (a, b, wtZ z)) :=
    evV_both (by simp [envW, x4_law_web, lim, wt_ok, tieD]) (by simp [envW, x4_law_web, lim, wt_ok, tieD])
  have e4 := exS_app (i := 5) (env := envW ns k p m dn xs (.dat (.int a)) (.dat (.int b)) (.dat (.int z))) rfl e3 hx
  show ∃ xs' s8', ((evV (envW ns k p m dn xs (.dat (.int a)) (.dat (.int b)) s8) x2_law_web).out (envW ns k p m dn xs (.dat (.int a)) (.dat (.int b)) s8) fun d => Out.nx ((envW ns k p m dn xs (.dat (.int a)) (.dat (.int b)) s8).set 8 (.dat d))).seq (exS (.cons (.ifs x3_law_web (.cons (.app 5 x4_law_web) .nil) (.nil)) .nil)) = _ ∧ _
  rw [e1]
  show ∃ xs' s8', ((evB (envW ns k p m dn xs (.dat (.int a)) (.dat (.int b)) (.dat (.int z))) x3_law_web).out _ _).seq _ = _ ∧ _
  rw [e2]
  cases decide (z / 8 % 4 < dn) with
  | false => exact ⟨xs, _, rfl, .inl rfl⟩
  | true =>
    refine ⟨xs ++ [tieD (a, b, wtZ z)], .dat (.int z), ?_, .inr ⟨_, (wt_rng z).1, (wt_rng z).2, rfl⟩⟩
    show ((exS (.app 5 x4_law_web) (envW ns k p m dn xs (.dat (.int a)) (.dat (.int b)) (.dat (.int z)))).seq (exS .nil)).seq (exS .nil) = _
    rw [e4]
    rfl
theorem lt_append {ts : List Tie} {t : Tie} (h : ts.Pairwise Tie.lt) (hb : ∀ s ∈ ts, Tie.lt s t) : (ts ++ [t]).Pairwise Tie.lt :=
  List.pairwise_append.mpr ⟨h, List.pairwise_singleton _ _, fun s hs u hu => by rw [List.mem_singleton.mp hu]; exact hb s hs⟩
/-- ahead of the tie (a, b) -/
def Upto (m a b : Int) (ts : List Tie) : Prop := Ties m ts ∧ ∀ s ∈ ts, s.1 < a ∨ (s.1 = a ∧ s.2.1 < b)
theorem web_ok (ns : List Int) (k p : Int) (hp : 0 ≤ p) (hp8 : p ≤ 8) : ∃ m ts, f_law_web [scr ns, .int k, .int p] = .ok (.tuple [.int m, .list (ts.map tieD)]) ∧ 0 ≤ m ∧ m ≤ p ∧ Ties m ts ∧ ts.length ≤ 100 := by
  have e1 : evV [Slot.dat (scr ns), .dat (.int k), .dat (.int p), .none, .none, .none, .none, .none, .none] x0_law_web = .ok (.int (mixZ ns k % (p + 1))) := by
    have := mod_int (m := mixZ ns k) (n := p + 1) (decide_eq_true (by omega))
    simp [x0_law_web, mix_ok, this]
  have hm0 : 0 ≤ mixZ ns k % (p + 1) := Int.emod_nonneg _ (by omega)
  have hm1 : mixZ ns k % (p + 1) < p + 1 := Int.emod_lt_of_pos _ (by omega)
  generalize mixZ ns k % (p + 1) = m at *
  obtain ⟨n, rfl⟩ : ∃ n : Nat, m = n := ⟨m.toNat, by omega⟩
  have hn : n ≤ 8 := by omega
  have e2 : evV [Slot.dat (scr ns), .dat (.int k), .dat (.int p), .dat (.int n), .none, .none, .none, .none, .none] x1_law_web = .ok (.int (1 + mixZ ns (k + 1) % 4)) := by
    simp [x1_law_web, mix_ok]
  generalize 1 + mixZ ns (k + 1) % 4 = dn at *
  -- the loop
  have inner : ∀ (i : Nat) (xs : List Tie) (s6 s7 s8 : Slot), i < n → Upto n i 0 xs → xs.length ≤ 8 * i → ∃ xs' s6' s7' s8', exS l6_law_web (envW ns k p n dn (xs.map tieD) (.dat (.int (0 + i))) s7 s8) = .nx (envW ns k p n dn (xs'.map tieD) s6' s7' s8') ∧ Upto n (i + 1) 0 xs' ∧ xs'.length ≤ 8 * (i + 1) := by
    intro i xs s6 s7 s8 hi hu hl
    have hr : evI (envW ns k p n dn (xs.map tieD) (.dat (.int (0 + i))) s7 s8) (.rng2 (.bin .add (.var 6) (.int 1)) (.var 3)) = .ok (rngD (0 + i + 1) n) :=
      rng2_ok rfl rfl (by omega) (by omega) (by omega) (by omega)
    obtain ⟨env', h1, xs', s7', s8', rfl, h2, h3⟩ := forGo_rng (f := fun d env => ((⟨false, [7]⟩ : Tg).run env d).out env (exS l5_law_web)) (m := 0 + (i : Int) + 1) (n := ((n : Int) - (0 + i + 1)).toNat)
      (I := fun j env => ∃ xs' s7' s8', env = envW ns k p n dn (xs'.map tieD) (.dat (.int (0 + i))) s7' s8' ∧ Upto n i (i + 1 + j) xs' ∧ xs'.length ≤ 8 * i + j)
      ⟨xs, s7, s8, rfl, ⟨hu.1, fun s hs => by rcases hu.2 s hs with h | ⟨h, h'⟩; exact .inl h; have := hu.1.each s hs; omega⟩, hl⟩
      (fun j env hj ⟨xs', s7', s8', he, hu', hl'⟩ => by
        subst he
        obtain ⟨ys, s8n, h1, h2⟩ := in_turn ns k p n dn (0 + i) (0 + i + 1 + j) (xs'.map tieD) s7' s8' (by rw [List.length_map]; unfold lim; omega)
        rcases h2 with rfl | ⟨w, w1, w2, rfl⟩
        · exact ⟨_, h1, xs', _, _, rfl, ⟨hu'.1, fun s hs => by rcases hu'.2 s hs with h | ⟨h, h'⟩; exact .inl h; exact .inr ⟨h, by omega⟩⟩, by omega⟩
        · refine ⟨_, h1, xs' ++ [(0 + (i : Int), 0 + (i : Int) + 1 + j, w)], _, _, by rw [List.map_append]; rfl, ⟨⟨fun s hs => ?_, lt_append hu'.1.up fun s hs => ?_⟩, fun s hs => ?_⟩, by rw [List.length_append, List.length_singleton]; omega⟩
          · rcases List.mem_append.mp hs with hs | hs
            · exact hu'.1.each s hs
            · rw [List.mem_singleton.mp hs]
              dsimp only
              omega
          · rcases hu'.2 s hs with h | ⟨h, h'⟩
            · exact .inl (by dsimp only; omega)
            · exact .inr ⟨by dsimp only; omega, by dsimp only; omega⟩
          · rcases List.mem_append.mp hs with hs | hs
            · rcases hu'.2 s hs with h | ⟨h, h'⟩
              · exact .inl h
              · exact .inr ⟨h, by omega⟩
            · rw [List.mem_singleton.mp hs]
              exact .inr ⟨by dsimp only; omega, by dsimp only; omega⟩)
    refine ⟨xs', .dat (.int (0 + i)), s7', s8', ?_, ⟨h2.1, fun s hs => ?_⟩, by omega⟩
    · show ((evI (envW ns k p n dn (xs.map tieD) (.dat (.int (0 + i))) s7 s8) (.rng2 (.bin .add (.var 6) (.int 1)) (.var 3))).out _ _).seq _ = _
      rw [hr]
      show (forGo _ (rngD (0 + i + 1) n) _).seq _ = _
      unfold rngD
      rw [h1]
      rfl
    · rcases h2.2 s hs with h | ⟨h, h'⟩ <;> exact .inl (by omega)
  obtain ⟨env', h1, xs', s6', s7', s8', rfl, h2, h3⟩ := forGo_rng (f := fun d env => ((⟨false, [6]⟩ : Tg).run env d).out env (exS l6_law_web)) (m := 0) (n := n) (env := envW ns k p n dn [] .none .none .none)
    (I := fun i env => ∃ xs' s6' s7' s8', env = envW ns k p n dn (xs'.map tieD) s6' s7' s8' ∧ Upto n i 0 xs' ∧ xs'.length ≤ 8 * i)
    ⟨[], .none, .none, .none, rfl, ⟨⟨fun _ h => absurd h (by simp), .nil⟩, fun _ h => absurd h (by simp)⟩, by simp⟩
    (fun i env hi ⟨xs', s6', s7', s8', he, hu', hl'⟩ => by
      subst he
      obtain ⟨ys, t6, t7, t8, q1, q2, q3⟩ := inner i xs' s6' s7' s8' hi hu' hl'
      refine ⟨envW ns k p n dn (ys.map tieD) t6 t7 t8, ?_, ys, t6, t7, t8, rfl, ⟨q2.1, fun s hs => ?_⟩, q3⟩
      · rw [tg_one, out_ok]
        exact q1
      · have := q2.2 s hs
        omega)
  have hr : evI (envW ns k p n dn [] .none .none .none) (.rng1 (.var 3)) = .ok (rngD 0 n) := rng1_ok rfl (by omega) (by omega)
  have hret : evR (envW ns k p n dn (xs'.map tieD) s6' s7' s8') x7_law_web = .ok (.tuple [.int n, .list (xs'.map tieD)]) := evR_ok (by simp [envW, x7_law_web, lim])
  refine ⟨n, xs', ?_, by omega, by omega, h2.1, by omega⟩
  have go : exS b_law_web [Slot.dat (scr ns), .dat (.int k), .dat (.int p), .none, .none, .none, .none, .none, .none] = .ret (.tuple [.int n, .list (xs'.map tieD)]) := by
    unfold b_law_web
    rw [exS_cons, exS_asg, e1, out_ok, seq_nx, exS_cons, exS_asg]
    rw [show ([Slot.dat (scr ns), .dat (.int k), .dat (.int p), .none, .none, .none, .none, .none, .none] : Env).set 3 (.dat (.int n)) = [Slot.dat (scr ns), .dat (.int k), .dat (.int p), .dat (.int n), .none, .none, .none, .none, .none] from rfl, e2, out_ok, seq_nx, exS_cons]
    rw [show (exS (.new 5 (.lst .nil)) (([Slot.dat (scr ns), .dat (.int k), .dat (.int p), .dat (.int n), .none, .none, .none, .none, .none] : Env).set 4 (.dat (.int dn)))) = .nx (envW ns k p n dn [] .none .none .none) from rfl, seq_nx, exS_cons, exS_forr, hr, out_ok]
    rw [rngD_nat, h1, seq_nx, exS_cons, exS_ret, hret]
    rfl
  show run 3 9 b_law_web _ = _
  unfold run
  show (match exS b_law_web [Slot.dat (scr ns), .dat (.int k), .dat (.int p), .none, .none, .none, .none, .none, .none] with
    | .ret d => Res.ok d
    | .nx _ => .ok .none
    | .exc c _ => .exc c
    | .retf xs => .ok (.list xs)
    | .retm d _ => .ok d
    | _ => .bad) = _
  rw [go]
end Rwl

set_option Elab.async false
set_option linter.all false
set_option maxRecDepth 100000
set_option maxHeartbeats 1000000
namespace Rwl
open PySem
/-! ### an order -/
def rngZ (n : Nat) : List Int := (List.range n).map fun (i : Nat) => (i : Int)
theorem rngD_Z (n : Nat) : rngD 0 (n : Int) = (rngZ n).map .int := by
  rw [rngD_nat]
  unfold rngZ
  rw [List.map_map]
  apply List.map_congr_left
  intro i _
  show PyData.int (0 + (i : Int)) = .int (i : Int)
  rw [Int.zero_add]
def envO (ns : List Int) (k m : Int) (ls fs : List Int) : Env := [.dat (scr ns), .dat (.int k), .dat (.int m), .own (ls.map .int), .own (fs.map .int)]
theorem eraseIdx_map {α β : Type} (f : α → β) : ∀ (l : List α) (i : Nat), (l.map f).eraseIdx i = (l.eraseIdx i).map f
  | [], _ => rfl
  | _ :: _, 0 => rfl
  | x :: r, i + 1 => by
    show f x :: (r.map f).eraseIdx i = f x :: (r.eraseIdx i).map f
    rw [eraseIdx_map f r i]
theorem perm_erase {l : List Int} {i : Nat} (h : i < l.length) : (l[i] :: l.eraseIdx i).Perm l := by
  induction l generalizing i with
  | nil => cases h
  | cons x r ih =>
    cases i with
    | zero => exact .refl _
    | succ i =>
      have h' : i < r.length := by simpa using h
      show (r[i] :: x :: r.eraseIdx i).Perm (x :: r)
      exact (List.Perm.swap x r[i] _).trans ((ih h').cons x)
theorem ord_loop (ns : List Int) (k m : Int) : ∀ (fuel : Nat) (ls fs : List Int), ls.length < fuel → ls.length + fs.length ≤ 100 → ∃ os, whGo (fun env => evB env (.var 3)) (exS l1_law_order) fuel (envO ns k m ls fs) = .nx (envO ns k m [] os) ∧ os.Perm (ls ++ fs)
  | 0, _, _, h, _ => absurd h (by omega)
  | fuel + 1, [], fs, _, _ => ⟨fs, rfl, .refl _⟩
  | fuel + 1, x :: r, fs, h, hl => by
    have hlt : (0 : Int) < ((x :: r).length : Int) := by simp only [List.length_cons]; omega
    have h0 := Int.emod_nonneg (mixZ ns (k + fs.length)) (Int.ne_of_gt hlt)
    have h1 := Int.emod_lt_of_pos (mixZ ns (k + fs.length)) hlt
    have he : evV (envO ns k m (x :: r) fs) x0_law_order = .ok (.int (mixZ ns (k + fs.length) % ((x :: r).length : Int))) := by
      have hm : modD (.int (mixZ ns (k + fs.length))) (.int ((r.length : Int) + 1)) = .ok (.int (mixZ ns (k + fs.length) % ((r.length : Int) + 1))) := mod_int (decide_eq_true (by omega))
      refine evV_scal ?_ rfl
      simp [envO, x0_law_order, mix_ok, hm]
    generalize mixZ ns (k + fs.length) % ((x :: r).length : Int) = z at *
    have hz : z.toNat < (x :: r).length := by omega
    have e := exS_appPop (i := 4) (j := 3) (env := envO ns k m (x :: r) fs) (e := x0_law_order) rfl rfl he h0 (by rw [List.length_map]; exact h1) (by rw [List.length_map]; unfold lim; omega) (by rw [List.length_map]; unfold lim; omega) rfl
    have hg : ((x :: r).map PyData.int).getD z.toNat .none = .int ((x :: r)[z.toNat]) := by
      rw [List.getD_eq_getElem?_getD, List.getElem?_map, List.getElem?_eq_getElem hz]
      rfl
    rw [hg, eraseIdx_map] at e
    have e' : exS (.appPop 4 3 x0_law_order) (envO ns k m (x :: r) fs) = .nx (envO ns k m ((x :: r).eraseIdx z.toNat) (fs ++ [(x :: r)[z.toNat]])) := by
      rw [e]
      show Out.nx [_, _, _, _, Slot.own (fs.map .int ++ [.int ((x :: r)[z.toNat])])] = Out.nx [_, _, _, _, Slot.own ((fs ++ [(x :: r)[z.toNat]]).map .int)]
      rw [List.map_append]
      rfl
    have hel : ((x :: r).eraseIdx z.toNat).length = r.length := by rw [List.length_eraseIdx_of_lt hz]; rfl
    obtain ⟨os, q1, q2⟩ := ord_loop ns k m fuel ((x :: r).eraseIdx z.toNat) (fs ++ [(x :: r)[z.toNat]]) (by rw [hel]; simp only [List.length_cons] at h; omega) (by rw [hel, List.length_append, List.length_singleton]; simp only [List.length_cons] at hl; omega)
    refine ⟨os, ?_, q2.trans ?_⟩
    · show ((Res.ok true).out _ fun k => _) = _
      show ((exS (.appPop 4 3 x0_law_order) (envO ns k m (x :: r) fs)).seq (exS .nil)).turn _ = _
      rw [e']
      exact q1
    · rw [← List.append_assoc]
      refine (List.perm_append_singleton _ _).trans ?_
      rw [← List.cons_append]
      exact (perm_erase hz).append_right fs
theorem order_ok (ns : List Int) (k : Int) (n : Nat) (hn : n ≤ 8) : ∃ os : List Int, f_law_order [scr ns, .int k, .int n] = .ok (.list (os.map .int)) ∧ os.Perm (rngZ n) := by
  have hlen : (rngZ n).length = n := by simp [rngZ]
  obtain ⟨os, q1, q2⟩ := ord_loop ns k n 100 (rngZ n) [] (by omega) (by simp only [List.length_nil]; omega)
  rw [List.append_nil] at q2
  refine ⟨os, ?_, q2⟩
  have hl : evE [Slot.dat (scr ns), .dat (.int k), .dat (.int n), .none, .none] (.lrg (.var 2)) = .ok (.list ((rngZ n).map .int)) := by
    rw [evE_lrg, ← rngD_Z]
    show req (decide (0 ≤ (n : Int)) && decide ((n : Int) ≤ 100000)) _ = _
    rw [decide_eq_true (by omega : 0 ≤ (n : Int)), decide_eq_true (by omega : (n : Int) ≤ 100000)]
    rfl
  have hr : evR (envO ns k n [] os) (.var 4) = .ok (.list (os.map .int)) := evR_ok rfl
  have go : exS b_law_order [Slot.dat (scr ns), .dat (.int k), .dat (.int n), .none, .none] = .ret (.list (os.map .int)) := by
    unfold b_law_order
    rw [exS_cons, exS_new, hl, out_ok]
    dsimp only
    rw [seq_nx, exS_cons]
    rw [show exS (.new 4 (.lst .nil)) (([Slot.dat (scr ns), .dat (.int k), .dat (.int n), .none, .none] : Env).set 3 (.own ((rngZ n).map .int))) = .nx (envO ns k n (rngZ n) []) from rfl, seq_nx, exS_cons, exS_whil, q1, seq_nx, exS_cons, exS_ret, hr]
    rfl
  show run 3 5 b_law_order _ = _
  unfold run
  show (match exS b_law_order [Slot.dat (scr ns), .dat (.int k), .dat (.int n), .none, .none] with
    | .ret d => Res.ok d
    | .nx _ => .ok .none
    | .exc c _ => .exc c
    | .retf xs => .ok (.list xs)
    | .retm d _ => .ok d
    | _ => .bad) = _
  rw [go]
end Rwl

set_option Elab.async false
set_option linter.all false
set_option maxRecDepth 100000
set_option maxHeartbeats 1000000
namespace Rwl
open PySem
/-! ### look_web -/
def webD (m : Int) (xs : List D) : D := .tuple [.int m, .list xs]
def envL (m : Int) (xs : List D) (s : Slot) : Env := [.dat (webD m xs), .dat (.int m), .dat (.list xs), s]
theorem slt (a b w : Int) : slD none (some 2) (.tuple [.int a, .int b, .int w]) = .ok (.tuple [.int a, .int b]) := rfl
theorem ltT (a b c d : Int) : ltD (.tuple [.int a, .int b]) (.tuple [.int c, .int d]) = .ok (decide (a < c) || (decide (a = c) && decide (b < d))) := by
  show Res.ok (lexLt [a, b] [c, d]) = _
  congr 1
  unfold lexLt
  by_cases h : a = c
  · subst h
    rw [if_pos rfl]
    unfold lexLt
    by_cases h2 : b = d
    · subst h2
      rw [if_pos rfl]
      simp [lexLt]
    · rw [if_neg h2]
      simp
  · rw [if_neg h]
    simp [h]
theorem ix3 (a b w : Int) : ixD (tieD (a, b, w)) (.int 0) = .ok (.int a) ∧ ixD (tieD (a, b, w)) (.int 1) = .ok (.int b) ∧ ixD (tieD (a, b, w)) (.int 2) = .ok (.int w) := ⟨rfl, rfl, rfl⟩
/-- a tie by itself -/
def tie1 (m : Int) (t : Tie) : Bool := decide (0 ≤ t.1) && decide (t.1 < t.2.1) && decide (t.2.1 < m) && decide (1 ≤ t.2.2) && decide (t.2.2 ≤ 100)
theorem x1_tie {m : Int} {xs : List D} {k : Int} {t : Tie} (h : ixD (.list xs) (.int k) = .ok (tieD t)) : evB (envL m xs (.dat (.int k))) x1_look_web = .ok (!tie1 m t) := by
  obtain ⟨a, b, w⟩ := t
  obtain ⟨i0, i1, i2⟩ := ix3 a b w
  have hb : bi .len [tieD (a, b, w)] = .ok (.int 3) := rfl
  rw [evB_plain rfl]
  simp [envL, x1_look_web, h, hb, i0, i1, i2, eqD, dep, PyData.eqv, tie1]
  by_cases h0 : 0 ≤ a <;> by_cases h1 : a < b <;> by_cases h2 : b < m <;> by_cases h3 : 1 ≤ w <;> by_cases h4 : w ≤ 100 <;> simp [h0, h1, h2, h3, h4]
theorem x1_pair {m : Int} {xs : List D} {k : Int} {a b : Int} (h : ixD (.list xs) (.int k) = .ok (.tuple [.int a, .int b])) : evB (envL m xs (.dat (.int k))) x1_look_web = .ok true := by
  rw [evB_plain rfl]
  simp [envL, x1_look_web, h, eqD, dep, PyData.eqv]
def ltB (s t : Tie) : Bool := decide (s.1 < t.1) || (decide (s.1 = t.1) && decide (s.2.1 < t.2.1))
theorem x2_zero {m : Int} {xs : List D} : evB (envL m xs (.dat (.int 0))) x2_look_web = .ok false := by
  rw [evB_plain rfl]
  simp [envL, x2_look_web]
theorem x2_tie {m : Int} {xs : List D} {k : Int} {s t : Tie} (hk : 0 < k) (h0 : ixD (.list xs) (.int (k - 1)) = .ok (tieD s)) (h : ixD (.list xs) (.int k) = .ok (tieD t)) : evB (envL m xs (.dat (.int k))) x2_look_web = .ok (!ltB s t) := by
  obtain ⟨a, b, w⟩ := t
  obtain ⟨a', b', w'⟩ := s
  have e1 : slD none (some 2) (tieD (a, b, w)) = .ok (.tuple [.int a, .int b]) := rfl
  have e2 : slD none (some 2) (tieD (a', b', w')) = .ok (.tuple [.int a', .int b']) := rfl
  rw [evB_plain rfl]
  simp [envL, x2_look_web, h, h0, hk, e1, e2, ltT, ltB]
theorem l3_run {m : Int} {xs : List D} {k : Int} {b1 b2 : Bool} (h1 : evB (envL m xs (.dat (.int k))) x1_look_web = .ok b1) (h2 : b1 = false → evB (envL m xs (.dat (.int k))) x2_look_web = .ok b2) :
    exS l3_look_web (envL m xs (.dat (.int k))) = if b1 = true ∨ b2 = true then .exc 4 (envL m xs (.dat (.int k))) else .nx (envL m xs (.dat (.int k))) := by
  unfold l3_look_web
  rw [exS_cons, exS_ifs, h1, out_ok]
  cases b1 with
  | true => rw [if_pos (.inl rfl)]; rfl
  | false =>
    dsimp only
    rw [exS_nil, seq_nx, exS_cons, exS_ifs, h2 rfl, out_ok]
    cases b2 with
    | true => rw [if_pos (.inr rfl)]; rfl
    | false => rw [if_neg (by simp)]; rfl
end Rwl

set_option Elab.async false
set_option linter.all false
set_option maxRecDepth 100000
set_option maxHeartbeats 1000000
namespace Rwl
open PySem
abbrev loopL (d : D) (env : Env) : Out := ((⟨false, [3]⟩ : Tg).run env d).out env (exS l3_look_web)
theorem loopL_is (m : Int) (xs : List D) (s : Slot) (k : Int) : loopL (.int k) (envL m xs s) = exS l3_look_web (envL m xs (.dat (.int k))) := rfl
theorem go_nx {m : Int} {xs : List D} : ∀ (k j : Nat) (s : Slot), (∀ i, i < j + k → exS l3_look_web (envL m xs (.dat (.int (0 + (i : Nat))))) = .nx (envL m xs (.dat (.int (0 + (i : Nat)))))) → ∃ s', forGo loopL ((List.range' j k).map fun (i : Nat) => .int (0 + i)) (envL m xs s) = .nx (envL m xs s')
  | 0, j, s, _ => ⟨s, rfl⟩
  | k + 1, j, s, h => by
    obtain ⟨s', e⟩ := go_nx k (j + 1) (.dat (.int (0 + (j : Nat)))) fun i hi => h i (by omega)
    refine ⟨s', ?_⟩
    rw [List.range'_succ, List.map_cons]
    show (loopL (.int (0 + (j : Nat))) (envL m xs s)).turn _ = _
    rw [loopL_is, h j (by omega)]
    exact e
theorem go_exc {m : Int} {xs : List D} {b : Nat} {ee : Env} (hb : exS l3_look_web (envL m xs (.dat (.int (0 + (b : Nat))))) = .exc 4 ee) : ∀ (k j : Nat) (s : Slot), j ≤ b → b < j + k → (∀ i, i < b → exS l3_look_web (envL m xs (.dat (.int (0 + (i : Nat))))) = .nx (envL m xs (.dat (.int (0 + (i : Nat)))))) → forGo loopL ((List.range' j k).map fun (i : Nat) => .int (0 + i)) (envL m xs s) = .exc 4 ee
  | 0, j, s, h1, h2, _ => absurd h1 (by omega)
  | k + 1, j, s, h1, h2, h => by
    rw [List.range'_succ, List.map_cons]
    show (loopL (.int (0 + (j : Nat))) (envL m xs s)).turn _ = _
    rw [loopL_is]
    by_cases e : j = b
    · subst e
      rw [hb]
      rfl
    · rw [h j (by omega), turn_nx]
      exact go_exc hb k (j + 1) _ (by omega) (by omega) h
theorem look_run {m : Int} {xs : List D} (hm : 0 ≤ m ∧ m ≤ 8) (hl : xs.length ≤ 1000) : f_look_web [webD m xs] = match forGo loopL ((List.range xs.length).map fun (i : Nat) => .int (0 + i)) (envL m xs .none) with
    | .ret d => .ok d
    | .nx _ => .ok .none
    | .exc c _ => .exc c
    | .retf xs => .ok (.list xs)
    | .retm d _ => .ok d
    | _ => .bad := by
  have e0 : evB (envL m xs .none) x0_look_web = .ok false := by
    rw [evB_plain rfl]
    simp [envL, x0_look_web, hm.1, hm.2]
  have hr : evI (envL m xs .none) (.rng1 (.bi .len (.cons (.var 2) .nil))) = .ok (rngD 0 xs.length) := rng1_ok rfl (by omega) (by omega)
  have go : exS b_look_web [Slot.dat (webD m xs), .none, .none, .none] = (forGo loopL ((List.range xs.length).map fun (i : Nat) => .int (0 + i)) (envL m xs .none)).seq (exS .nil) := by
    unfold b_look_web
    rw [exS_cons]
    rw [show exS (.asgT [1, 2] (.var 0)) [Slot.dat (webD m xs), .none, .none, .none] = .nx (envL m xs .none) from rfl, seq_nx, exS_cons, exS_ifs, e0, out_ok]
    dsimp only
    rw [exS_nil, seq_nx, exS_cons, exS_forr, hr, out_ok, rngD_nat]
  show run 1 4 b_look_web _ = _
  unfold run
  show (match exS b_look_web [Slot.dat (webD m xs), .none, .none, .none] with
    | .ret d => Res.ok d
    | .nx _ => .ok .none
    | .exc c _ => .exc c
    | .retf xs => .ok (.list xs)
    | .retm d _ => .ok d
    | _ => .bad) = _
  rw [go]
  cases forGo loopL ((List.range xs.length).map fun (i : Nat) => .int (0 + i)) (envL m xs .none) <;> rfl
theorem look_m {m : Int} {xs : List D} (hm : ¬ (0 ≤ m ∧ m ≤ 8)) : f_look_web [webD m xs] = .exc 4 := by
  have e0 : evB (envL m xs .none) x0_look_web = .ok true := by
    rw [evB_plain rfl]
    by_cases h0 : 0 ≤ m
    · have h8 : ¬ m ≤ 8 := fun h => hm ⟨h0, h⟩
      simp [envL, x0_look_web, h0, h8]
    · simp [envL, x0_look_web, h0]
  have go : exS b_look_web [Slot.dat (webD m xs), .none, .none, .none] = .exc 4 (envL m xs .none) := by
    unfold b_look_web
    rw [exS_cons]
    rw [show exS (.asgT [1, 2] (.var 0)) [Slot.dat (webD m xs), .none, .none, .none] = .nx (envL m xs .none) from rfl, seq_nx, exS_cons, exS_ifs, e0, out_ok]
    rfl
  show run 1 4 b_look_web _ = _
  unfold run
  show (match exS b_look_web [Slot.dat (webD m xs), .none, .none, .none] with
    | .ret d => Res.ok d
    | .nx _ => .ok .none
    | .exc c _ => .exc c
    | .retf xs => .ok (.list xs)
    | .retm d _ => .ok d
    | _ => .bad) = _
  rw [go]
theorem look_none {m : Int} {xs : List D} (hm : 0 ≤ m ∧ m ≤ 8) (hl : xs.length ≤ 1000) (h : ∀ i, i < xs.length → exS l3_look_web (envL m xs (.dat (.int (0 + (i : Nat))))) = .nx (envL m xs (.dat (.int (0 + (i : Nat)))))) : f_look_web [webD m xs] = .ok .none := by
  rw [look_run hm hl, List.range_eq_range']
  obtain ⟨s', e⟩ := go_nx (m := m) (xs := xs) xs.length 0 .none fun i hi => h i (by omega)
  rw [e]
theorem look_exc {m : Int} {xs : List D} (hm : 0 ≤ m ∧ m ≤ 8) (hl : xs.length ≤ 1000) (b : Nat) (hb : b < xs.length) {ee : Env} (e : exS l3_look_web (envL m xs (.dat (.int (0 + (b : Nat))))) = .exc 4 ee) (h : ∀ i, i < b → exS l3_look_web (envL m xs (.dat (.int (0 + (i : Nat))))) = .nx (envL m xs (.dat (.int (0 + (i : Nat)))))) : f_look_web [webD m xs] = .exc 4 := by
  rw [look_run hm hl, List.range_eq_range', go_exc e xs.length 0 .none (by omega) (by omega) h]
theorem ix_nat {xs : List D} {i : Nat} {d : D} (h : xs[i]? = some d) : ixD (.list xs) (.int (0 + (i : Nat))) = .ok d := by
  show ofO (pix xs _) = _
  rw [pix_nn (by omega), show (0 + (i : Int)).toNat = i by omega, h]
  rfl
/-- a tie that is as it should be: k > 0 -> ahead of it one that is less -/
theorem l3_ok {m : Int} {xs : List D} {i : Nat} {t : Tie} (h : xs[i]? = some (tieD t)) (h1 : tie1 m t = true) (h2 : ∀ j, i = j + 1 → ∃ s, xs[j]? = some (tieD s) ∧ ltB s t = true) : exS l3_look_web (envL m xs (.dat (.int (0 + (i : Nat))))) = .nx (envL m xs (.dat (.int (0 + (i : Nat))))) := by
  have e1 := x1_tie (m := m) (ix_nat h)
  rw [h1] at e1
  cases i with
  | zero =>
    rw [l3_run e1 (fun _ => x2_zero)]
    rfl
  | succ j =>
    obtain ⟨s, q1, q2⟩ := h2 j rfl
    have e2 := x2_tie (m := m) (xs := xs) (k := 0 + ((j + 1 : Nat) : Int)) (s := s) (t := t) (by omega) (by rw [show 0 + ((j + 1 : Nat) : Int) - 1 = 0 + (j : Int) by omega]; exact ix_nat q1) (ix_nat h)
    rw [q2] at e2
    rw [l3_run e1 (fun _ => e2)]
    rfl
theorem l3_bad {m : Int} {xs : List D} {i : Nat} {t : Tie} (h : xs[i]? = some (tieD t)) (h1 : tie1 m t = false) : ∃ ee, exS l3_look_web (envL m xs (.dat (.int (0 + (i : Nat))))) = .exc 4 ee := by
  have e1 := x1_tie (m := m) (ix_nat h)
  rw [h1] at e1
  refine ⟨envL m xs (.dat (.int (0 + (i : Nat)))), ?_⟩
  rw [l3_run (b2 := true) e1 (fun z => by cases z)]
  rfl
theorem l3_pair {m : Int} {xs : List D} {i : Nat} {a b : Int} (h : xs[i]? = some (.tuple [.int a, .int b])) : ∃ ee, exS l3_look_web (envL m xs (.dat (.int (0 + (i : Nat))))) = .exc 4 ee := by
  refine ⟨envL m xs (.dat (.int (0 + (i : Nat)))), ?_⟩
  rw [l3_run (b2 := true) (x1_pair (ix_nat h)) (fun z => by cases z)]
  rfl
theorem l3_fall {m : Int} {xs : List D} {j : Nat} {s t : Tie} (h0 : xs[j]? = some (tieD s)) (h : xs[j + 1]? = some (tieD t)) (h1 : ltB s t = false) : ∃ ee, exS l3_look_web (envL m xs (.dat (.int (0 + ((j + 1 : Nat) : Int))))) = .exc 4 ee := by
  refine ⟨envL m xs (.dat (.int (0 + ((j + 1 : Nat) : Int)))), ?_⟩
  have e2 := x2_tie (m := m) (xs := xs) (k := 0 + ((j + 1 : Nat) : Int)) (s := s) (t := t) (by omega) (by rw [show 0 + ((j + 1 : Nat) : Int) - 1 = 0 + (j : Int) by omega]; exact ix_nat h0) (ix_nat h)
  rw [h1] at e2
  rw [l3_run (x1_tie (ix_nat h)) (fun _ => e2)]
  rw [if_pos (.inr rfl)]
theorem tie1_of {m : Int} {ts : List Tie} (h : Ties m ts) {t : Tie} (ht : t ∈ ts) : tie1 m t = true := by
  have := h.each t ht
  simp [tie1, this.1, this.2.1, this.2.2.1, this.2.2.2.1, this.2.2.2.2]
theorem ltB_of {s t : Tie} (h : Tie.lt s t) : ltB s t = true := by
  rcases h with h | ⟨h1, h2⟩
  · simp [ltB, h]
  · simp [ltB, h1, h2]
theorem ltB_asymm {s t : Tie} (h : Tie.lt s t) : ltB t s = false := by
  unfold Tie.lt at h
  simp [ltB]
  omega
theorem up_get {ts : List Tie} (h : ts.Pairwise Tie.lt) {i j : Nat} {s t : Tie} (hij : i < j) (hs : ts[i]? = some s) (ht : ts[j]? = some t) : Tie.lt s t := by
  obtain ⟨h1, e1⟩ := List.getElem?_eq_some_iff.mp hs
  obtain ⟨h2, e2⟩ := List.getElem?_eq_some_iff.mp ht
  rw [← e1, ← e2]
  exact List.pairwise_iff_getElem.mp h i j h1 h2 hij
/-- the turns among the ties as they are, where the list agrees with them -/
theorem l3_same {m : Int} {ts : List Tie} (h : Ties m ts) {xs : List D} {n : Nat} (hx : ∀ i, i < n → xs[i]? = (ts.map tieD)[i]?) (hn : n ≤ ts.length) : ∀ i, i < n → exS l3_look_web (envL m xs (.dat (.int (0 + (i : Nat))))) = .nx (envL m xs (.dat (.int (0 + (i : Nat))))) := fun i hi => by
  have hg : ts[i]? = some ts[i] := List.getElem?_eq_getElem (by omega)
  refine l3_ok (t := ts[i]) (by rw [hx i hi, List.getElem?_map, hg]; rfl) (tie1_of h (List.getElem_mem _)) fun j hj => ?_
  have hg2 : ts[j]? = some ts[j] := List.getElem?_eq_getElem (by omega)
  exact ⟨ts[j], by rw [hx j (by omega), List.getElem?_map, hg2]; rfl, ltB_of (up_get h.up (by omega) hg2 hg)⟩
theorem look_ok {m : Int} {ts : List Tie} (hm : 0 ≤ m ∧ m ≤ 8) (h : Ties m ts) (hl : ts.length ≤ 100) : f_look_web [webD m (ts.map tieD)] = .ok .none :=
  look_none hm (by rw [List.length_map]; omega) fun i hi => l3_same h (n := ts.length) (fun _ _ => rfl) (Nat.le_refl _) i (by rw [List.length_map] at hi; exact hi)
end Rwl

set_option Elab.async false
set_option linter.all false
set_option maxRecDepth 100000
set_option maxHeartbeats 1000000
namespace Rwl
open PySem
/-! ### slices -/
theorem cut_take {α : Type} (xs : List α) {v : Int} (h : 0 ≤ v) : cut xs none (some v) = xs.take v.toNat := by
  show (xs.drop 0).take ((if v < 0 then (v + (xs.length : Int)).toNat else min v.toNat xs.length) - 0) = _
  rw [if_neg (by omega), List.drop_zero, Nat.sub_zero]
  rcases Nat.le_total v.toNat xs.length with h1 | h1
  · rw [Nat.min_eq_left h1]
  · rw [Nat.min_eq_right h1, List.take_length, List.take_of_length_le h1]
theorem cut_drop {α : Type} (xs : List α) {v : Int} (h : 0 ≤ v) : cut xs (some v) none = xs.drop v.toNat := by
  show (xs.drop (if v < 0 then (v + (xs.length : Int)).toNat else min v.toNat xs.length)).take (xs.length - (if v < 0 then (v + (xs.length : Int)).toNat else min v.toNat xs.length)) = _
  rw [if_neg (by omega)]
  rcases Nat.le_total v.toNat xs.length with h1 | h1
  · rw [Nat.min_eq_left h1, List.take_of_length_le (by rw [List.length_drop]; exact Nat.le_refl _)]
  · rw [Nat.min_eq_right h1, List.drop_length, List.drop_of_length_le h1, List.take_nil]
theorem sl_take (xs : List D) {v : Int} (h : 0 ≤ v) : slD none (some v) (.list xs) = .ok (.list (xs.take v.toNat)) := by
  show Res.ok (PyData.list (cut xs none (some v))) = _
  rw [cut_take xs h]
theorem sl_drop (xs : List D) {v : Int} (h : 0 ≤ v) : slD (some v) none (.list xs) = .ok (.list (xs.drop v.toNat)) := by
  show Res.ok (PyData.list (cut xs (some v) none)) = _
  rw [cut_drop xs h]
theorem add_list {a b : List D} (h : a.length + b.length ≤ lim) : addD (.list a) (.list b) = .ok (.list (a ++ b)) := by
  show req (decide (a.length + b.length ≤ lim)) _ = _
  rw [decide_eq_true h]
  rfl
/-! ### the web spoilt -/
end Rwl

set_option Elab.async false
set_option linter.all false
set_option maxRecDepth 100000
set_option maxHeartbeats 1000000
namespace Rwl
open PySem
/-! ### lists of numbers -/
theorem dep_ints (n : Nat) (zs : List Int) : dep (n + 1) (.list (zs.map .int)) = true := by
  show (zs.map PyData.int).all (dep n) = true
  rw [List.all_map, List.all_eq_true]
  intro x _
  cases n <;> rfl
theorem dep_int (n : Nat) (z : Int) : dep n (.int z) = true := by cases n <;> rfl
theorem eqv_ints : ∀ xs ys : List Int, PyData.eqv (.list (xs.map .int)) (.list (ys.map .int)) = decide (xs = ys)
  | [], [] => by simp [PyData.eqv, PyData.eqvAll]
  | [], _ :: _ => by simp [PyData.eqv, PyData.eqvAll]
  | _ :: _, [] => by simp [PyData.eqv, PyData.eqvAll]
  | x :: xs, y :: ys => by
    have ih := eqv_ints xs ys
    simp only [PyData.eqv] at ih
    simp [PyData.eqv, PyData.eqvAll, ih]
    by_cases h1 : x = y <;> by_cases h2 : xs = ys <;> simp [h1, h2]
theorem eq_ints (xs ys : List Int) : eqD (.list (xs.map .int)) (.list (ys.map .int)) = .ok (decide (xs = ys)) := by
  unfold eqD
  rw [dep_ints, dep_ints, eqv_ints]
  rfl
theorem all_dep_ints (zs : List Int) : (zs.map PyData.int).all (dep 8) = true := by
  rw [List.all_map, List.all_eq_true]
  intro x _
  exact dep_int _ _
theorem eqv_int (x y : Int) : PyData.eqv (.int x) (.int y) = decide (x = y) := by
  show (x == y) = _
  rw [Bool.beq_eq_decide_eq]
theorem in_ints (x : Int) (zs : List Int) : inD (.int x) (.list (zs.map .int)) = .ok (decide (x ∈ zs)) := by
  show req (dep 8 (.int x) && (zs.map PyData.int).all (dep 8)) _ = _
  rw [dep_int, all_dep_ints]
  show Res.ok ((zs.map PyData.int).any fun z => PyData.eqv z (.int x)) = _
  congr 1
  induction zs with
  | nil => rfl
  | cons z r ih =>
    rw [List.map_cons, List.any_cons, ih, eqv_int]
    by_cases h : z = x
    · subst h; simp
    · have h' : ¬ x = z := fun e => h e.symm
      simp [h, h']
/-! ### where a number stands -/
theorem idx_lt {zs : List Int} {x : Int} (h : x ∈ zs) : zs.idxOf x < zs.length := List.idxOf_lt_length_of_mem h
theorem idx_cons_ne {z x : Int} {r : List Int} (h : ¬ z = x) : (z :: r).idxOf x = r.idxOf x + 1 := by
  rw [List.idxOf_cons]
  have : (z == x) = false := by simpa using h
  rw [this]
  rfl
theorem idx_cons_eq {x : Int} {r : List Int} : (x :: r).idxOf x = 0 := by
  rw [List.idxOf_cons, beq_self_eq_true]
  rfl
theorem index_ints {x : Int} : ∀ {zs : List Int}, x ∈ zs → ((zs.map PyData.int).findIdx? fun z => PyData.eqv z (.int x)) = some (zs.idxOf x)
  | [], h => by cases h
  | z :: r, h => by
    rw [List.map_cons, List.findIdx?_cons, eqv_int]
    by_cases e : z = x
    · subst e
      rw [decide_eq_true rfl, idx_cons_eq]
      rfl
    · rw [decide_eq_false e, idx_cons_ne e, index_ints ((List.mem_cons.mp h).resolve_left fun q => e q.symm)]
      rfl
theorem mt_index {x : Int} {zs : List Int} (h : x ∈ zs) : mt .index (.list (zs.map .int)) [.int x] = .ok (.int (zs.idxOf x)) := by
  show req (dep 8 (.int x) && (zs.map PyData.int).all (dep 8)) _ = _
  rw [dep_int, all_dep_ints, index_ints h]
  rfl
theorem mem_take_idx {x : Int} : ∀ {zs : List Int} {k : Nat}, x ∈ zs → (x ∈ zs.take k ↔ zs.idxOf x < k)
  | [], _, h => by cases h
  | z :: r, 0, _ => by simp
  | z :: r, k + 1, h => by
    rw [List.take_succ_cons, List.mem_cons]
    by_cases e : z = x
    · subst e
      rw [idx_cons_eq]
      simp
    · have h' : x ∈ r := (List.mem_cons.mp h).resolve_left fun q => e q.symm
      rw [idx_cons_ne e, mem_take_idx h']
      constructor
      · rintro (q | q)
        · exact absurd q.symm e
        · omega
      · intro q
        exact .inr (by omega)
/-- a dict of places -/
def kvsOf : List Int → Int → List (Int × D)
  | [], _ => []
  | x :: r, k => (x, .int k) :: kvsOf r (k + 1)
theorem kvsOf_len : ∀ (l : List Int) (k : Int), (kvsOf l k).length = l.length
  | [], _ => rfl
  | _ :: r, k => congrArg (· + 1) (kvsOf_len r (k + 1))
theorem kvsOf_append (x : Int) : ∀ (l : List Int) (k : Int), kvsOf (l ++ [x]) k = kvsOf l k ++ [(x, .int (k + l.length))]
  | [], k => by simp [kvsOf]
  | y :: r, k => by
    show (y, PyData.int k) :: kvsOf (r ++ [x]) (k + 1) = (y, .int k) :: (kvsOf r (k + 1) ++ [(x, .int (k + ((r.length + 1 : Nat) : Int)))])
    rw [kvsOf_append x r (k + 1), show k + 1 + (r.length : Int) = k + ((r.length + 1 : Nat) : Int) by omega]
theorem kvsOf_any {x : Int} : ∀ {l : List Int} {k : Int}, x ∉ l → ((kvsOf l k).any fun kv => decide (kv.1 = x)) = false
  | [], _, _ => rfl
  | y :: r, k, h => by
    have h1 : ¬ y = x := fun e => h (e ▸ List.mem_cons_self)
    show (decide (y = x) || (kvsOf r (k + 1)).any fun kv => decide (kv.1 = x)) = false
    rw [decide_eq_false h1, kvsOf_any (fun q => h (List.mem_cons_of_mem _ q))]
    rfl
theorem kput_new {x : Int} {l : List Int} {k : Int} {d : D} (h : x ∉ l) : kput (kvsOf l k) x d = kvsOf l k ++ [(x, d)] := by
  unfold kput
  rw [kvsOf_any h]
  rfl
theorem klook_idx {x : Int} : ∀ {l : List Int} {k : Int}, x ∈ l → klook (kvsOf l k) x = some (.int (k + l.idxOf x))
  | [], _, h => by cases h
  | y :: r, k, h => by
    by_cases e : y = x
    · subst e
      rw [idx_cons_eq]
      show (((y, PyData.int k) :: kvsOf r (k + 1)).find? fun kv => decide (kv.1 = y)).map (·.2) = _
      rw [List.find?_cons, decide_eq_true rfl]
      simp
    · have h' : x ∈ r := (List.mem_cons.mp h).resolve_left fun q => e q.symm
      rw [idx_cons_ne e]
      show (((y, PyData.int k) :: kvsOf r (k + 1)).find? fun kv => decide (kv.1 = x)).map (·.2) = _
      rw [List.find?_cons, decide_eq_false e]
      have ih := klook_idx (k := k + 1) h'
      unfold klook at ih
      rw [show k + 1 + (r.idxOf x : Int) = k + ((r.idxOf x + 1 : Nat) : Int) by omega] at ih
      exact ih
/-! ### the places 0 .. n - 1 in another order -/
theorem rngZ_len (n : Nat) : (rngZ n).length = n := by simp [rngZ]
theorem rngZ_mem {n : Nat} {x : Int} : x ∈ rngZ n ↔ 0 ≤ x ∧ x < n := by
  unfold rngZ
  rw [List.mem_map]
  constructor
  · rintro ⟨i, hi, rfl⟩
    have := List.mem_range.mp hi
    omega
  · rintro ⟨h0, h1⟩
    exact ⟨x.toNat, List.mem_range.mpr (by omega), by omega⟩
theorem rngZ_sorted (n : Nat) : (rngZ n).Pairwise (· ≤ ·) := by
  unfold rngZ
  rw [List.pairwise_map]
  exact (List.pairwise_lt_range (n := n)).imp fun h => by omega
theorem rngZ_nodup (n : Nat) : (rngZ n).Nodup := by
  unfold rngZ
  rw [List.nodup_iff_pairwise_ne, List.pairwise_map]
  exact (List.pairwise_lt_range (n := n)).imp fun h => by omega
structure Ord (n : Nat) (os : List Int) : Prop where
  perm : os.Perm (rngZ n)
theorem Ord.len {n : Nat} {os : List Int} (h : Ord n os) : os.length = n := by rw [h.perm.length_eq, rngZ_len]
theorem Ord.nodup {n : Nat} {os : List Int} (h : Ord n os) : os.Nodup := h.perm.nodup_iff.mpr (rngZ_nodup n)
theorem Ord.mem {n : Nat} {os : List Int} (h : Ord n os) {x : Int} (h0 : 0 ≤ x) (h1 : x < n) : x ∈ os := h.perm.mem_iff.mpr (rngZ_mem.mpr ⟨h0, h1⟩)
theorem Ord.srt {n : Nat} {os : List Int} (h : Ord n os) : srt os = rngZ n := (srt_is h.perm.symm (rngZ_sorted n)).symm
end Rwl

set_option Elab.async false
set_option linter.all false
set_option maxRecDepth 100000
set_option maxHeartbeats 1000000
namespace Rwl
open PySem
/-! ### the program's defs at a web and an order -/
structure Wb (n : Nat) (ts : List Tie) : Prop where
  n8 : n ≤ 8
  ties : Ties n ts
  len : ts.length ≤ 100
theorem Wb.look {n : Nat} {ts : List Tie} (h : Wb n ts) : f_look_web [webD n (ts.map tieD)] = .ok .none := look_ok (by have := h.n8; omega) h.ties h.len
def outR : Out → Res D
  | .ret d => .ok d
  | .nx _ => .ok .none
  | .exc c _ => .exc c
  | .retf xs => .ok (.list xs)
  | .retm d _ => .ok d
  | _ => .bad
theorem run2 {b : S} {n : Nat} {x y : D} {o : Out} (h : exS b ([Slot.dat x, .dat y] ++ List.replicate (n - 2) .none) = o) : run 2 n b [x, y] = outR o := by
  rw [← h]
  unfold run
  show (match exS b ([Slot.dat x, .dat y] ++ List.replicate (n - 2) .none) with
    | .ret d => Res.ok d
    | .nx _ => .ok .none
    | .exc c _ => .exc c
    | .retf xs => .ok (.list xs)
    | .retm d _ => .ok d
    | _ => .bad) = _
  cases exS b ([Slot.dat x, .dat y] ++ List.replicate (n - 2) .none) <;> rfl
/-- look_order where the web does not do -/
theorem run1 {b : S} {n : Nat} {x : D} {o : Out} (h : exS b ([Slot.dat x] ++ List.replicate (n - 1) .none) = o) : run 1 n b [x] = outR o := by
  rw [← h]
  unfold run
  show (match exS b ([Slot.dat x] ++ List.replicate (n - 1) .none) with
    | .ret d => Res.ok d
    | .nx _ => .ok .none
    | .exc c _ => .exc c
    | .retf xs => .ok (.list xs)
    | .retm d _ => .ok d
    | _ => .bad) = _
  cases exS b ([Slot.dat x] ++ List.replicate (n - 1) .none) <;> rfl
theorem runF1 {b : S} {n : Nat} {x : D} {xs : List D} (h : exS b ([Slot.dat x] ++ List.replicate (n - 1) .none) = .retf xs) : runF 1 n b [x] = .ok (.list xs) := by
  unfold runF
  show (match exS b ([Slot.dat x] ++ List.replicate (n - 1) .none) with
    | .exc c _ => Res.exc c
    | .retf xs => Res.ok (PyData.list xs)
    | _ => .bad) = _
  rw [h]
theorem runF2 {b : S} {n : Nat} {x y : D} {xs : List D} (h : exS b ([Slot.dat x, .dat y] ++ List.replicate (n - 2) .none) = .retf xs) : runF 2 n b [x, y] = .ok (.list xs) := by
  unfold runF
  show (match exS b ([Slot.dat x, .dat y] ++ List.replicate (n - 2) .none) with
    | .exc c _ => Res.exc c
    | .retf xs => Res.ok (PyData.list xs)
    | _ => .bad) = _
  rw [h]
theorem order_exc {w o : D} {c : Nat} (h : f_look_web [w] = .exc c) : f_look_order [w, o] = .exc c := by
  have e : evR [Slot.dat w, .dat o] x0_look_order = .exc c := by
    rw [evR_plain (by simp)]
    simp [x0_look_order, h]
  unfold f_look_order
  refine (run2 (o := .exc c [Slot.dat w, .dat o]) ?_).trans rfl
  show exS b_look_order [Slot.dat w, .dat o] = _
  unfold b_look_order
  rw [exS_cons, exS_drop, e]
  rfl
theorem order_any {n : Nat} {ts : List Tie} (h : Wb n ts) (zs : List Int) : f_look_order [webD n (ts.map tieD), .list (zs.map .int)] = if srt zs = rngZ n then .ok .none else .exc 1 := by
  have e0 : evR [Slot.dat (webD n (ts.map tieD)), .dat (.list (zs.map .int))] x0_look_order = .ok .none := by
    rw [evR_plain (by simp)]
    simp [x0_look_order, h.look]
  have hn := h.n8
  have e1 : evB [Slot.dat (webD n (ts.map tieD)), .dat (.list (zs.map .int))] x1_look_order = .ok (!decide (srt zs = rngZ n)) := by
    rw [evB_plain (by simp)]
    have hix : ixD (webD n (ts.map tieD)) (.int 0) = .ok (.int n) := rfl
    have hq : (decide (0 ≤ (n : Int)) && decide ((n : Int) ≤ 100000)) = true := by rw [decide_eq_true (by omega), decide_eq_true (by omega)]; rfl
    simp only [x1_look_order, evT_cmp, evE_bi, evL_cons, evL_nil, evE_var, get_one, get_zero, bind_ok, bi_sorted, evE_lrg, evE_ix, evI1_var, evC_var, evE_int, hix, asInt_int, hq, req_true, rngD_Z, run_ne, eq_ints, nott_ok]
  unfold f_look_order
  have go : exS b_look_order [Slot.dat (webD n (ts.map tieD)), .dat (.list (zs.map .int))] = if srt zs = rngZ n then .nx [Slot.dat (webD n (ts.map tieD)), .dat (.list (zs.map .int))] else .exc 1 [Slot.dat (webD n (ts.map tieD)), .dat (.list (zs.map .int))] := by
    unfold b_look_order
    rw [exS_cons, exS_drop, e0, out_ok, seq_nx, exS_cons, exS_ifs, e1, out_ok]
    by_cases hs : srt zs = rngZ n
    · rw [decide_eq_true hs, if_pos hs]; rfl
    · rw [decide_eq_false hs, if_neg hs]; rfl
  rw [run2 go]
  by_cases hs : srt zs = rngZ n
  · rw [if_pos hs, if_pos hs]; rfl
  · rw [if_neg hs, if_neg hs]; rfl
theorem order_ok' {n : Nat} {ts : List Tie} {os : List Int} (h : Wb n ts) (o : Ord n os) : f_look_order [webD n (ts.map tieD), .list (os.map .int)] = .ok .none := by rw [order_any h, if_pos o.srt]
/-- the same, let through -/
theorem lengths_exc {w o : D} {c : Nat} (h : f_look_order [w, o] = .exc c) : f_lengths [w, o] = .exc c := by
  have e : evR [Slot.dat w, .dat o, .none, .none, .none, .none, .none] x0_lengths = .exc c := by
    rw [evR_plain (by simp)]
    simp [x0_lengths, h]
  unfold f_lengths
  refine (run2 (o := .exc c [Slot.dat w, .dat o, .none, .none, .none, .none, .none]) ?_).trans rfl
  show exS b_lengths [Slot.dat w, .dat o, .none, .none, .none, .none, .none] = _
  unfold b_lengths
  rw [exS_cons, exS_drop, e]
  rfl
def far (os : List Int) (t : Tie) : Int := if (os.idxOf t.1 : Int) - os.idxOf t.2.1 < 0 then -((os.idxOf t.1 : Int) - os.idxOf t.2.1) else (os.idxOf t.1 : Int) - os.idxOf t.2.1
theorem tie_mem {n : Nat} {ts : List Tie} {os : List Int} (h : Wb n ts) (o : Ord n os) {t : Tie} (ht : t ∈ ts) : t.1 ∈ os ∧ t.2.1 ∈ os := by
  have := h.ties.each t ht
  exact ⟨o.mem (by omega) (by omega), o.mem (by omega) (by omega)⟩
def envG (w : D) (os : List Int) (kvs : List (Int × D)) (s3 : Slot) : Env := [.dat w, .dat (.list (os.map .int)), .dct kvs, s3, .none, .none, .none]
theorem evI_web {n : Int} {ts : List D} {env : Env} (h : env.get 0 = .dat (webD n ts)) : evI env (.ix (.var 0) (.int 1)) = .ok ts := by
  rw [evI_ix, evE_ix, evI1_var, h]
  dsimp only
  rw [evC_var, h]
  rfl
theorem lengths_ok {n : Nat} {ts : List Tie} {os : List Int} (h : Wb n ts) (o : Ord n os) : f_lengths [webD n (ts.map tieD), .list (os.map .int)] = .ok (.list ((ts.map (far os)).map .int)) := by
  generalize hw : webD n (ts.map tieD) = w
  have e0 : evR [Slot.dat w, .dat (.list (os.map .int)), .none, .none, .none, .none, .none] x0_lengths = .ok .none := by
    rw [evR_plain (by simp), ← hw]
    simp [x0_lengths, order_ok' h o]
  have hlen := o.len
  have hn := h.n8
  have hr : evI (envG w os [] .none) (.rng1 (.bi .len (.cons (.var 1) .nil))) = .ok (rngD 0 (n : Int)) := by
    refine rng1_ok ?_ (by omega) (by omega)
    show Res.ok (PyData.int ((os.map PyData.int).length : Int)) = _
    rw [List.length_map, hlen]
  obtain ⟨env', h1, s3, rfl⟩ := forGo_rng (f := fun d env => ((⟨false, [3]⟩ : Tg).run env d).out env (exS l1_lengths)) (m := 0) (n := n) (env := envG w os [] .none)
    (I := fun i env => ∃ s3, env = envG w os (kvsOf (os.take i) 0) s3) ⟨.none, rfl⟩
    (fun i env hi ⟨s3, he⟩ => by
      subst he
      have hg : os[i]? = some os[i] := List.getElem?_eq_getElem (by omega)
      have hk : evV (envG w os (kvsOf (os.take i) 0) (.dat (.int (0 + i)))) (.ix (.var 1) (.var 3)) = .ok (.int os[i]) := by
        refine evV_scal ?_ rfl
        show ixD (.list (os.map .int)) (.int (0 + i)) = _
        exact ix_nat (by rw [List.getElem?_map, hg]; rfl)
      have hv : evV (envG w os (kvsOf (os.take i) 0) (.dat (.int (0 + i)))) (.var 3) = .ok (.int (0 + i)) := evV_scal rfl rfl
      have hnew : os[i] ∉ os.take i := fun hm => by
        obtain ⟨j, hj, e⟩ := List.getElem_of_mem hm
        rw [List.getElem_take] at e
        rw [List.length_take] at hj
        have := (List.getElem_inj o.nodup).mp e
        omega
      have e := exS_setd (i := 2) (env := envG w os (kvsOf (os.take i) 0) (.dat (.int (0 + i)))) rfl hv hk (by rw [kvsOf_len, List.length_take]; unfold lim; omega)
      rw [kput_new hnew] at e
      refine ⟨envG w os (kvsOf (os.take (i + 1)) 0) (.dat (.int (0 + i))), ?_, _, rfl⟩
      rw [tg_one, out_ok]
      show (exS (.setd 2 (.ix (.var 1) (.var 3)) (.var 3)) (envG w os (kvsOf (os.take i) 0) (.dat (.int (0 + i))))).seq (exS .nil) = _
      rw [e, seq_nx, exS_nil, List.take_add_one, hg]
      show Out.nx (envG w os (kvsOf (os.take i) 0 ++ [(os[i], .int (0 + i))]) _) = Out.nx (envG w os (kvsOf (os.take i ++ [os[i]]) 0) _)
      rw [kvsOf_append, List.length_take, Nat.min_eq_left (by omega)])
  rw [List.take_of_length_le (by omega)] at h1
  have turn : ∀ t ∈ ts, lcTurn (envG w os (kvsOf os 0) s3) [4, 5, 6] ⟨true, [4, 5, 6]⟩ .nop (.bi .abs (.cons (.bin .sub (.ix (.var 2) (.var 4)) (.ix (.var 2) (.var 5))) .nil)) (tieD t) = .ok (some (.int (far os t))) := fun t ht => by
    obtain ⟨m1, m2⟩ := tie_mem h o ht
    have k1 := klook_idx (k := 0) m1
    have k2 := klook_idx (k := 0) m2
    rw [Int.zero_add] at k1 k2
    have e : evE [Slot.dat w, .dat (.list (os.map .int)), .dct (kvsOf os 0), s3, .dat (.int t.1), .dat (.int t.2.1), .dat (.int t.2.2)] (.bi .abs (.cons (.bin .sub (.ix (.var 2) (.var 4)) (.ix (.var 2) (.var 5))) .nil)) = .ok (.int (far os t)) := by
      simp [k1, k2, far]
    show ((evE [Slot.dat w, .dat (.list (os.map .int)), .dct (kvsOf os 0), s3, .dat (.int t.1), .dat (.int t.2.1), .dat (.int t.2.2)] (.bi .abs (.cons (.bin .sub (.ix (.var 2) (.var 4)) (.ix (.var 2) (.var 5))) .nil))).bind fun y => .ok (some y)) = _
    rw [e]
    rfl
  have hret : evE (envG w os (kvsOf os 0) s3) x2_lengths = .ok (.list ((ts.map (far os)).map .int)) := by
    unfold x2_lengths
    rw [evE_lc, evI_web (n := n) (ts := ts.map tieD) (by rw [← hw]; rfl), bind_ok, List.length_map, decide_eq_true (by have := h.len; unfold lim; omega), req_true, lcRun_map turn, bind_ok, List.map_map]
    rfl
  have hret2 : evR (envG w os (kvsOf os 0) s3) x2_lengths = .ok (.list ((ts.map (far os)).map .int)) := by
    unfold evR
    have fz : evE (envG w os (kvsOf os 0) s3).frz x2_lengths = .bad ∨ ts = [] := by
      cases ts with
      | nil => exact .inr rfl
      | cons t r =>
        left
        unfold x2_lengths
        rw [evE_lc, evI_web (n := n) (ts := (t :: r).map tieD) (by rw [← hw]; rfl), bind_ok, List.length_map, decide_eq_true (by have := h.len; unfold lim; omega), req_true]
        rfl
    rcases fz with fz | rfl
    · rw [fz]; exact hret
    · have : evE (envG w os (kvsOf os 0) s3).frz x2_lengths = .ok (.list []) := by
        unfold x2_lengths
        rw [evE_lc, evI_web (n := n) (ts := ([] : List Tie).map tieD) (by rw [← hw]; rfl)]
        rfl
      rw [this]
      rfl
  unfold f_lengths
  refine (run2 (o := .ret (.list ((ts.map (far os)).map .int))) ?_).trans rfl
  show exS b_lengths [Slot.dat w, .dat (.list (os.map .int)), .none, .none, .none, .none, .none] = _
  unfold b_lengths
  rw [exS_cons, exS_drop, e0, out_ok, seq_nx, exS_cons, exS_newd, seq_nx, exS_cons, exS_forr]
  rw [show ([Slot.dat w, .dat (.list (os.map .int)), .none, .none, .none, .none, .none] : Env).set 2 (.dct []) = envG w os [] .none from rfl, hr, out_ok, rngD_nat, h1, seq_nx, exS_cons, exS_ret, hret2]
  rfl
end Rwl

set_option Elab.async false
set_option linter.all false
set_option maxRecDepth 100000
set_option maxHeartbeats 1000000
namespace Rwl
open PySem
/-! ### gaps -/
def crs (os : List Int) (g : Nat) (t : Tie) : Int := if decide (os.idxOf t.1 ≤ g) = decide (os.idxOf t.2.1 ≤ g) then 0 else t.2.2
def over (os : List Int) (ts : List Tie) (g : Nat) : Int := (ts.map (crs os g)).sum
def overs (os : List Int) (ts : List Tie) (n : Nat) : List Int := (List.range n).map (over os ts)
def crsO (os : List Int) (g : Nat) (t : Tie) : Option Int := if decide (os.idxOf t.1 ≤ g) = decide (os.idxOf t.2.1 ≤ g) then none else some t.2.2
theorem sum_crsO (os : List Int) (g : Nat) : ∀ ts : List Tie, (ts.filterMap (crsO os g)).sum = over os ts g
  | [] => rfl
  | t :: r => by
    have ih := sum_crsO os g r
    unfold over at ih ⊢
    rw [List.filterMap_cons, List.map_cons, List.sum_cons]
    unfold crsO crs
    by_cases h : decide (os.idxOf t.1 ≤ g) = decide (os.idxOf t.2.1 ≤ g)
    · rw [if_pos h, if_pos h]
      dsimp only
      rw [Int.zero_add]
      exact ih
    · rw [if_neg h, if_neg h]
      dsimp only
      rw [List.sum_cons]
      congr 1
theorem eq_bool (a b : Bool) : eqD (.bool a) (.bool b) = .ok (decide (a = b)) := by cases a <;> cases b <;> rfl
def envH (w : D) (os : List Int) (xs : List Int) (s3 s4 : Slot) : Env := [.dat w, .dat (.list (os.map .int)), .own (xs.map .int), s3, s4, .none, .none, .none]
theorem gaps_ok {n : Nat} {ts : List Tie} {os : List Int} (h : Wb n ts) (o : Ord n os) : f_gaps [webD n (ts.map tieD), .list (os.map .int)] = .ok (.list ((overs os ts (n - 1)).map .int)) := by
  generalize hw : webD n (ts.map tieD) = w
  have e0 : evR [Slot.dat w, .dat (.list (os.map .int)), .none, .none, .none, .none, .none, .none] x0_gaps = .ok .none := by
    rw [evR_plain (by simp), ← hw]
    simp [x0_gaps, order_ok' h o]
  have hlen := o.len
  have hn := h.n8
  have hr : evI (envH w os [] .none .none) (.rng2 (.int 1) (.bi .len (.cons (.var 1) .nil))) = .ok (rngD 1 (n : Int)) := by
    refine rng2_ok rfl ?_ (by omega) (by omega) (by omega) (by omega)
    show Res.ok (PyData.int ((os.map PyData.int).length : Int)) = _
    rw [List.length_map, hlen]
  obtain ⟨env', h1, s3, s4, rfl⟩ := forGo_rng (f := fun d env => ((⟨false, [3]⟩ : Tg).run env d).out env (exS l3_gaps)) (m := 1) (n := n - 1) (env := envH w os [] .none .none)
    (I := fun i env => ∃ s3 s4, env = envH w os (overs os ts i) s3 s4) ⟨.none, .none, rfl⟩
    (fun i env hi ⟨s3, s4, he⟩ => by
      subst he
      have hs : slD none (some (1 + (i : Int))) (.list (os.map .int)) = .ok (.list ((os.take (i + 1)).map .int)) := by
        rw [sl_take _ (by omega), List.map_take, show (1 + (i : Int)).toNat = i + 1 by omega]
      have v1 : evV (envH w os (overs os ts i) (.dat (.int (1 + i))) s4) x1_gaps = .ok (.list ((os.take (i + 1)).map .int)) := evV_both hs hs
      have turn : ∀ t ∈ ts, lcTurn (envH w os (overs os ts i) (.dat (.int (1 + i))) (.dat (.list ((os.take (i + 1)).map .int)))).frz [5, 6, 7] ⟨true, [5, 6, 7]⟩ (.cmp .ne (.cmp .inn (.var 5) (.var 4)) (.cmp .inn (.var 6) (.var 4))) (.var 7) (tieD t) = .ok ((crsO os i t).map .int) := fun t ht => by
        obtain ⟨m1, m2⟩ := tie_mem h o ht
        have q1 : decide (t.1 ∈ os.take (i + 1)) = decide (os.idxOf t.1 ≤ i) := decide_eq_decide.mpr ((mem_take_idx m1).trans Nat.lt_succ_iff)
        have q2 : decide (t.2.1 ∈ os.take (i + 1)) = decide (os.idxOf t.2.1 ≤ i) := decide_eq_decide.mpr ((mem_take_idx m2).trans Nat.lt_succ_iff)
        have e : evT [Slot.dat w, .dat (.list (os.map .int)), .dat (.list ((overs os ts i).map .int)), .dat (.int (1 + i)), .dat (.list ((os.take (i + 1)).map .int)), .dat (.int t.1), .dat (.int t.2.1), .dat (.int t.2.2)] (.cmp .ne (.cmp .inn (.var 5) (.var 4)) (.cmp .inn (.var 6) (.var 4))) = .ok (!decide (decide (os.idxOf t.1 ≤ i) = decide (os.idxOf t.2.1 ≤ i))) := by
          simp only [evT_cmp, evE_cmp, evE_var, get_succ, get_zero, get_one, bind_ok, run_in, in_ints, q1, q2, run_ne, eq_bool, nott_ok]
        show ((evT [Slot.dat w, .dat (.list (os.map .int)), .dat (.list ((overs os ts i).map .int)), .dat (.int (1 + i)), .dat (.list ((os.take (i + 1)).map .int)), .dat (.int t.1), .dat (.int t.2.1), .dat (.int t.2.2)] (.cmp .ne (.cmp .inn (.var 5) (.var 4)) (.cmp .inn (.var 6) (.var 4)))).bind fun k => match k with
          | true => (Res.ok (PyData.int t.2.2)).bind fun y => .ok (some y)
          | false => .ok none) = _
        rw [e]
        unfold crsO
        by_cases hc : decide (os.idxOf t.1 ≤ i) = decide (os.idxOf t.2.1 ≤ i)
        · rw [decide_eq_true hc, if_pos hc]; rfl
        · rw [decide_eq_false hc, if_neg hc]; rfl
      have v2 : evV (envH w os (overs os ts i) (.dat (.int (1 + i))) (.dat (.list ((os.take (i + 1)).map .int)))) x2_gaps = .ok (.int (over os ts i)) := by
        refine evV_scal ?_ rfl
        unfold x2_gaps
        rw [evE_bi, evL_cons, evL_nil, evE_lc, evI_web (n := n) (ts := ts.map tieD) (by rw [← hw]; rfl), bind_ok, List.length_map, decide_eq_true (by have := h.len; unfold lim; omega), req_true, lcRun_filter turn, bind_ok, bind_ok, bind_ok, bind_ok]
        rw [show (ts.filterMap fun t => (crsO os i t).map PyData.int) = (ts.filterMap (crsO os i)).map .int from (List.map_filterMap ..).symm, bi_sum, sum_crsO]
      have e := exS_app (i := 2) (env := envH w os (overs os ts i) (.dat (.int (1 + i))) (.dat (.list ((os.take (i + 1)).map .int)))) rfl v2 (by rw [List.length_map]; unfold overs lim; rw [List.length_map, List.length_range]; omega)
      refine ⟨envH w os (overs os ts (i + 1)) (.dat (.int (1 + i))) (.dat (.list ((os.take (i + 1)).map .int))), ?_, _, _, rfl⟩
      rw [tg_one, out_ok]
      show exS l3_gaps (envH w os (overs os ts i) (.dat (.int (1 + i))) s4) = _
      unfold l3_gaps
      rw [exS_cons, exS_asg, v1, out_ok, seq_nx, exS_cons]
      rw [show (envH w os (overs os ts i) (.dat (.int (1 + i))) s4).set 4 (.dat (.list ((os.take (i + 1)).map .int))) = envH w os (overs os ts i) (.dat (.int (1 + i))) (.dat (.list ((os.take (i + 1)).map .int))) from rfl, e, seq_nx, exS_nil]
      show Out.nx [Slot.dat w, .dat (.list (os.map .int)), .own ((overs os ts i).map .int ++ [.int (over os ts i)]), .dat (.int (1 + i)), .dat (.list ((os.take (i + 1)).map .int)), .none, .none, .none] = _
      unfold overs envH
      rw [List.range_succ, List.map_append, List.map_append]
      rfl)
  have hret : exS (.retf 2) (envH w os (overs os ts (n - 1)) s3 s4) = .retf ((overs os ts (n - 1)).map .int) := rfl
  unfold f_gaps
  refine runF2 (xs := (overs os ts (n - 1)).map .int) ?_
  show exS b_gaps [Slot.dat w, .dat (.list (os.map .int)), .none, .none, .none, .none, .none, .none] = _
  unfold b_gaps
  have hrd : rngD 1 (n : Int) = (List.range (n - 1)).map fun (i : Nat) => .int (1 + i) := by
    unfold rngD
    rw [show ((n : Int) - 1).toNat = n - 1 by omega]
  rw [exS_cons, exS_drop, e0, out_ok, seq_nx, exS_cons]
  rw [show exS (.new 2 (.lst .nil)) [Slot.dat w, .dat (.list (os.map .int)), .none, .none, .none, .none, .none, .none] = .nx (envH w os [] .none .none) from rfl, seq_nx, exS_cons, exS_forr, hr, out_ok, hrd, h1, seq_nx, exS_cons, hret]
  rfl
/-! ### the law's own reckoning -/
theorem law_lengths_ok {n : Nat} {ts : List Tie} {os : List Int} (h : Wb n ts) (o : Ord n os) : f_law_lengths [webD n (ts.map tieD), .list (os.map .int)] = .ok (.list ((ts.map (far os)).map .int)) := by
  generalize hw : webD n (ts.map tieD) = w
  have turn : ∀ t ∈ ts, lcTurn [Slot.dat w, .dat (.list (os.map .int)), .none, .none, .none] [2, 3, 4] ⟨true, [2, 3, 4]⟩ .nop (.bi .abs (.cons (.bin .sub (.mt .index (.var 1) (.cons (.var 2) .nil)) (.mt .index (.var 1) (.cons (.var 3) .nil))) .nil)) (tieD t) = .ok (some (.int (far os t))) := fun t ht => by
    obtain ⟨m1, m2⟩ := tie_mem h o ht
    have e : evE [Slot.dat w, .dat (.list (os.map .int)), .dat (.int t.1), .dat (.int t.2.1), .dat (.int t.2.2)] (.bi .abs (.cons (.bin .sub (.mt .index (.var 1) (.cons (.var 2) .nil)) (.mt .index (.var 1) (.cons (.var 3) .nil))) .nil)) = .ok (.int (far os t)) := by
      simp [mt_index m1, mt_index m2, far]
    show ((evE [Slot.dat w, .dat (.list (os.map .int)), .dat (.int t.1), .dat (.int t.2.1), .dat (.int t.2.2)] (.bi .abs (.cons (.bin .sub (.mt .index (.var 1) (.cons (.var 2) .nil)) (.mt .index (.var 1) (.cons (.var 3) .nil))) .nil))).bind fun y => .ok (some y)) = _
    rw [e]
    rfl
  have hret : evR [Slot.dat w, .dat (.list (os.map .int)), .none, .none, .none] x0_law_lengths = .ok (.list ((ts.map (far os)).map .int)) := by
    rw [evR_plain (by simp)]
    unfold x0_law_lengths
    rw [evE_lc, evI_web (n := n) (ts := ts.map tieD) (by rw [← hw]; rfl), bind_ok, List.length_map, decide_eq_true (by have := h.len; unfold lim; omega), req_true, lcRun_map turn, bind_ok, List.map_map]
    rfl
  unfold f_law_lengths
  refine (run2 (o := .ret (.list ((ts.map (far os)).map .int))) ?_).trans rfl
  show exS b_law_lengths [Slot.dat w, .dat (.list (os.map .int)), .none, .none, .none] = _
  unfold b_law_lengths
  rw [exS_cons, exS_ret, hret]
  rfl
end Rwl

set_option Elab.async false
set_option linter.all false
set_option maxRecDepth 100000
set_option maxHeartbeats 1000000
namespace Rwl
open PySem
def envK (w : D) (os : List Int) (xs : List Int) (g acc : Int) (s5 s6 s7 s8 : Slot) : Env := [.dat w, .dat (.list (os.map .int)), .own (xs.map .int), .dat (.int g), .dat (.int acc), s5, s6, s7, s8]
theorem srt_two (i j : Int) : srt [i, j] = if i ≤ j then [i, j] else [j, i] := rfl
theorem crs_two (os : List Int) (g : Nat) (t : Tie) {lo hi : Int} (h : ((os.idxOf t.1 : Int) ≤ os.idxOf t.2.1 ∧ lo = os.idxOf t.1 ∧ hi = os.idxOf t.2.1) ∨ (¬ (os.idxOf t.1 : Int) ≤ os.idxOf t.2.1 ∧ lo = os.idxOf t.2.1 ∧ hi = os.idxOf t.1)) :
    t.2.2 * (if (decide (lo ≤ (g : Int)) && decide ((g : Int) < hi)) = true then 1 else 0) = crs os g t := by
  unfold crs
  by_cases h1 : os.idxOf t.1 ≤ g <;> by_cases h2 : os.idxOf t.2.1 ≤ g
  · rw [if_neg (by rcases h with ⟨_, rfl, rfl⟩ | ⟨_, rfl, rfl⟩ <;> simp <;> omega), if_pos (by simp [h1, h2]), Int.mul_zero]
  · rw [if_pos (by rcases h with ⟨_, rfl, rfl⟩ | ⟨_, rfl, rfl⟩ <;> simp <;> omega), if_neg (by simp [h1, h2]), Int.mul_one]
  · rw [if_pos (by rcases h with ⟨_, rfl, rfl⟩ | ⟨_, rfl, rfl⟩ <;> simp <;> omega), if_neg (by simp [h1, h2]), Int.mul_one]
  · rw [if_neg (by rcases h with ⟨_, rfl, rfl⟩ | ⟨_, rfl, rfl⟩ <;> simp <;> omega), if_pos (by simp [h1, h2]), Int.mul_zero]
theorem gap_turn {n : Nat} {ts : List Tie} {os : List Int} (h : Wb n ts) (o : Ord n os) (w : D) (xs : List Int) (g : Nat) (acc : Int) {t : Tie} (ht : t ∈ ts) (s8 : Slot) :
    ∃ s8', exS l2_law_gaps (envK w os xs g acc (.dat (.int t.1)) (.dat (.int t.2.1)) (.dat (.int t.2.2)) s8) = .nx (envK w os xs g (acc + crs os g t) (.dat (.int t.1)) (.dat (.int t.2.1)) (.dat (.int t.2.2)) s8') := by
  obtain ⟨m1, m2⟩ := tie_mem h o ht
  have hb := h.ties.each t ht
  obtain ⟨lo, hi, hsrt, hlh⟩ : ∃ lo hi, srt [(os.idxOf t.1 : Int), os.idxOf t.2.1] = [lo, hi] ∧ (((os.idxOf t.1 : Int) ≤ os.idxOf t.2.1 ∧ lo = os.idxOf t.1 ∧ hi = os.idxOf t.2.1) ∨ (¬ (os.idxOf t.1 : Int) ≤ os.idxOf t.2.1 ∧ lo = os.idxOf t.2.1 ∧ hi = os.idxOf t.1)) := by
    rw [srt_two]
    by_cases hc : (os.idxOf t.1 : Int) ≤ os.idxOf t.2.1
    · rw [if_pos hc]; exact ⟨_, _, rfl, .inl ⟨hc, rfl, rfl⟩⟩
    · rw [if_neg hc]; exact ⟨_, _, rfl, .inr ⟨hc, rfl, rfl⟩⟩
  have hsD : bi .sorted [.list [.int (os.idxOf t.1 : Int), .int (os.idxOf t.2.1 : Int)]] = .ok (.list [.int lo, .int hi]) := by
    have := bi_sorted [(os.idxOf t.1 : Int), os.idxOf t.2.1]
    rw [hsrt] at this
    exact this
  have v0 : evV (envK w os xs g acc (.dat (.int t.1)) (.dat (.int t.2.1)) (.dat (.int t.2.2)) s8) x0_law_gaps = .ok (.list [.int lo, .int hi]) := by
    refine evV_both ?_ ?_
    · simp [envK, x0_law_gaps, mt_index m1, mt_index m2, lim, hsD]
    · simp [envK, x0_law_gaps, mt_index m1, mt_index m2, lim, hsD]
  have near : (near64 t.2.2 || near64 (if (decide (lo ≤ (g : Int)) && decide ((g : Int) < hi)) = true then 1 else 0)) = true := by rw [near_of (by omega) (by omega)]; rfl
  have i0 : ixD (.list [.int lo, .int hi]) (.int 0) = .ok (.int lo) := rfl
  have i1 : ixD (.list [.int lo, .int hi]) (.int 1) = .ok (.int hi) := rfl
  have v1 : evV (envK w os xs g acc (.dat (.int t.1)) (.dat (.int t.2.1)) (.dat (.int t.2.2)) (.dat (.list [.int lo, .int hi]))) x1_law_gaps = .ok (.int (acc + crs os g t)) := by
    refine evV_scal ?_ rfl
    have hc : evE (envK w os xs g acc (.dat (.int t.1)) (.dat (.int t.2.1)) (.dat (.int t.2.2)) (.dat (.list [.int lo, .int hi]))).frz (.ch2 .le .lt (.ix (.var 8) (.int 0)) (.var 3) (.ix (.var 8) (.int 1))) = .ok (.bool (decide (lo ≤ (g : Int)) && decide ((g : Int) < hi))) := by
      by_cases hq : lo ≤ (g : Int) <;> simp [envK, i0, i1, hq]
    unfold x1_law_gaps
    rw [evE_bin, evE_bin, evE_bi, evL_cons, evL_nil, hc]
    show (Res.ok (PyData.int acc)).bind (fun x => ((Res.ok (PyData.int t.2.2)).bind fun y => (Res.ok (PyData.int (if (decide (lo ≤ (g : Int)) && decide ((g : Int) < hi)) = true then 1 else 0))).bind fun z => mulD y z).bind fun y => addD x y) = _
    rw [bind_ok, bind_ok, bind_ok, mul_int near, bind_ok, crs_two os g t hlh]
    rfl
  refine ⟨.dat (.list [.int lo, .int hi]), ?_⟩
  unfold l2_law_gaps
  rw [exS_cons, exS_asg, v0, out_ok, seq_nx, exS_cons, exS_asg]
  rw [show (envK w os xs g acc (.dat (.int t.1)) (.dat (.int t.2.1)) (.dat (.int t.2.2)) s8).set 8 (.dat (.list [.int lo, .int hi])) = envK w os xs g acc (.dat (.int t.1)) (.dat (.int t.2.1)) (.dat (.int t.2.2)) (.dat (.list [.int lo, .int hi])) from rfl, v1, out_ok, seq_nx, exS_nil]
  rfl
theorem law_gaps_ok {n : Nat} {ts : List Tie} {os : List Int} (h : Wb n ts) (o : Ord n os) : f_law_gaps [webD n (ts.map tieD), .list (os.map .int)] = .ok (.list ((overs os ts (n - 1)).map .int)) := by
  generalize hw : webD n (ts.map tieD) = w
  have hlen := o.len
  have hn := h.n8
  let envM (xs : List Int) (s3 s4 s5 s6 s7 s8 : Slot) : Env := [.dat w, .dat (.list (os.map .int)), .own (xs.map .int), s3, s4, s5, s6, s7, s8]
  have hr : evI (envM [] .none .none .none .none .none .none) (.rng1 (.bin .sub (.bi .len (.cons (.var 1) .nil)) (.int 1))) = .ok (rngD 0 ((n : Int) - 1)) := by
    refine rng1_ok ?_ (by omega) (by omega)
    show Res.ok (PyData.int (((os.map PyData.int).length : Int) - 1)) = _
    rw [List.length_map, hlen]
  obtain ⟨env', h1, s3, s4, s5, s6, s7, s8, rfl⟩ := forGo_rng (f := fun d env => ((⟨false, [3]⟩ : Tg).run env d).out env (exS l3_law_gaps)) (m := 0) (n := n - 1) (env := envM [] .none .none .none .none .none .none)
    (I := fun i env => ∃ s3 s4 s5 s6 s7 s8, env = envM (overs os ts i) s3 s4 s5 s6 s7 s8) ⟨_, _, _, _, _, _, rfl⟩
    (fun i env hi ⟨s3, s4, s5, s6, s7, s8, he⟩ => by
      subst he
      obtain ⟨env2, g1, acc, t5, t6, t7, t8, rfl, g2⟩ := forGo_inv (f := fun d env => ((⟨true, [5, 6, 7]⟩ : Tg).run env d).out env (exS l2_law_gaps)) (g := tieD) (l := ts) (env := envK w os (overs os ts i) i 0 s5 s6 s7 s8)
        (fun rest env => ∃ acc s5 s6 s7 s8, env = envK w os (overs os ts i) i acc s5 s6 s7 s8 ∧ (∀ t ∈ rest, t ∈ ts) ∧ acc + (rest.map (crs os i)).sum = over os ts i)
        ⟨0, _, _, _, _, rfl, fun _ z => z, by rw [Int.zero_add]; rfl⟩
        (fun t r env ⟨acc, s5, s6, s7, s8, he, hm, hs⟩ => by
          subst he
          obtain ⟨s8', q⟩ := gap_turn h o w (overs os ts i) i acc (hm t List.mem_cons_self) s8
          refine ⟨_, q, acc + crs os i t, _, _, _, _, rfl, fun u hu => hm u (List.mem_cons_of_mem _ hu), ?_⟩
          rw [List.map_cons, List.sum_cons] at hs
          omega)
      rw [List.map_nil, List.sum_nil, Int.add_zero] at g2
      have e := exS_app (i := 2) (e := .var 4) (env := envK w os (overs os ts i) i acc t5 t6 t7 t8) (d := .int acc) rfl (evV_scal rfl rfl) (by rw [List.length_map]; unfold overs lim; rw [List.length_map, List.length_range]; omega)
      refine ⟨envM (overs os ts (i + 1)) (.dat (.int i)) (.dat (.int acc)) t5 t6 t7 t8, ?_, _, _, _, _, _, _, rfl⟩
      rw [tg_one, out_ok]
      show exS l3_law_gaps (envM (overs os ts i) (.dat (.int (0 + i))) s4 s5 s6 s7 s8) = _
      unfold l3_law_gaps
      rw [exS_cons, show exS (.asg 4 (.int 0)) (envM (overs os ts i) (.dat (.int (0 + i))) s4 s5 s6 s7 s8) = .nx (envK w os (overs os ts i) (0 + i) 0 s5 s6 s7 s8) from rfl, seq_nx, exS_cons, exS_forr, evI_web (n := n) (ts := ts.map tieD) (by rw [← hw]; rfl), out_ok, Int.zero_add, g1, seq_nx, exS_cons, e, seq_nx, exS_nil, g2.2]
      show Out.nx [Slot.dat w, .dat (.list (os.map .int)), .own ((overs os ts i).map .int ++ [.int (over os ts i)]), .dat (.int i), .dat (.int (over os ts i)), t5, t6, t7, t8] = Out.nx [Slot.dat w, .dat (.list (os.map .int)), .own ((overs os ts (i + 1)).map .int), .dat (.int i), .dat (.int (over os ts i)), t5, t6, t7, t8]
      unfold overs
      rw [List.range_succ, List.map_append, List.map_append]
      rfl)
  have hret : evR (envM (overs os ts (n - 1)) s3 s4 s5 s6 s7 s8) (.var 2) = .ok (.list ((overs os ts (n - 1)).map .int)) := evR_ok rfl
  have hrd : rngD 0 ((n : Int) - 1) = (List.range (n - 1)).map fun (i : Nat) => .int (0 + i) := by
    unfold rngD
    rw [show ((n : Int) - 1 - 0).toNat = n - 1 by omega]
  unfold f_law_gaps
  refine (run2 (o := .ret (.list ((overs os ts (n - 1)).map .int))) ?_).trans rfl
  show exS b_law_gaps [Slot.dat w, .dat (.list (os.map .int)), .none, .none, .none, .none, .none, .none, .none] = _
  unfold b_law_gaps
  rw [exS_cons, show exS (.new 2 (.lst .nil)) [Slot.dat w, .dat (.list (os.map .int)), .none, .none, .none, .none, .none, .none, .none] = .nx (envM [] .none .none .none .none .none .none) from rfl, seq_nx, exS_cons, exS_forr, hr, out_ok, hrd, h1, seq_nx, exS_cons, exS_ret, hret]
  rfl
end Rwl

set_option Elab.async false
set_option linter.all false
set_option maxRecDepth 100000
set_option maxHeartbeats 1000000
namespace Rwl
open PySem
/-! ### the greatest; sums -/
def maxL : List Int → Int
  | [] => 0
  | n :: r => r.foldl max n
theorem maxL_zero {ns : List Int} (h : ∀ x ∈ ns, 0 ≤ x) : ns.foldl max 0 = maxL ns := by
  cases ns with
  | nil => rfl
  | cons n r =>
    show r.foldl max (max 0 n) = r.foldl max n
    rw [Int.max_eq_right (h n List.mem_cons_self)]
theorem maxd_ok {env : Env} {a : E} {ns : List Int} (h : evE env a = .ok (.list (ns.map .int))) : evE env (.maxd a (.int 0)) = .ok (.int (maxL ns)) := by
  rw [evE_maxd, h, bind_ok, evE_int, bind_ok]
  dsimp only
  rw [intL_map, ofO_some, bind_ok]
  cases ns <;> rfl
theorem far_nn (os : List Int) (t : Tie) : 0 ≤ far os t := by unfold far; split <;> omega
theorem over_nn {n : Nat} {ts : List Tie} (h : Wb n ts) (os : List Int) (g : Nat) : 0 ≤ over os ts g := by
  unfold over
  have hb := h.ties.each
  clear h
  induction ts with
  | nil => exact Int.le_refl _
  | cons t r ih =>
    rw [List.map_cons, List.sum_cons]
    have h1 := ih fun u hu => hb u (List.mem_cons_of_mem _ hu)
    have h2 := hb t List.mem_cons_self
    have h3 : 0 ≤ crs os g t := by unfold crs; split <;> omega
    omega
end Rwl

set_option Elab.async false
set_option linter.all false
set_option maxRecDepth 100000
set_option maxHeartbeats 1000000
namespace Rwl
open PySem
/-! ### what the law measures -/
theorem eq_same {d : D} (h : dep 8 d = true) : eqD d d = .ok true := by
  unfold eqD
  rw [h, PySem.SeqAt.eqv_refl_plain d (dep_plain h).1]
  rfl
abbrev oD (os : List Int) : D := .list (os.map .int)
def allG (os : List Int) (ts : List Tie) (n : Nat) : Int := (overs os ts (n - 1)).sum
theorem run3 {b : S} {n : Nat} {x y z : D} {o : Out} (h : exS b ([Slot.dat x, .dat y, .dat z] ++ List.replicate (n - 3) .none) = o) : run 3 n b [x, y, z] = outR o := by
  rw [← h]
  unfold run
  show (match exS b ([Slot.dat x, .dat y, .dat z] ++ List.replicate (n - 3) .none) with
    | .ret d => Res.ok d
    | .nx _ => .ok .none
    | .exc c _ => .exc c
    | .retf xs => .ok (.list xs)
    | .retm d _ => .ok d
    | _ => .bad) = _
  cases exS b ([Slot.dat x, .dat y, .dat z] ++ List.replicate (n - 3) .none) <;> rfl
theorem measured_total {n : Nat} {ts : List Tie} {os : List Int} (h : Wb n ts) (o : Ord n os) : f_law_measured [webD n (ts.map tieD), .str "total", oD os] = .ok (.int (allG os ts n)) := by
  have hg := law_gaps_ok h o
  generalize webD n (ts.map tieD) = w at *
  have e0 : eqD (.str "total") (.str "longest") = .ok false := rfl
  have e1 : eqD (.str "total") (.str "most") = .ok false := rfl
  unfold f_law_measured
  refine (run3 (o := .ret (.int (allG os ts n))) ?_).trans rfl
  show exS b_law_measured [Slot.dat w, .dat (.str "total"), .dat (oD os), .none] = _
  have v2 : evV [Slot.dat w, .dat (.str "total"), .dat (oD os), .none] x2_law_measured = .ok (.list ((overs os ts (n - 1)).map .int)) := by
    rw [evV_plain rfl]
    show f_law_gaps [w, oD os] = _
    exact hg
  have v3 : evR [Slot.dat w, .dat (.str "total"), .dat (oD os), .dat (.list ((overs os ts (n - 1)).map .int))] x3_law_measured = .ok (.int (allG os ts n)) := by
    rw [evR_plain rfl]
    unfold x3_law_measured
    rw [evE_ite, show evT [Slot.dat w, .dat (.str "total"), .dat (oD os), .dat (.list ((overs os ts (n - 1)).map .int))] (.cmp .eq (.var 1) (.str "most")) = .ok false from e1, bind_ok]
    show bi .sum [.list ((overs os ts (n - 1)).map .int)] = _
    rw [bi_sum]
    rfl
  unfold b_law_measured
  rw [exS_cons, exS_ifs, show evB [Slot.dat w, .dat (.str "total"), .dat (oD os), .none] x0_law_measured = .ok false from (evB_plain rfl).trans e0, out_ok]
  dsimp only
  rw [exS_nil, seq_nx, exS_cons, exS_asg, v2, out_ok, seq_nx, exS_cons, exS_ret]
  rw [show ([Slot.dat w, .dat (.str "total"), .dat (oD os), .none] : Env).set 3 (.dat (.list ((overs os ts (n - 1)).map .int))) = [Slot.dat w, .dat (.str "total"), .dat (oD os), .dat (.list ((overs os ts (n - 1)).map .int))] from rfl, v3]
  rfl
theorem bi_max0 (ns : List Int) : bi .max [.list (.int 0 :: ns.map .int)] = .ok (.int (ns.foldl max 0)) := bi_max 0 ns
theorem add_zero_ints (ns : List Int) (h : ns.length ≤ 1000) : addD (.list [.int 0]) (.list (ns.map .int)) = .ok (.list (.int 0 :: ns.map .int)) := by
  show req (decide (1 + (ns.map PyData.int).length ≤ lim)) _ = _
  rw [decide_eq_true (by rw [List.length_map]; unfold lim; omega)]
  rfl
theorem measured_longest {n : Nat} {ts : List Tie} {os : List Int} (h : Wb n ts) (o : Ord n os) : f_law_measured [webD n (ts.map tieD), .str "longest", oD os] = .ok (.int ((ts.map (far os)).foldl max 0)) := by
  have hg := law_lengths_ok h o
  have hl : (ts.map (far os)).length ≤ 1000 := by rw [List.length_map]; have := h.len; omega
  generalize webD n (ts.map tieD) = w at *
  have e0 : eqD (.str "longest") (.str "longest") = .ok true := rfl
  unfold f_law_measured
  refine (run3 (o := .ret (.int ((ts.map (far os)).foldl max 0))) ?_).trans rfl
  show exS b_law_measured [Slot.dat w, .dat (.str "longest"), .dat (oD os), .none] = _
  have v1 : evR [Slot.dat w, .dat (.str "longest"), .dat (oD os), .none] x1_law_measured = .ok (.int ((ts.map (far os)).foldl max 0)) := by
    rw [evR_plain rfl]
    show ((((Res.ok (.list [.int 0])).bind fun x => (f_law_lengths [w, oD os]).bind fun y => addD x y).bind fun x => Res.ok [x]).bind fun ds => bi .max ds) = _
    rw [show f_law_lengths [w, oD os] = _ from hg, bind_ok, bind_ok, add_zero_ints _ hl, bind_ok, bind_ok, bi_max0]
  unfold b_law_measured
  rw [exS_cons, exS_ifs, show evB [Slot.dat w, .dat (.str "longest"), .dat (oD os), .none] x0_law_measured = .ok true from (evB_plain rfl).trans e0, out_ok]
  dsimp only
  rw [exS_cons, exS_ret, v1]
  rfl
/-! ### refusals -/
theorem refusal_n : f_law_refusal [.none] = .ok (.str "ok") := rfl
theorem refusal_1 : f_law_refusal [exn 1] = .ok (.str "order") := rfl
theorem refusal_2 : f_law_refusal [exn 2] = .ok (.str "spot") := rfl
theorem refusal_4 : f_law_refusal [exn 4] = .ok (.str "web") := rfl
end Rwl

set_option Elab.async false
set_option linter.all false
set_option maxRecDepth 100000
set_option maxHeartbeats 1000000
namespace Rwl
open PySem
/-! ### a Laid object; the deeds that change it -/
def oldL (old : List (List Int)) : List (List D) := old.map fun r => r.map .int
def fsL (n : Nat) (ts : List Tie) (row : List Int) (old : List (List Int)) : List (Str × Fl) := [("web", .dat (webD n (ts.map tieD))), ("row", .row (row.map .int)), ("old", .old (oldL old))]
def lD (n : Nat) (ts : List Tie) (row : List Int) (old : List (List Int)) : D := objD 0 ((fsL n ts row old).map fun f => (f.1, f.2.frz))
abbrev slf (t : Nat) (n : Nat) (ts : List Tie) (row : List Int) (old : List (List Int)) : Slot := .ins t 0 (fsL n ts row old)
section
variable {n : Nat} {ts : List Tie} {row : List Int} {old : List (List Int)} {t : Nat}
theorem frz_slf : (slf t n ts row old).frz = .dat (lD n ts row old) := rfl
theorem att_web : attD "web" (lD n ts row old) = .ok (webD n (ts.map tieD)) := rfl
theorem att_row : attD "row" (lD n ts row old) = .ok (oD row) := rfl
theorem att_old : attD "old" (lD n ts row old) = .ok (.list ((oldL old).map .list)) := rfl
theorem isObj_l {m : Str} (h : attF m (fsL n ts row old) = none) : isObj m (lD n ts row old) = true := by
  have e : attF m (fsL n ts row old) = if "web" = m then some (.dat (webD n (ts.map tieD))) else if "row" = m then some (.row (row.map .int)) else if "old" = m then some (.old (oldL old)) else none := rfl
  rw [e] at h
  show (if "web" = m then some (webD n (ts.map tieD)) else if "row" = m then some (oD row) else if "old" = m then some (PyData.list ((oldL old).map .list)) else (none : Option D)).isNone = true
  by_cases h1 : ("web" : Str) = m
  · rw [if_pos h1] at h; cases h
  · rw [if_neg h1] at h ⊢
    by_cases h2 : ("row" : Str) = m
    · rw [if_pos h2] at h; cases h
    · rw [if_neg h2] at h ⊢
      by_cases h3 : ("old" : Str) = m
      · rw [if_pos h3] at h; cases h
      · rw [if_neg h3]; rfl
theorem len_ints (l : List Int) : bi .len [oD l] = .ok (.int l.length) := by
  show Res.ok (PyData.int ((l.map PyData.int).length : Nat)) = _
  rw [List.length_map]
def spotB (l : List Int) (s : Int) : Bool := decide (0 ≤ s) && decide (s < l.length)
theorem need_ok (s : Int) : f_Laid_need [lD n ts row old, .int s] = if spotB row s = true then .ok .none else .exc 2 := by
  have e : evB [Slot.dat (lD n ts row old), .dat (.int s)] x0_Laid_need = .ok (!spotB row s) := by
    rw [evB_plain rfl]
    show ((((Res.ok (decide (0 ≤ s))).bind fun k => match k with
      | false => Res.ok (PyData.bool false)
      | true => ((((((attD "row" (lD n ts row old))).bind fun x => (Res.ok []).bind fun xs => Res.ok (x :: xs)).bind fun ds => bi .len ds)).bind fun z => (ltD (.int s) z).bind fun k => .ok (.bool k))).bind tru).bind fun b => Res.ok (!b)) = _
    rw [att_row]
    simp only [bind_ok, len_ints, lt_int]
    unfold spotB
    cases decide (0 ≤ s) <;> rfl
  unfold f_Laid_need
  refine (run2 (o := if spotB row s = true then .nx [Slot.dat (lD n ts row old), .dat (.int s)] else .exc 2 [Slot.dat (lD n ts row old), .dat (.int s)]) ?_).trans ?_
  · show exS b_Laid_need [Slot.dat (lD n ts row old), .dat (.int s)] = _
    unfold b_Laid_need
    rw [exS_cons, exS_ifs, e, out_ok]
    cases spotB row s <;> rfl
  · cases spotB row s <;> rfl
/-! ### keep -/
def outM (t : Nat) : Out → Rm
  | .nx env => backM t env fun fs' => .ok fs' .none
  | .retm d env => backM t env fun fs' => .ok fs' d
  | .exc c env => backM t env fun fs' => .exc c fs'
  | _ => .bad
theorem runM_is {np N : Nat} {b : S} {t : Nat} {fs : List (Str × Fl)} {ds : List D} {o : Out} (hl : ds.length = np) (h : exS b (.ins t 0 fs :: ds.map .dat ++ List.replicate (N - np - 1) .none) = o) : runM np N b t fs ds = outM t o := by
  subst h
  unfold runM
  rw [decide_eq_true hl]
  show (match exS b (.ins t 0 fs :: ds.map .dat ++ List.replicate (N - np - 1) .none) with
    | .nx env => backM t env fun fs' => .ok fs' .none
    | .retm d env => backM t env fun fs' => .ok fs' d
    | .exc c env => backM t env fun fs' => .exc c fs'
    | _ => Rm.bad) = _
  cases exS b (.ins t 0 fs :: ds.map .dat ++ List.replicate (N - np - 1) .none) <;> rfl
theorem backM_is {t : Nat} {fs : List (Str × Fl)} {r : Env} {k : List (Str × Fl) → Rm} : backM t (.ins t 0 fs :: r) k = k fs := by
  unfold backM
  show (match decide (t = t) && decide (0 = 0) with
    | true => k fs
    | false => .bad) = _
  rw [show (decide (t = t) && decide (0 = 0)) = true by simp]
theorem outM_nx {t : Nat} {fs : List (Str × Fl)} {r : Env} : outM t (.nx (.ins t 0 fs :: r)) = .ok fs .none := backM_is (t := t) (fs := fs) (r := r) (k := fun fs' => .ok fs' .none)
theorem outM_retm {t : Nat} {d : D} {fs : List (Str × Fl)} {r : Env} : outM t (.retm d (.ins t 0 fs :: r)) = .ok fs d := backM_is (t := t) (fs := fs) (r := r) (k := fun fs' => .ok fs' d)
theorem outM_exc {t c : Nat} {fs : List (Str × Fl)} {r : Env} : outM t (.exc c (.ins t 0 fs :: r)) = .exc c fs := backM_is (t := t) (fs := fs) (r := r) (k := fun fs' => .exc c fs')
theorem keep_ok (h : old.length < 1000) : f_Laid_keep (fsL n ts row old) [] = .ok (fsL n ts row (old ++ [row])) .none := by
  unfold f_Laid_keep
  refine stD_is fun t => (runM_is (np := 0) (ds := []) (o := .nx [slf t n ts row (old ++ [row])]) rfl ?_).trans outM_nx
  show exS b_Laid_keep [slf t n ts row old] = _
  unfold b_Laid_keep
  rw [exS_cons]
  have e : exS (.fapp 0 "old" "row") [slf t n ts row old] = .nx [slf t n ts row (old ++ [row])] := by
    show (match decide ((oldL old).length < lim) with
      | true => Out.nx [Slot.ins t 0 [("web", .dat (webD n (ts.map tieD))), ("row", .row (row.map .int)), ("old", .old (oldL old ++ [row.map PyData.int]))]]
      | false => .bad) = _
    rw [decide_eq_true (by unfold oldL lim; rw [List.length_map]; omega)]
    show Out.nx _ = Out.nx _
    congr 1
    unfold slf fsL oldL
    rw [List.map_append]
    rfl
  rw [e]
  rfl
/-! ### swap, move, turn -/
def gi (l : List Int) (i : Nat) : Int := l.getD i 0
def swpI (l : List Int) (i j : Nat) : List Int := (l.set i (gi l j)).set j (gi l i)
def insI (l : List Int) (i j : Nat) : List Int := (l.eraseIdx i).take j ++ [gi l i] ++ (l.eraseIdx i).drop j
def revI (l : List Int) (i j : Nat) : List Int := l.take i ++ ((l.drop i).take (j - i)).reverse ++ l.drop j
theorem getD_ints {l : List Int} {i : Nat} (h : i < l.length) : (l.map PyData.int).getD i .none = .int (gi l i) := by
  unfold gi
  rw [List.getD_eq_getElem?_getD, List.getD_eq_getElem?_getD, List.getElem?_map, List.getElem?_eq_getElem h]
  rfl
theorem swpL_ints {l : List Int} {i j : Nat} (hi : i < l.length) (hj : j < l.length) : swpL (l.map .int) i j = (swpI l i j).map .int := by
  unfold swpL swpI
  rw [getD_ints hi, getD_ints hj, List.map_set, List.map_set]
theorem insL_ints {l : List Int} {i j : Nat} (hi : i < l.length) : insL (l.map .int) i j = (insI l i j).map .int := by
  unfold insL insI
  rw [getD_ints hi, eraseIdx_map, List.map_append, List.map_append, List.map_take, List.map_drop]
  rfl
theorem revL_ints {l : List Int} {i j : Nat} : revL (l.map .int) i j = (revI l i j).map .int := by
  unfold revL revI
  rw [List.map_append, List.map_append, List.map_take, List.map_drop, List.map_reverse, List.map_take, List.map_drop]
theorem two_is {env : Env} {a b m : Nat} {i j : Nat} (ha : env.get a = .dat (.int i)) (hb : env.get b = .dat (.int j)) (hi : i < m) (hj : j < m) : two env a b m = some (i, j) := by
  have e1 : vInt env a = some (i : Int) := by unfold vInt; rw [ha]
  have e2 : vInt env b = some (j : Int) := by unfold vInt; rw [hb]
  unfold two
  rw [e1, e2]
  dsimp only
  rw [decide_eq_true (by omega : (0 : Int) ≤ i), decide_eq_true (by omega : (i : Int) < m), decide_eq_true (by omega : (0 : Int) ≤ j), decide_eq_true (by omega : (j : Int) < m)]
  rfl
theorem strch_is {env : Env} {a b m : Nat} {i j : Nat} (ha : env.get a = .dat (.int i)) (hb : env.get b = .dat (.int j)) (hi : i ≤ j) (hj : j ≤ m) : strch env a b m = some (i, j) := by
  have e1 : vInt env a = some (i : Int) := by unfold vInt; rw [ha]
  have e2 : vInt env b = some (j : Int) := by unfold vInt; rw [hb]
  unfold strch
  rw [e1, e2]
  dsimp only
  rw [decide_eq_true (by omega : (0 : Int) ≤ i), decide_eq_true (by omega : (i : Int) ≤ j), decide_eq_true (by omega : (j : Int) ≤ m)]
  rfl
/-- an own list of the object is changed -/
theorem fchg_is {g : List D → Option (List D)} {ys : List Int} {r : Env} (hl : row.length < 1000) (h : g (row.map .int) = some (ys.map .int)) : fchg (slf t n ts row old :: r) 0 "row" g = .nx (slf t n ts ys old :: r) := by
  show (match decide ((row.map PyData.int).length < lim) with
    | true => match g (row.map .int) with
      | some ys => Out.nx (Slot.ins t 0 [("web", .dat (webD n (ts.map tieD))), ("row", .row ys), ("old", .old (oldL old))] :: r)
      | none => .bad
    | false => .bad) = _
  rw [decide_eq_true (by rw [List.length_map]; unfold lim; omega), h]
  rfl
theorem needs {a : Int} {e : E} {r : Env} (he : evE (Env.frz (slf t n ts row old :: r)) e = f_Laid_need [lD n ts row old, .int a]) : exS (.drop e) (slf t n ts row old :: r) = if spotB row a = true then .nx (slf t n ts row old :: r) else .exc 2 (slf t n ts row old :: r) := by
  rw [exS_drop]
  have q : evR (slf t n ts row old :: r) e = if spotB row a = true then .ok .none else .exc 2 := by
    unfold evR
    rw [he, need_ok]
    cases spotB row a <;> rfl
  rw [q]
  cases spotB row a <;> rfl
theorem keeps {r : Env} (h : old.length < 1000) : exS (.callm 0 1 "keep" f_Laid_keep .nil) (slf t n ts row old :: r) = .nx (slf t n ts row (old ++ [row]) :: r) := by
  show (match f_Laid_keep (fsL n ts row old) [] with
    | .ok fs' d => match scal d with
      | true => Out.nx (Slot.ins t 0 fs' :: r)
      | false => .bad
    | .exc c fs' => .exc c (Slot.ins t 0 fs' :: r)
    | .bad => .bad) = _
  rw [keep_ok h]
  rfl
end
end Rwl

set_option Elab.async false
set_option linter.all false
set_option maxRecDepth 100000
set_option maxHeartbeats 1000000
namespace Rwl
open PySem
section
variable {n : Nat} {ts : List Tie} {row : List Int} {old : List (List Int)} {t : Nat}
theorem spot_in {l : List Int} {i : Nat} (h : i < l.length) : spotB l (i : Int) = true := by
  unfold spotB
  rw [decide_eq_true (by omega : (0 : Int) ≤ i), decide_eq_true (by omega : (i : Int) < l.length)]
  rfl
theorem spot_nat {l : List Int} {a : Int} (h : spotB l a = true) : ∃ i : Nat, a = i ∧ i < l.length := by
  unfold spotB at h
  have h : 0 ≤ a ∧ a < l.length := by simpa using h
  exact ⟨a.toNat, by omega, by omega⟩
/-- the prelude of the three deeds -/
theorem prelude {a b : Int} {e1 e2 : E} {s : S} {r : Env} (h1 : ∀ old', evE (Env.frz (slf t n ts row old' :: r)) e1 = f_Laid_need [lD n ts row old', .int a]) (h2 : ∀ old', evE (Env.frz (slf t n ts row old' :: r)) e2 = f_Laid_need [lD n ts row old', .int b]) (ho : old.length < 1000) :
    exS (.cons (.drop e1) <| .cons (.drop e2) <| .cons (.callm 0 1 "keep" f_Laid_keep .nil) s) (slf t n ts row old :: r) = if (spotB row a && spotB row b) = true then exS s (slf t n ts row (old ++ [row]) :: r) else .exc 2 (slf t n ts row old :: r) := by
  rw [exS_cons, needs (h1 old)]
  cases ha : spotB row a with
  | false => rfl
  | true =>
    rw [if_pos rfl, seq_nx, exS_cons, needs (h2 old)]
    cases hb : spotB row b with
    | false => rfl
    | true => rw [if_pos rfl, seq_nx, exS_cons, keeps ho, seq_nx]; rfl
theorem swap_in {i j : Nat} (hi : i < row.length) (hj : j < row.length) (hl : row.length < 1000) (ho : old.length < 1000) : f_Laid_swap (fsL n ts row old) [.int i, .int j] = .ok (fsL n ts (swpI row i j) (old ++ [row])) .none := by
  unfold f_Laid_swap
  refine stD_is fun t => (runM_is (np := 2) (ds := [.int i, .int j]) (o := .nx [slf t n ts (swpI row i j) (old ++ [row]), .dat (.int i), .dat (.int j)]) rfl ?_).trans outM_nx
  show exS b_Laid_swap [slf t n ts row old, .dat (.int i), .dat (.int j)] = _
  refine (prelude (a := i) (b := j) (fun _ => rfl) (fun _ => rfl) ho).trans ?_
  rw [spot_in hi, spot_in hj, if_pos (by rfl), exS_cons]
  have e : exS (.fswp 0 "row" 1 2) [slf t n ts row (old ++ [row]), .dat (.int i), .dat (.int j)] = .nx [slf t n ts (swpI row i j) (old ++ [row]), .dat (.int i), .dat (.int j)] := by
    refine fchg_is hl ?_
    rw [two_is (i := i) (j := j) rfl rfl (by rw [List.length_map]; exact hi) (by rw [List.length_map]; exact hj)]
    show some (swpL (row.map .int) i j) = _
    rw [swpL_ints hi hj]
  rw [e]
  rfl
theorem move_in {i j : Nat} (hi : i < row.length) (hj : j < row.length) (hl : row.length < 1000) (ho : old.length < 1000) : f_Laid_move (fsL n ts row old) [.int i, .int j] = .ok (fsL n ts (insI row i j) (old ++ [row])) .none := by
  unfold f_Laid_move
  refine stD_is fun t => (runM_is (np := 2) (ds := [.int i, .int j]) (o := .nx [slf t n ts (insI row i j) (old ++ [row]), .dat (.int i), .dat (.int j)]) rfl ?_).trans outM_nx
  show exS b_Laid_move [slf t n ts row old, .dat (.int i), .dat (.int j)] = _
  refine (prelude (a := i) (b := j) (fun _ => rfl) (fun _ => rfl) ho).trans ?_
  rw [spot_in hi, spot_in hj, if_pos (by rfl), exS_cons]
  have e : exS (.fins 0 "row" 1 2) [slf t n ts row (old ++ [row]), .dat (.int i), .dat (.int j)] = .nx [slf t n ts (insI row i j) (old ++ [row]), .dat (.int i), .dat (.int j)] := by
    refine fchg_is hl ?_
    rw [two_is (i := i) (j := j) rfl rfl (by rw [List.length_map]; exact hi) (by rw [List.length_map]; exact hj)]
    show some (insL (row.map .int) i j) = _
    rw [insL_ints hi]
  rw [e]
  rfl
theorem turn_in {i j : Nat} (hi : i < row.length) (hj : j < row.length) (hl : row.length < 1000) (ho : old.length < 1000) : f_Laid_turn (fsL n ts row old) [.int i, .int j] = .ok (fsL n ts (revI row (min i j) (max i j + 1)) (old ++ [row])) .none := by
  unfold f_Laid_turn
  refine stD_is fun t => (runM_is (np := 2) (ds := [.int i, .int j]) (o := .nx [slf t n ts (revI row (min i j) (max i j + 1)) (old ++ [row]), .dat (.int i), .dat (.int j), .dat (.int (min i j : Nat)), .dat (.int (max i j + 1 : Nat))]) rfl ?_).trans outM_nx
  show exS b_Laid_turn [slf t n ts row old, .dat (.int i), .dat (.int j), .none, .none] = _
  refine (prelude (a := i) (b := j) (fun _ => rfl) (fun _ => rfl) ho).trans ?_
  rw [spot_in hi, spot_in hj, if_pos (by rfl), exS_cons]
  have e1 : exS (.par 3 4 (.bi .min2 (.cons (.var 1) (.cons (.var 2) .nil))) (.bin .add (.bi .max2 (.cons (.var 1) (.cons (.var 2) .nil))) (.int 1))) [slf t n ts row (old ++ [row]), .dat (.int i), .dat (.int j), .none, .none] = .nx [slf t n ts row (old ++ [row]), .dat (.int i), .dat (.int j), .dat (.int (min i j : Nat)), .dat (.int (max i j + 1 : Nat))] := by
    show Out.nx [slf t n ts row (old ++ [row]), .dat (.int i), .dat (.int j), .dat (.int (if (j : Int) < i then (j : Int) else i)), .dat (.int ((if (j : Int) > i then (j : Int) else i) + 1))] = _
    have q1 : (if (j : Int) < i then (j : Int) else i) = (min i j : Nat) := by split <;> omega
    have q2 : (if (j : Int) > i then (j : Int) else i) + 1 = (max i j + 1 : Nat) := by split <;> omega
    rw [q1, q2]
  rw [e1, seq_nx, exS_cons]
  have e : exS (.frev 0 "row" 3 4) [slf t n ts row (old ++ [row]), .dat (.int i), .dat (.int j), .dat (.int (min i j : Nat)), .dat (.int (max i j + 1 : Nat))] = .nx [slf t n ts (revI row (min i j) (max i j + 1)) (old ++ [row]), .dat (.int i), .dat (.int j), .dat (.int (min i j : Nat)), .dat (.int (max i j + 1 : Nat))] := by
    refine fchg_is hl ?_
    rw [strch_is (i := min i j) (j := max i j + 1) rfl rfl (by omega) (by rw [List.length_map]; omega)]
    show some (revL (row.map .int) (min i j) (max i j + 1)) = _
    rw [revL_ints]
  rw [e]
  rfl
theorem swap_out {a b : Int} (h : (spotB row a && spotB row b) = false) (ho : old.length < 1000) : f_Laid_swap (fsL n ts row old) [.int a, .int b] = .exc 2 (fsL n ts row old) := by
  unfold f_Laid_swap
  refine stD_is fun t => (runM_is (np := 2) (ds := [.int a, .int b]) (o := .exc 2 [slf t n ts row old, .dat (.int a), .dat (.int b)]) rfl ?_).trans outM_exc
  show exS b_Laid_swap [slf t n ts row old, .dat (.int a), .dat (.int b)] = _
  refine (prelude (a := a) (b := b) (fun _ => rfl) (fun _ => rfl) ho).trans ?_
  rw [h]
  rfl
theorem move_out {a b : Int} (h : (spotB row a && spotB row b) = false) (ho : old.length < 1000) : f_Laid_move (fsL n ts row old) [.int a, .int b] = .exc 2 (fsL n ts row old) := by
  unfold f_Laid_move
  refine stD_is fun t => (runM_is (np := 2) (ds := [.int a, .int b]) (o := .exc 2 [slf t n ts row old, .dat (.int a), .dat (.int b)]) rfl ?_).trans outM_exc
  show exS b_Laid_move [slf t n ts row old, .dat (.int a), .dat (.int b)] = _
  refine (prelude (a := a) (b := b) (fun _ => rfl) (fun _ => rfl) ho).trans ?_
  rw [h]
  rfl
theorem turn_out {a b : Int} (h : (spotB row a && spotB row b) = false) (ho : old.length < 1000) : f_Laid_turn (fsL n ts row old) [.int a, .int b] = .exc 2 (fsL n ts row old) := by
  unfold f_Laid_turn
  refine stD_is fun t => (runM_is (np := 2) (ds := [.int a, .int b]) (o := .exc 2 [slf t n ts row old, .dat (.int a), .dat (.int b), .none, .none]) rfl ?_).trans outM_exc
  show exS b_Laid_turn [slf t n ts row old, .dat (.int a), .dat (.int b), .none, .none] = _
  refine (prelude (a := a) (b := b) (fun _ => rfl) (fun _ => rfl) ho).trans ?_
  rw [h]
  rfl
/-! ### back -/
theorem back_none : f_Laid_back (fsL n ts row []) [] = .ok (fsL n ts row []) (.bool false) := by
  unfold f_Laid_back
  exact stD_is fun t => (runM_is (np := 0) (ds := []) (o := .retm (.bool false) [slf t n ts row []]) rfl rfl).trans outM_retm
theorem back_some {last : List Int} : f_Laid_back (fsL n ts row (old ++ [last])) [] = .ok (fsL n ts last old) (.bool true) := by
  unfold f_Laid_back
  refine stD_is fun t => (runM_is (np := 0) (ds := []) (o := .retm (.bool true) [slf t n ts last old]) rfl ?_).trans outM_retm
  show exS b_Laid_back [slf t n ts row (old ++ [last])] = _
  have hne : ((oldL (old ++ [last])).map PyData.list).isEmpty = false := by
    unfold oldL
    rw [List.map_append, List.map_append]
    simp
  have e : evB [slf t n ts row (old ++ [last])] x0_Laid_back = .ok false := by
    refine evB_ok ?_
    show ((attD "old" (lD n ts row (old ++ [last]))).bind tru).bind (fun b => Res.ok (!b)) = _
    rw [att_old, bind_ok, tru_list, hne]
    rfl
  have e2 : exS (.fpop 0 "old" "row") [slf t n ts row (old ++ [last])] = .nx [slf t n ts last old] := by
    show (match (oldL (old ++ [last])).getLast? with
      | some ys => match decide (3 < 900) && decide (("old" : Str) ≠ "row") with
        | true => Out.nx [Slot.ins t 0 [("web", .dat (webD n (ts.map tieD))), ("row", .row ys), ("old", .old (oldL (old ++ [last])).dropLast)]]
        | false => .bad
      | none => .bad) = _
    have q1 : (oldL (old ++ [last])).getLast? = some (last.map PyData.int) := by
      unfold oldL
      rw [List.map_append]
      simp
    have q2 : (oldL (old ++ [last])).dropLast = oldL old := by
      unfold oldL
      rw [List.map_append]
      simp
    rw [q1, q2]
    rfl
  unfold b_Laid_back
  rw [exS_cons, exS_ifs, e, out_ok]
  dsimp only
  rw [exS_nil, seq_nx, exS_cons, e2, seq_nx]
  rfl
end
end Rwl

set_option Elab.async false
set_option linter.all false
set_option maxRecDepth 100000
set_option maxHeartbeats 1000000
namespace Rwl
open PySem
/-! ### a deed, by the law: done by the object, on the law's own list -/
def deedI (w : Nat) (l : List Int) (i j : Nat) : List Int := match w with
  | 0 => swpI l i j
  | 1 => insI l i j
  | _ => revI l (min i j) (max i j + 1)
section
variable {n : Nat} {ts : List Tie} {row : List Int} {old : List (List Int)} {t : Nat}
theorem tru_eq (a b : Int) {e1 : E} {env : Env} (h : evE (Env.frz env) e1 = .ok (.int a)) : evB env (.cmp .eq e1 (.int b)) = .ok (decide (a = b)) := by
  refine evB_ok ?_
  rw [evT_cmp, h, bind_ok, evE_int, bind_ok, run_eq, eq_int]
/-- what a state call in a statement comes to -/
theorem callm_is {i k : Nat} {m : Str} {f : Fm} {es : E} {env : Env} {fs : List (Str × Fl)} {mk : List (Str × Fl) → Slot} {ds : List D} (hs : (env.get i).selfO = some (fs, mk)) (hm : attF m fs = none) (hd : evL env es = .ok ds) :
    exS (.callm i k m f es) env = match f fs ds with
      | .ok fs' d => match scal d with
        | true => .nx (env.set i (mk fs'))
        | false => .bad
      | .exc c fs' => .exc c (env.set i (mk fs'))
      | .bad => .bad := by
  show stx env i m f (evL env es) (fun env' _ => .nx env') = _
  unfold stx
  rw [hs]
  dsimp only
  rw [hm, hd]
  rfl
def okE (row row' : List Int) (old old' : List (List Int)) (n : Nat) (ts : List Tie) (b : Bool) : Rm := if b = true then .ok (fsL n ts row' old') (.str "ok") else .ok (fsL n ts row old) (.str "spot")
/-- by what the three deeds are -/
theorem done_go {w : Nat} (hw : w < 3) {a b : Int} {row' : List Int} {bo : Bool} (ho : old.length < 1000)
    (h0 : w = 0 → f_Laid_swap (fsL n ts row old) [.int a, .int b] = if bo = true then .ok (fsL n ts row' (old ++ [row])) .none else .exc 2 (fsL n ts row old))
    (h1 : w = 1 → f_Laid_move (fsL n ts row old) [.int a, .int b] = if bo = true then .ok (fsL n ts row' (old ++ [row])) .none else .exc 2 (fsL n ts row old))
    (h2 : w = 2 → f_Laid_turn (fsL n ts row old) [.int a, .int b] = if bo = true then .ok (fsL n ts row' (old ++ [row])) .none else .exc 2 (fsL n ts row old)) :
    f_law_done (fsL n ts row old) [.int w, .int a, .int b] = if bo = true then .ok (fsL n ts row' (old ++ [row])) (.str "ok") else .ok (fsL n ts row old) (.str "spot") := by
  unfold f_law_done
  refine stD_is fun t => ?_
  have env0 : ∀ (r : List Int) (o : List (List Int)) (s4 : Slot), Env := fun r o s4 => [slf t n ts r o, .dat (.int w), .dat (.int a), .dat (.int b), s4, .none]
  have body : exS (.ifs x0_law_done (.cons (.callm 0 2 "swap" f_Laid_swap (.cons (.var 2) (.cons (.var 3) .nil))) .nil) (.cons (.ifs x1_law_done (.cons (.callm 0 3 "move" f_Laid_move (.cons (.var 2) (.cons (.var 3) .nil))) .nil) (.cons (.callm 0 4 "turn" f_Laid_turn (.cons (.var 2) (.cons (.var 3) .nil))) .nil)) .nil)) [slf t n ts row old, .dat (.int w), .dat (.int a), .dat (.int b), .dat .none, .none] =
      if bo = true then .nx [slf t n ts row' (old ++ [row]), .dat (.int w), .dat (.int a), .dat (.int b), .dat .none, .none] else .exc 2 [slf t n ts row old, .dat (.int w), .dat (.int a), .dat (.int b), .dat .none, .none] := by
    have c0 : evB [slf t n ts row old, .dat (.int w), .dat (.int a), .dat (.int b), .dat .none, .none] x0_law_done = .ok (decide ((w : Int) = 0)) := tru_eq w 0 rfl
    have c1 : evB [slf t n ts row old, .dat (.int w), .dat (.int a), .dat (.int b), .dat .none, .none] x1_law_done = .ok (decide ((w : Int) = 1)) := tru_eq w 1 rfl
    have fin : ∀ (k : Nat) (m : Str) (f : Fm), attF m (fsL n ts row old) = none → f (fsL n ts row old) [.int a, .int b] = (if bo = true then .ok (fsL n ts row' (old ++ [row])) .none else .exc 2 (fsL n ts row old)) → exS (.callm 0 k m f (.cons (.var 2) (.cons (.var 3) .nil))) [slf t n ts row old, .dat (.int w), .dat (.int a), .dat (.int b), .dat .none, .none] = if bo = true then .nx [slf t n ts row' (old ++ [row]), .dat (.int w), .dat (.int a), .dat (.int b), .dat .none, .none] else .exc 2 [slf t n ts row old, .dat (.int w), .dat (.int a), .dat (.int b), .dat .none, .none] := fun k m f hm hf => by
      rw [callm_is (mk := .ins t 0) (fs := fsL n ts row old) (ds := [.int a, .int b]) rfl hm rfl, hf]
      cases bo <;> rfl
    rw [exS_ifs, c0, out_ok]
    match w, hw with
    | 0, _ =>
      show exS (.cons _ .nil) _ = _
      rw [exS_cons, fin 2 "swap" _ rfl (h0 rfl)]
      cases bo <;> rfl
    | 1, _ =>
      show exS (.cons _ .nil) _ = _
      rw [exS_cons, exS_ifs, c1, out_ok]
      show (exS (.cons _ .nil) _).seq _ = _
      rw [exS_cons, fin 3 "move" _ rfl (h1 rfl)]
      cases bo <;> rfl
    | 2, _ =>
      show exS (.cons _ .nil) _ = _
      rw [exS_cons, exS_ifs, c1, out_ok]
      show (exS (.cons _ .nil) _).seq _ = _
      rw [exS_cons, fin 4 "turn" _ rfl (h2 rfl)]
      cases bo <;> rfl
  cases bo with
  | true =>
    refine (runM_is (np := 3) (ds := [.int w, .int a, .int b]) (o := .retm (.str "ok") [slf t n ts row' (old ++ [row]), .dat (.int w), .dat (.int a), .dat (.int b), .dat .none, .none]) rfl ?_).trans outM_retm
    show exS b_law_done [slf t n ts row old, .dat (.int w), .dat (.int a), .dat (.int b), .none, .none] = _
    unfold b_law_done
    rw [exS_cons, show exS (.asg 4 .non) [slf t n ts row old, .dat (.int w), .dat (.int a), .dat (.int b), .none, .none] = .nx [slf t n ts row old, .dat (.int w), .dat (.int a), .dat (.int b), .dat .none, .none] from rfl, seq_nx, exS_cons, exS_tryk, exS_cons, body]
    rfl
  | false =>
    refine (runM_is (np := 3) (ds := [.int w, .int a, .int b]) (o := .retm (.str "spot") [slf t n ts row old, .dat (.int w), .dat (.int a), .dat (.int b), .dat (exn 2), .none]) rfl ?_).trans outM_retm
    show exS b_law_done [slf t n ts row old, .dat (.int w), .dat (.int a), .dat (.int b), .none, .none] = _
    unfold b_law_done
    rw [exS_cons, show exS (.asg 4 .non) [slf t n ts row old, .dat (.int w), .dat (.int a), .dat (.int b), .none, .none] = .nx [slf t n ts row old, .dat (.int w), .dat (.int a), .dat (.int b), .dat .none, .none] from rfl, seq_nx, exS_cons, exS_tryk, exS_cons, body]
    rfl
theorem done_in {w : Nat} (hw : w < 3) {i j : Nat} (hi : i < row.length) (hj : j < row.length) (hl : row.length < 1000) (ho : old.length < 1000) : f_law_done (fsL n ts row old) [.int w, .int i, .int j] = .ok (fsL n ts (deedI w row i j) (old ++ [row])) (.str "ok") :=
  done_go (bo := true) (row' := deedI w row i j) hw ho (fun z => by subst z; exact swap_in hi hj hl ho) (fun z => by subst z; exact move_in hi hj hl ho) (fun z => by subst z; exact turn_in hi hj hl ho)
theorem done_out {w : Nat} (hw : w < 3) {a b : Int} (h : (spotB row a && spotB row b) = false) (ho : old.length < 1000) : f_law_done (fsL n ts row old) [.int w, .int a, .int b] = .ok (fsL n ts row old) (.str "spot") :=
  done_go (bo := false) (row' := row) hw ho (fun _ => swap_out h ho) (fun _ => move_out h ho) (fun _ => turn_out h ho)
end
end Rwl

set_option Elab.async false
set_option linter.all false
set_option maxRecDepth 100000
set_option maxHeartbeats 1000000
namespace Rwl
open PySem
/-! ### a deed leaves an order -/
theorem gi_get {l : List Int} {i : Nat} (h : i < l.length) : gi l i = l[i] := by
  unfold gi
  rw [List.getD_eq_getElem?_getD, List.getElem?_eq_getElem h]
  rfl
theorem swp_perm {l : List Int} {i j : Nat} (hi : i < l.length) (hj : j < l.length) : (swpI l i j).Perm l := by
  unfold swpI
  rw [gi_get hi, gi_get hj]
  exact List.set_set_perm hi hj
theorem ins_permI {l : List Int} {i j : Nat} (hi : i < l.length) : (insI l i j).Perm l := by
  unfold insI
  rw [gi_get hi, List.append_assoc, List.singleton_append]
  refine List.perm_middle.trans ?_
  rw [List.take_append_drop]
  exact perm_erase hi
theorem rev_perm {l : List Int} {i j : Nat} (hij : i ≤ j) : (revI l i j).Perm l := by
  unfold revI
  have e : l = l.take i ++ ((l.drop i).take (j - i) ++ l.drop j) := by
    have h1 : (l.drop i).drop (j - i) = l.drop j := by
      rw [List.drop_drop]
      congr 1
      omega
    rw [← h1, List.take_append_drop, List.take_append_drop]
  rw [List.append_assoc]
  conv => rhs; rw [e]
  exact List.Perm.append_left _ (List.Perm.append_right _ (List.reverse_perm _))
theorem deed_perm {w : Nat} {l : List Int} {i j : Nat} (hi : i < l.length) (hj : j < l.length) : (deedI w l i j).Perm l := by
  unfold deedI
  split
  · exact swp_perm hi hj
  · exact ins_permI hi
  · exact rev_perm (by omega)
theorem deed_ord {n w : Nat} {l : List Int} {i j : Nat} (o : Ord n l) (hi : i < n) (hj : j < n) : Ord n (deedI w l i j) :=
  ⟨(deed_perm (by rw [o.len]; exact hi) (by rw [o.len]; exact hj)).trans o.perm⟩
/-! ### the law's own deed -/
theorem run4 {b : S} {N : Nat} {x y z w : D} {o : Out} (h : exS b ([Slot.dat x, .dat y, .dat z, .dat w] ++ List.replicate (N - 4) .none) = o) : run 4 N b [x, y, z, w] = outR o := by
  rw [← h]
  unfold run
  show (match exS b ([Slot.dat x, .dat y, .dat z, .dat w] ++ List.replicate (N - 4) .none) with
    | .ret d => Res.ok d
    | .nx _ => .ok .none
    | .exc c _ => .exc c
    | .retf xs => .ok (.list xs)
    | .retm d _ => .ok d
    | _ => .bad) = _
  cases exS b ([Slot.dat x, .dat y, .dat z, .dat w] ++ List.replicate (N - 4) .none) <;> rfl
theorem ix_ints {l : List Int} {i : Nat} (h : i < l.length) : ixD (oD l) (.int i) = .ok (.int (gi l i)) := by
  show ofO (pix (l.map PyData.int) (i : Int)) = _
  rw [pix_nn (by omega), Int.toNat_natCast, List.getElem?_map, List.getElem?_eq_getElem h, gi_get h]
  rfl
theorem sl_lo (l : List Int) (i : Nat) : slD none (some (i : Int)) (oD l) = .ok (oD (l.take i)) := by
  rw [sl_take _ (by omega), Int.toNat_natCast, ← List.map_take]
theorem sl_hi (l : List Int) (i : Nat) : slD (some (i : Int)) none (oD l) = .ok (oD (l.drop i)) := by
  rw [sl_drop _ (by omega), Int.toNat_natCast, ← List.map_drop]
theorem sl_mid (l : List Int) {i j : Nat} (hi : i ≤ l.length) (hj : j ≤ l.length) : slD (some (i : Int)) (some (j : Int)) (oD l) = .ok (oD ((l.drop i).take (j - i))) := by
  show Res.ok (PyData.list (((l.map PyData.int).drop (if (i : Int) < 0 then ((i : Int) + ((l.map PyData.int).length : Nat)).toNat else min (i : Int).toNat (l.map PyData.int).length)).take ((if (j : Int) < 0 then ((j : Int) + ((l.map PyData.int).length : Nat)).toNat else min (j : Int).toNat (l.map PyData.int).length) - (if (i : Int) < 0 then ((i : Int) + ((l.map PyData.int).length : Nat)).toNat else min (i : Int).toNat (l.map PyData.int).length)))) = _
  rw [if_neg (by omega), if_neg (by omega), List.length_map, Int.toNat_natCast, Int.toNat_natCast, Nat.min_eq_left hi, Nat.min_eq_left hj, ← List.map_drop, ← List.map_take]
theorem add_ints {a b : List Int} (h : a.length + b.length ≤ 10000) : addD (oD a) (oD b) = .ok (oD (a ++ b)) := by
  rw [add_list (by rw [List.length_map, List.length_map]; unfold lim; omega), ← List.map_append]
theorem law_deed_ok {w : Nat} (hw : w < 3) {l : List Int} {i j : Nat} (hi : i < l.length) (hj : j < l.length) (hl : l.length < 1000) : f_law_deed [oD l, .int w, .int i, .int j] = .ok (oD (deedI w l i j)) := by
  unfold f_law_deed
  refine (run4 (o := .ret (oD (deedI w l i j))) ?_).trans rfl
  show exS b_law_deed [Slot.dat (oD l), .dat (.int w), .dat (.int i), .dat (.int j), .none, .none, .none, .none] = _
  unfold b_law_deed
  rw [exS_cons, show exS (.new 4 x0_law_deed) [Slot.dat (oD l), .dat (.int w), .dat (.int i), .dat (.int j), .none, .none, .none, .none] = .nx [Slot.dat (oD l), .dat (.int w), .dat (.int i), .dat (.int j), .own (l.map .int), .none, .none, .none] from rfl, seq_nx, exS_cons, exS_ifs]
  have c1 : evB [Slot.dat (oD l), .dat (.int w), .dat (.int i), .dat (.int j), .own (l.map .int), .none, .none, .none] x1_law_deed = .ok (decide ((w : Int) = 0)) := tru_eq w 0 rfl
  have c2 : evB [Slot.dat (oD l), .dat (.int w), .dat (.int i), .dat (.int j), .own (l.map .int), .none, .none, .none] x2_law_deed = .ok (decide ((w : Int) = 1)) := tru_eq w 1 rfl
  rw [c1, out_ok]
  match w, hw with
  | 0, _ =>
    have s1 := exS_seti [Slot.dat (oD l), .dat (.int (0 : Nat)), .dat (.int i), .dat (.int j), .own (l.map .int), .none, .none, .none] (i := 4) (k := .var 2) (e := .ix (.var 0) (.var 3)) (xs := l.map .int) (d := .int (gi l j)) (j := i) rfl (evV_scal (ix_ints hj) rfl) (evV_scal rfl rfl) (by omega) (by rw [List.length_map]; omega)
    have s2 := exS_seti [Slot.dat (oD l), .dat (.int (0 : Nat)), .dat (.int i), .dat (.int j), .own ((l.map PyData.int).set i (.int (gi l j))), .none, .none, .none] (i := 4) (k := .var 3) (e := .ix (.var 0) (.var 2)) (xs := (l.map PyData.int).set i (.int (gi l j))) (d := .int (gi l i)) (j := j) rfl (evV_scal (ix_ints hi) rfl) (evV_scal rfl rfl) (by omega) (by rw [List.length_set, List.length_map]; omega)
    rw [Int.toNat_natCast] at s1 s2
    show (exS (.cons _ (.cons _ (.cons _ .nil))) _).seq _ = _
    rw [exS_cons, s1, seq_nx, exS_cons]
    show ((exS (.seti 4 (.var 3) (.ix (.var 0) (.var 2))) [Slot.dat (oD l), .dat (.int (0 : Nat)), .dat (.int i), .dat (.int j), .own ((l.map PyData.int).set i (.int (gi l j))), .none, .none, .none]).seq _).seq _ = _
    rw [s2]
    show Out.ret (.list (((l.map PyData.int).set i (.int (gi l j))).set j (.int (gi l i)))) = _
    rw [← List.map_set, ← List.map_set]
    rfl
  | 1, _ =>
    show (exS .nil _).seq _ = _
    rw [exS_nil, seq_nx, exS_cons, exS_ifs, c2, out_ok]
    show (exS (.cons _ (.cons _ .nil)) _).seq _ = _
    have er : l.take i ++ l.drop (i + 1) = l.eraseIdx i := (List.eraseIdx_eq_take_drop_succ ..).symm
    have q3 : evE [Slot.dat (oD l), .dat (.int (1 : Nat)), .dat (.int i), .dat (.int j), .dat (oD l), .none, .none, .none] x3_law_deed = .ok (oD (l.eraseIdx i)) := by
      show (slD none (some (i : Int)) (oD l)).bind (fun x => (slD (some ((i : Int) + 1)) none (oD l)).bind fun y => addD x y) = _
      rw [sl_lo, bind_ok, show ((i : Int) + 1) = ((i + 1 : Nat) : Int) by omega, sl_hi, bind_ok, add_ints (by rw [List.length_take, List.length_drop]; omega), er]
    have q3' : evE [Slot.dat (oD l), .dat (.int (1 : Nat)), .dat (.int i), .dat (.int j), .own (l.map .int), .none, .none, .none] x3_law_deed = .ok (oD (l.eraseIdx i)) := q3
    have q3v : evV [Slot.dat (oD l), .dat (.int (1 : Nat)), .dat (.int i), .dat (.int j), .own (l.map .int), .none, .none, .none] x3_law_deed = .ok (oD (l.eraseIdx i)) := evV_both q3 q3'
    rw [exS_cons, exS_asg, q3v, out_ok, seq_nx, exS_cons, exS_ret]
    have hlen : (l.eraseIdx i).length ≤ l.length := List.length_eraseIdx_le l i
    have q4 : evR [Slot.dat (oD l), .dat (.int (1 : Nat)), .dat (.int i), .dat (.int j), .own (l.map .int), .dat (oD (l.eraseIdx i)), .none, .none] x4_law_deed = .ok (oD (insI l i j)) := by
      refine evR_ok ?_
      show ((slD none (some (j : Int)) (oD (l.eraseIdx i))).bind fun x => ((((ixD (oD l) (.int i)).bind fun x => (Res.ok []).bind fun xs => Res.ok (x :: xs)).bind fun ds => req (decide (ds.length ≤ lim)) (.ok (.list ds)))).bind fun y => addD x y).bind (fun x => (slD (some (j : Int)) none (oD (l.eraseIdx i))).bind fun y => addD x y) = _
      rw [sl_lo, bind_ok, ix_ints hi, bind_ok, bind_ok, bind_ok]
      show ((addD (oD ((l.eraseIdx i).take j)) (oD [gi l i])).bind fun x => (slD (some (j : Int)) none (oD (l.eraseIdx i))).bind fun y => addD x y) = _
      rw [add_ints (by rw [List.length_take, List.length_singleton]; omega), bind_ok, sl_hi, bind_ok, add_ints (by rw [List.length_append, List.length_take, List.length_drop, List.length_singleton]; omega)]
      rfl
    rw [show ([Slot.dat (oD l), .dat (.int (1 : Nat)), .dat (.int i), .dat (.int j), .own (l.map .int), .none, .none, .none] : Env).set 5 (.dat (oD (l.eraseIdx i))) = [Slot.dat (oD l), .dat (.int (1 : Nat)), .dat (.int i), .dat (.int j), .own (l.map .int), .dat (oD (l.eraseIdx i)), .none, .none] from rfl, q4]
    rfl
  | 2, _ =>
    show (exS .nil _).seq _ = _
    rw [exS_nil, seq_nx, exS_cons, exS_ifs, c2, out_ok]
    show (exS .nil _).seq _ = _
    have q5 : (if (j : Int) < i then (j : Int) else i) = (min i j : Nat) := by split <;> omega
    have q6 : (if (j : Int) > i then (j : Int) else i) = (max i j : Nat) := by split <;> omega
    have e5 : evV [Slot.dat (oD l), .dat (.int (2 : Nat)), .dat (.int i), .dat (.int j), .own (l.map .int), .none, .none, .none] x5_law_deed = .ok (.int (min i j : Nat)) := by
      refine evV_scal ?_ rfl
      show Res.ok (PyData.int (if (j : Int) < i then (j : Int) else i)) = _
      rw [q5]
    have e6 : evV [Slot.dat (oD l), .dat (.int (2 : Nat)), .dat (.int i), .dat (.int j), .own (l.map .int), .none, .dat (.int (min i j : Nat)), .none] x6_law_deed = .ok (.int (max i j : Nat)) := by
      refine evV_scal ?_ rfl
      show Res.ok (PyData.int (if (j : Int) > i then (j : Int) else i)) = _
      rw [q6]
    rw [exS_nil, seq_nx, exS_cons, exS_asg, e5, out_ok, seq_nx, exS_cons, exS_asg]
    rw [show ([Slot.dat (oD l), .dat (.int (2 : Nat)), .dat (.int i), .dat (.int j), .own (l.map .int), .none, .none, .none] : Env).set 6 (.dat (.int (min i j : Nat))) = [Slot.dat (oD l), .dat (.int (2 : Nat)), .dat (.int i), .dat (.int j), .own (l.map .int), .none, .dat (.int (min i j : Nat)), .none] from rfl, e6, out_ok, seq_nx, exS_cons, exS_ret]
    have q7 : evR [Slot.dat (oD l), .dat (.int (2 : Nat)), .dat (.int i), .dat (.int j), .own (l.map .int), .none, .dat (.int (min i j : Nat)), .dat (.int (max i j : Nat))] x7_law_deed = .ok (oD (revI l (min i j) (max i j + 1))) := by
      refine evR_ok ?_
      show (((slD none (some ((min i j : Nat) : Int)) (oD l)).bind fun x => ((slD (some ((min i j : Nat) : Int)) (some (((max i j : Nat) : Int) + 1)) (oD l)).bind revD).bind fun y => addD x y).bind fun x => (slD (some (((max i j : Nat) : Int) + 1)) none (oD l)).bind fun y => addD x y) = _
      rw [sl_lo, bind_ok, show (((max i j : Nat) : Int) + 1) = ((max i j + 1 : Nat) : Int) by omega, sl_mid l (by omega) (by omega), bind_ok]
      show ((addD (oD (l.take (min i j))) (.list ((((l.drop (min i j)).take (max i j + 1 - min i j)).map PyData.int).reverse))).bind fun x => (slD (some ((max i j + 1 : Nat) : Int)) none (oD l)).bind fun y => addD x y) = _
      rw [← List.map_reverse, add_ints (by rw [List.length_take, List.length_reverse, List.length_take, List.length_drop]; omega), bind_ok, sl_hi, bind_ok, add_ints (by rw [List.length_append, List.length_take, List.length_reverse, List.length_take, List.length_drop, List.length_drop]; omega)]
      rfl
    rw [show ([Slot.dat (oD l), .dat (.int (2 : Nat)), .dat (.int i), .dat (.int j), .own (l.map .int), .none, .dat (.int (min i j : Nat)), .none] : Env).set 7 (.dat (.int (max i j : Nat))) = [Slot.dat (oD l), .dat (.int (2 : Nat)), .dat (.int i), .dat (.int j), .own (l.map .int), .none, .dat (.int (min i j : Nat)), .dat (.int (max i j : Nat))] from rfl, q7]
    rfl
end Rwl

set_option Elab.async false
set_option linter.all false
set_option maxRecDepth 100000
set_option maxHeartbeats 1000000
namespace Rwl
open PySem
/-! ### what the object tells -/
section
variable {n : Nat} {ts : List Tie} {row : List Int} {old : List (List Int)}
theorem order_is : f_Laid_order [lD n ts row old] = .ok (oD row) := by
  unfold f_Laid_order
  exact runF1 (xs := row.map .int) rfl
theorem gaps_is (h : Wb n ts) (o : Ord n row) : f_Laid_gaps [lD n ts row old] = .ok (oD (overs row ts (n - 1))) := by
  unfold f_Laid_gaps
  refine runF1 (xs := (overs row ts (n - 1)).map .int) ?_
  show exS b_Laid_gaps [Slot.dat (lD n ts row old)] = _
  unfold b_Laid_gaps
  rw [exS_cons]
  have e : exS (.retc 3 f_gaps (.cons (.att (.var 0) "web") (.cons (.att (.var 0) "row") .nil))) [Slot.dat (lD n ts row old)] = .retf ((overs row ts (n - 1)).map .int) := by
    show (f_gaps [webD n (ts.map tieD), oD row]).out [Slot.dat (lD n ts row old)] asF = _
    rw [gaps_ok h o]
    rfl
  rw [e]
  rfl
theorem longest_is (h : Wb n ts) (o : Ord n row) : f_Laid_longest [lD n ts row old] = .ok (.int (maxL (ts.map (far row)))) := by
  have e : evR [Slot.dat (lD n ts row old)] x0_Laid_longest = .ok (.int (maxL (ts.map (far row)))) := by
    rw [evR_plain rfl]
    refine maxd_ok ?_
    show f_lengths [webD n (ts.map tieD), oD row] = _
    exact lengths_ok h o
  unfold f_Laid_longest
  refine (run1 (o := .ret (.int (maxL (ts.map (far row))))) ?_).trans rfl
  show exS b_Laid_longest [Slot.dat (lD n ts row old)] = _
  unfold b_Laid_longest
  rw [exS_cons, exS_ret, e]
  rfl
theorem sum_ints (l : List Int) : bi .sum [oD l] = .ok (.int l.sum) := by
  show (ofO (intL (l.map PyData.int))).bind (fun ns => Res.ok (PyData.int ns.sum)) = _
  rw [intL_map]
  rfl
theorem total_is (h : Wb n ts) (o : Ord n row) : f_Laid_total [lD n ts row old] = .ok (.int (allG row ts n)) := by
  have e : evR [Slot.dat (lD n ts row old)] x0_Laid_total = .ok (.int (allG row ts n)) := by
    rw [evR_plain rfl]
    show ((f_gaps [webD n (ts.map tieD), oD row]).bind fun x => Res.ok [x]).bind (fun ds => bi .sum ds) = _
    rw [gaps_ok h o, bind_ok, bind_ok, sum_ints]
    rfl
  unfold f_Laid_total
  refine (run1 (o := .ret (.int (allG row ts n))) ?_).trans rfl
  show exS b_Laid_total [Slot.dat (lD n ts row old)] = _
  unfold b_Laid_total
  rw [exS_cons, exS_ret, e]
  rfl
end
end Rwl

set_option Elab.async false
set_option linter.all false
set_option maxRecDepth 100000
set_option maxHeartbeats 1000000
namespace Rwl
open PySem
/-! ### the best swap -/
abbrev Bst := Option (Int × Nat × Nat)
def bD : Bst → D
  | none => .none
  | some (t, i, j) => .tuple [.int t, .int i, .int j]
/-- the pair alone -/
def cD : Bst → D
  | none => .none
  | some (_, i, j) => .tuple [.int i, .int j]
/-- the program's step, the law's -/
def stepP (b : Bst) (t : Int) (i j : Nat) : Bst := match b with
  | none => some (t, i, j)
  | some (t', i', j') => if lexLt [t, i, j] [t', i', j'] = true then some (t, i, j) else some (t', i', j')
def stepL (h : Int) (c : Bst) (t : Int) (i j : Nat) : Bst := match c with
  | none => if t < h then some (t, i, j) else none
  | some (t', i', j') => if t < h ∧ t < t' then some (t, i, j) else some (t', i', j')
/-- what is below h -/
def lowB (h : Int) : Bst → Bst
  | none => none
  | some (t, i, j) => if t < h then some (t, i, j) else none
def Blw (b : Bst) (i j : Nat) : Prop := ∀ t' i' j', b = some (t', i', j') → i' < i ∨ (i' = i ∧ j' < j)
theorem step_rel {h : Int} {b : Bst} {t : Int} {i j : Nat} (hb : Blw b i j) : stepL h (lowB h b) t i j = lowB h (stepP b t i j) ∧ Blw (stepP b t i j) i (j + 1) := by
  match b, hb with
  | none, _ =>
    refine ⟨rfl, fun t' i' j' e => ?_⟩
    cases e
    exact .inr ⟨rfl, Nat.lt_succ_self _⟩
  | some (t', i', j'), hb =>
    have hl : lexLt [t, i, j] [t', i', j'] = decide (t < t') := by
      unfold lexLt
      by_cases e : t = t'
      · subst e
        rw [if_pos rfl, decide_eq_false (Int.lt_irrefl t)]
        unfold lexLt
        rcases hb t i' j' rfl with h1 | ⟨h1, h2⟩
        · rw [if_neg (by omega), decide_eq_false (by omega)]
        · subst h1
          rw [if_pos rfl]
          unfold lexLt
          rw [if_neg (by omega), decide_eq_false (by omega)]
      · rw [if_neg e]
    have hs : stepP (some (t', i', j')) t i j = if t < t' then some (t, i, j) else some (t', i', j') := by
      show (if lexLt [t, i, j] [t', i', j'] = true then some (t, i, j) else some (t', i', j')) = _
      rw [hl]
      by_cases e : t < t'
      · rw [decide_eq_true e, if_pos rfl, if_pos e]
      · rw [decide_eq_false e, if_neg (by decide), if_neg e]
    rw [hs]
    constructor
    · show stepL h (if t' < h then some (t', i', j') else none) t i j = _
      by_cases e1 : t' < h
      · rw [if_pos e1]
        show (if t < h ∧ t < t' then some (t, i, j) else some (t', i', j')) = _
        by_cases e2 : t < t'
        · rw [if_pos e2, if_pos ⟨by omega, e2⟩]
          show _ = if t < h then some (t, i, j) else none
          rw [if_pos (by omega)]
        · rw [if_neg e2, if_neg (fun z => e2 z.2)]
          show _ = if t' < h then some (t', i', j') else none
          rw [if_pos e1]
      · rw [if_neg e1]
        show (if t < h then some (t, i, j) else none) = _
        by_cases e2 : t < t'
        · rw [if_pos e2]
          rfl
        · rw [if_neg e2, if_neg (by omega)]
          show _ = if t' < h then some (t', i', j') else none
          rw [if_neg e1]
    · intro t2 i2 j2 e
      by_cases e2 : t < t'
      · rw [if_pos e2] at e
        cases e
        exact .inr ⟨rfl, Nat.lt_succ_self _⟩
      · rw [if_neg e2] at e
        cases e
        rcases hb _ _ _ rfl with h1 | ⟨h1, h2⟩
        · exact .inl h1
        · exact .inr ⟨h1, by omega⟩
theorem Blw.up {b : Bst} {i j : Nat} (h : Blw b i j) : Blw b (i + 1) (i + 2) := fun t' i' j' e => by
  rcases h t' i' j' e with h1 | ⟨h1, h2⟩
  · exact .inl (by omega)
  · exact .inl (by omega)
section
variable {n : Nat} {ts : List Tie} {row : List Int} {old : List (List Int)}
def totS (ts : List Tie) (row : List Int) (n i j : Nat) : Int := allG (swpI row i j) ts n
/-- the pairs with i ahead: m of them -/
def inP (ts : List Tie) (row : List Int) (n i : Nat) : Nat → Bst → Bst
  | 0, b => b
  | m + 1, b => stepP (inP ts row n i m b) (totS ts row n i (i + 1 + m)) i (i + 1 + m)
def outP (ts : List Tie) (row : List Int) (n : Nat) : Nat → Bst
  | 0 => none
  | i + 1 => inP ts row n i (n - (i + 1)) (outP ts row n i)
def inL (h : Int) (ts : List Tie) (row : List Int) (n i : Nat) : Nat → Bst → Bst
  | 0, b => b
  | m + 1, b => stepL h (inL h ts row n i m b) (totS ts row n i (i + 1 + m)) i (i + 1 + m)
def outL (h : Int) (ts : List Tie) (row : List Int) (n : Nat) : Nat → Bst
  | 0 => none
  | i + 1 => inL h ts row n i (n - (i + 1)) (outL h ts row n i)
theorem in_rel {h : Int} {i : Nat} {b : Bst} (hb : Blw b i (i + 1)) : ∀ m, inL h ts row n i m (lowB h b) = lowB h (inP ts row n i m b) ∧ Blw (inP ts row n i m b) i (i + 1 + m)
  | 0 => ⟨rfl, hb⟩
  | m + 1 => by
    obtain ⟨h1, h2⟩ := in_rel hb m
    obtain ⟨h3, h4⟩ := step_rel (h := h) (t := totS ts row n i (i + 1 + m)) h2
    refine ⟨?_, h4⟩
    show stepL h (inL h ts row n i m (lowB h b)) _ i _ = _
    rw [h1]
    exact h3
theorem out_rel {h : Int} : ∀ i, outL h ts row n i = lowB h (outP ts row n i) ∧ Blw (outP ts row n i) i (i + 1)
  | 0 => ⟨rfl, fun _ _ _ e => nomatch e⟩
  | i + 1 => by
    obtain ⟨h1, h2⟩ := out_rel (h := h) i
    obtain ⟨h3, h4⟩ := in_rel (ts := ts) (row := row) (n := n) (h := h) h2 (n - (i + 1))
    refine ⟨?_, h4.up⟩
    show inL h ts row n i _ (outL h ts row n i) = _
    rw [h1]
    exact h3
/-! ### the program's loops -/
theorem swp_ord {i j : Nat} (o : Ord n row) (hi : i < n) (hj : j < n) : Ord n (swpI row i j) := deed_ord (w := 0) o hi hj
def envB (n : Nat) (ts : List Tie) (row : List Int) (old : List (List Int)) (b : Bst) (s2 s3 s4 s5 : Slot) : Env := [.dat (lD n ts row old), .dat (bD b), s2, s3, s4, s5]
theorem bestP_turn (h : Wb n ts) (o : Ord n row) {b : Bst} {i j : Nat} (hi : i < n) (hj : j < n) (s4 s5 : Slot) :
    ∃ s4' s5', exS l3_Laid_best_swap (envB n ts row old b (.dat (.int i)) (.dat (.int j)) s4 s5) = .nx (envB n ts row old (stepP b (totS ts row n i j) i j) (.dat (.int i)) (.dat (.int j)) s4' s5') := by
  have hlen := o.len
  have hn := h.n8
  refine ⟨.dat (oD (swpI row i j)), .dat (bD (some (totS ts row n i j, i, j))), ?_⟩
  unfold l3_Laid_best_swap
  rw [exS_cons, show exS (.new 4 x0_Laid_best_swap) (envB n ts row old b (.dat (.int i)) (.dat (.int j)) s4 s5) = .nx (envB n ts row old b (.dat (.int i)) (.dat (.int j)) (.own (row.map .int)) s5) from rfl, seq_nx, exS_cons]
  have e1 : exS (.swp 4 2 3) (envB n ts row old b (.dat (.int i)) (.dat (.int j)) (.own (row.map .int)) s5) = .nx (envB n ts row old b (.dat (.int i)) (.dat (.int j)) (.own ((swpI row i j).map .int)) s5) := by
    show (match two (envB n ts row old b (.dat (.int i)) (.dat (.int j)) (.own (row.map .int)) s5) 2 3 (row.map PyData.int).length with
      | some (j', k) => Out.nx ((envB n ts row old b (.dat (.int i)) (.dat (.int j)) (.own (row.map .int)) s5).set 4 (.own (swpL (row.map .int) j' k)))
      | none => .bad) = _
    rw [two_is (i := i) (j := j) rfl rfl (by rw [List.length_map, hlen]; exact hi) (by rw [List.length_map, hlen]; exact hj)]
    dsimp only
    rw [swpL_ints (by rw [hlen]; exact hi) (by rw [hlen]; exact hj)]
    rfl
  rw [e1, seq_nx, exS_cons, show exS .frz (envB n ts row old b (.dat (.int i)) (.dat (.int j)) (.own ((swpI row i j).map .int)) s5) = .nx (envB n ts row old b (.dat (.int i)) (.dat (.int j)) (.dat (oD (swpI row i j))) s5.frz) from rfl, seq_nx, exS_cons, exS_asg]
  have g : ∀ s5, evE (envB n ts row old b (.dat (.int i)) (.dat (.int j)) (.dat (oD (swpI row i j))) s5) x1_Laid_best_swap = .ok (bD (some (totS ts row n i j, i, j))) := fun s5 => by
    show ((((((f_gaps [webD n (ts.map tieD), oD (swpI row i j)]).bind fun x => Res.ok [x]).bind fun ds => bi .sum ds).bind fun x => (Res.ok [PyData.int i, .int j]).bind fun xs => .ok (x :: xs))).bind fun ds => req (decide (ds.length ≤ lim)) (Res.ok (PyData.tuple ds))) = _
    rw [gaps_ok h (swp_ord o hi hj), bind_ok, bind_ok, sum_ints, bind_ok, bind_ok, bind_ok]
    rfl
  have v5 : evV (envB n ts row old b (.dat (.int i)) (.dat (.int j)) (.dat (oD (swpI row i j))) s5.frz) x1_Laid_best_swap = .ok (bD (some (totS ts row n i j, i, j))) := evV_both (g s5.frz.frz) (g s5.frz)
  rw [v5, out_ok, seq_nx, exS_cons, exS_asg]
  have g1 : evE (envB n ts row old b (.dat (.int i)) (.dat (.int j)) (.dat (oD (swpI row i j))) (.dat (bD (some (totS ts row n i j, i, j))))) x2_Laid_best_swap = .ok (bD (stepP b (totS ts row n i j) i j)) := by
    cases b with
    | none => rfl
    | some z =>
      obtain ⟨t', i', j'⟩ := z
      show ((Res.ok (lexLt [totS ts row n i j, i, j] [t', i', j'])).bind fun k => match k with
        | true => Res.ok (bD (some (totS ts row n i j, i, j)))
        | false => Res.ok (bD (some (t', i', j')))) = _
      rw [bind_ok]
      show _ = Res.ok (bD (if lexLt [totS ts row n i j, i, j] [t', i', j'] = true then some (totS ts row n i j, i, j) else some (t', i', j')))
      cases lexLt [totS ts row n i j, i, j] [t', i', j'] <;> rfl
  have v1 : evV (envB n ts row old b (.dat (.int i)) (.dat (.int j)) (.dat (oD (swpI row i j))) (.dat (bD (some (totS ts row n i j, i, j))))) x2_Laid_best_swap = .ok (bD (stepP b (totS ts row n i j) i j)) := by
    rw [evV_plain rfl]
    exact g1
  rw [show (envB n ts row old b (.dat (.int i)) (.dat (.int j)) (.dat (oD (swpI row i j))) s5.frz).set 5 (.dat (bD (some (totS ts row n i j, i, j)))) = envB n ts row old b (.dat (.int i)) (.dat (.int j)) (.dat (oD (swpI row i j))) (.dat (bD (some (totS ts row n i j, i, j)))) from rfl, v1]
  rfl
theorem rng_list {n i : Nat} : rngD ((i : Int) + 1) (n : Int) = (List.range (n - (i + 1))).map fun (k : Nat) => .int ((i : Int) + 1 + k) := by
  unfold rngD
  rw [show ((n : Int) - ((i : Int) + 1)).toNat = n - (i + 1) by omega]
theorem bestP_inner (h : Wb n ts) (o : Ord n row) {b : Bst} {i : Nat} (hi : i < n) (s3 s4 s5 : Slot) :
    ∃ s3' s4' s5', exS l4_Laid_best_swap (envB n ts row old b (.dat (.int i)) s3 s4 s5) = .nx (envB n ts row old (inP ts row n i (n - (i + 1)) b) (.dat (.int i)) s3' s4' s5') := by
  have hlen := o.len
  have hn := h.n8
  have hr : evI (envB n ts row old b (.dat (.int i)) s3 s4 s5) (.rng2 (.bin .add (.var 2) (.int 1)) (.bi .len (.cons (.att (.var 0) "row") .nil))) = .ok (rngD ((i : Int) + 1) (n : Int)) := by
    refine rng2_ok rfl ?_ (by omega) (by omega) (by omega) (by omega)
    show Res.ok (PyData.int ((row.map PyData.int).length : Int)) = _
    rw [List.length_map, hlen]
  obtain ⟨env', h1, s3', s4', s5', rfl⟩ := forGo_rng (f := fun d env => ((⟨false, [3]⟩ : Tg).run env d).out env (exS l3_Laid_best_swap)) (m := (i : Int) + 1) (n := n - (i + 1)) (env := envB n ts row old b (.dat (.int i)) s3 s4 s5)
    (I := fun m env => ∃ s3 s4 s5, env = envB n ts row old (inP ts row n i m b) (.dat (.int i)) s3 s4 s5) ⟨s3, s4, s5, rfl⟩
    (fun m env hm ⟨s3, s4, s5, he⟩ => by
      subst he
      obtain ⟨s4', s5', e⟩ := bestP_turn (old := old) h o (b := inP ts row n i m b) (j := i + 1 + m) hi (by omega) s4 s5
      refine ⟨_, ?_, .dat (.int (i + 1 + m : Nat)), s4', s5', rfl⟩
      show exS l3_Laid_best_swap (envB n ts row old (inP ts row n i m b) (.dat (.int i)) (.dat (.int ((i : Int) + 1 + m))) s4 s5) = _
      rw [show ((i : Int) + 1 + m) = ((i + 1 + m : Nat) : Int) by omega]
      exact e)
  refine ⟨s3', s4', s5', ?_⟩
  unfold l4_Laid_best_swap
  rw [exS_cons, exS_forr, hr, out_ok, rng_list, h1]
  rfl
theorem best_is (h : Wb n ts) (o : Ord n row) : f_Laid_best_swap [lD n ts row old] = .ok (cD (lowB (allG row ts n) (outP ts row n n))) := by
  have hlen := o.len
  have hn := h.n8
  have hr : evI (envB n ts row old none .none .none .none .none) (.rng1 (.bi .len (.cons (.att (.var 0) "row") .nil))) = .ok (rngD 0 (n : Int)) := by
    refine rng1_ok ?_ (by omega) (by omega)
    show Res.ok (PyData.int ((row.map PyData.int).length : Int)) = _
    rw [List.length_map, hlen]
  obtain ⟨env', h1, s2, s3, s4, s5, rfl⟩ := forGo_rng (f := fun d env => ((⟨false, [2]⟩ : Tg).run env d).out env (exS l4_Laid_best_swap)) (m := 0) (n := n) (env := envB n ts row old none .none .none .none .none)
    (I := fun i env => ∃ s2 s3 s4 s5, env = envB n ts row old (outP ts row n i) s2 s3 s4 s5) ⟨.none, .none, .none, .none, rfl⟩
    (fun i env hi ⟨s2, s3, s4, s5, he⟩ => by
      subst he
      obtain ⟨s3', s4', s5', e⟩ := bestP_inner (old := old) h o (b := outP ts row n i) hi s3 s4 s5
      have z : outP ts row n (i + 1) = inP ts row n i (n - (i + 1)) (outP ts row n i) := rfl
      refine ⟨envB n ts row old (inP ts row n i (n - (i + 1)) (outP ts row n i)) (.dat (.int i)) s3' s4' s5', ?_, .dat (.int i), s3', s4', s5', by rw [z]⟩
      have w : ((⟨false, [2]⟩ : Tg).run (envB n ts row old (outP ts row n i) s2 s3 s4 s5) (.int (0 + (i : Int)))) = .ok (envB n ts row old (outP ts row n i) (.dat (.int (0 + (i : Int)))) s3 s4 s5) := rfl
      rw [w, out_ok, Int.zero_add]
      exact e)
  have q : evR (envB n ts row old (outP ts row n n) s2 s3 s4 s5) x5_Laid_best_swap = .ok (cD (lowB (allG row ts n) (outP ts row n n))) := by
    refine evR_ok ?_
    cases outP ts row n n with
    | none => rfl
    | some z =>
      obtain ⟨t, i, j⟩ := z
      show (((f_Laid_total [lD n ts row old]).bind fun y => ltD (.int t) y).bind fun k => match k with
        | true => Res.ok (PyData.tuple [.int i, .int j])
        | false => Res.ok .none) = _
      rw [total_is h o, bind_ok, lt_int, bind_ok]
      show _ = Res.ok (cD (if t < allG row ts n then some (t, i, j) else none))
      by_cases e : t < allG row ts n
      · rw [decide_eq_true e, if_pos e]
        rfl
      · rw [decide_eq_false e, if_neg e]
        rfl
  unfold f_Laid_best_swap
  refine (run1 (o := .ret (cD (lowB (allG row ts n) (outP ts row n n)))) ?_).trans rfl
  show exS b_Laid_best_swap [Slot.dat (lD n ts row old), .none, .none, .none, .none, .none] = _
  unfold b_Laid_best_swap
  rw [exS_cons, show exS (.asg 1 .non) [Slot.dat (lD n ts row old), .none, .none, .none, .none, .none] = .nx (envB n ts row old none .none .none .none .none) from rfl, seq_nx, exS_cons, exS_forr, hr, out_ok, rngD_nat, h1, seq_nx, exS_cons, exS_ret, q]
  rfl
end
end Rwl

set_option Elab.async false
set_option linter.all false
set_option maxRecDepth 100000
set_option maxHeartbeats 1000000
namespace Rwl
open PySem
section
variable {n : Nat} {ts : List Tie} {row : List Int} {old : List (List Int)}
/-! ### the best swap, by the law -/
def envQ (n : Nat) (ts : List Tie) (row : List Int) (c : Bst) (s4 s5 s6 : Slot) : Env := [.dat (webD n (ts.map tieD)), .dat (oD row), .dat (.int (allG row ts n)), .dat (bD c), s4, s5, s6]
theorem law_best_turn (h : Wb n ts) (o : Ord n row) {c : Bst} {i j : Nat} (hi : i < n) (hj : j < n) {s4 s5 s6 : Slot} (h4 : s4 = .dat (.int i)) (h5 : s5 = .dat (.int j)) (h6 : Slot.pl s6 = true) :
    ∃ s6', Slot.pl s6' = true ∧ exS l4_law_best (envQ n ts row c s4 s5 s6) = .nx (envQ n ts row (stepL (allG row ts n) c (totS ts row n i j) i j) s4 s5 s6') := by
  subst h4
  subst h5
  have hlen := o.len
  have hn := h.n8
  refine ⟨.dat (.int (totS ts row n i j)), rfl, ?_⟩
  have pl : Env.pl (envQ n ts row c (.dat (.int i)) (.dat (.int j)) s6) = true := by
    show (true && (true && (true && (true && (true && (true && (s6.pl && true))))))) = true
    rw [h6]
    rfl
  have g : evE (envQ n ts row c (.dat (.int i)) (.dat (.int j)) s6) x1_law_best = .ok (.int (totS ts row n i j)) := by
    show (((((f_law_deed [oD row, .int (0 : Nat), .int i, .int j]).bind fun x => (Res.ok []).bind fun xs => Res.ok (x :: xs)).bind fun xs => Res.ok (PyData.str "total" :: xs)).bind fun xs => Res.ok (webD n (ts.map tieD) :: xs)).bind f_law_measured) = _
    rw [law_deed_ok (w := 0) (by decide) (by rw [hlen]; exact hi) (by rw [hlen]; exact hj) (by omega), bind_ok, bind_ok, bind_ok, bind_ok, bind_ok]
    exact measured_total h (swp_ord o hi hj)
  unfold l4_law_best
  rw [exS_cons, exS_asg, evV_plain pl, g, out_ok, seq_nx, exS_cons, exS_ifs]
  rw [show (envQ n ts row c (.dat (.int i)) (.dat (.int j)) s6).set 6 (.dat (.int (totS ts row n i j))) = envQ n ts row c (.dat (.int i)) (.dat (.int j)) (.dat (.int (totS ts row n i j))) from rfl]
  generalize totS ts row n i j = t
  rw [evB_plain rfl]
  cases c with
  | none =>
    have q : evT (envQ n ts row none (.dat (.int i)) (.dat (.int j)) (.dat (.int t))) x2_law_best = .ok (decide (t < allG row ts n)) := by
      show ((Res.ok (decide (t < allG row ts n))).bind fun k => match k with
        | true => Res.ok true
        | false => Res.ok false) = _
      cases decide (t < allG row ts n) <;> rfl
    rw [q, out_ok]
    show _ = Out.nx (envQ n ts row (if t < allG row ts n then some (t, i, j) else none) _ _ _)
    by_cases e : t < allG row ts n
    · rw [decide_eq_true e, if_pos e]
      rfl
    · rw [decide_eq_false e, if_neg e]
      rfl
  | some z =>
    obtain ⟨t', i', j'⟩ := z
    have q : evT (envQ n ts row (some (t', i', j')) (.dat (.int i)) (.dat (.int j)) (.dat (.int t))) x2_law_best = .ok (decide (t < allG row ts n) && decide (t < t')) := by
      show ((Res.ok (decide (t < allG row ts n))).bind fun k => match k with
        | true => Res.ok (decide (t < t'))
        | false => Res.ok false) = _
      cases decide (t < allG row ts n) <;> rfl
    rw [q, out_ok]
    show _ = Out.nx (envQ n ts row (if t < allG row ts n ∧ t < t' then some (t, i, j) else some (t', i', j')) _ _ _)
    by_cases e : t < allG row ts n ∧ t < t'
    · rw [decide_eq_true e.1, decide_eq_true e.2, if_pos e]
      rfl
    · rw [if_neg e]
      have : (decide (t < allG row ts n) && decide (t < t')) = false := by
        rw [Bool.and_eq_false_iff]
        by_cases e1 : t < allG row ts n
        · exact .inr (decide_eq_false fun z => e ⟨e1, z⟩)
        · exact .inl (decide_eq_false e1)
      rw [this]
      rfl
theorem law_best_inner (h : Wb n ts) (o : Ord n row) {c : Bst} {i : Nat} (hi : i < n) (s5 s6 : Slot) (h6 : Slot.pl s6 = true) :
    ∃ s5' s6', Slot.pl s6' = true ∧ exS l5_law_best (envQ n ts row c (.dat (.int i)) s5 s6) = .nx (envQ n ts row (inL (allG row ts n) ts row n i (n - (i + 1)) c) (.dat (.int i)) s5' s6') := by
  have hlen := o.len
  have hn := h.n8
  have hr : evI (envQ n ts row c (.dat (.int i)) s5 s6) (.rng2 (.bin .add (.var 4) (.int 1)) (.bi .len (.cons (.var 1) .nil))) = .ok (rngD ((i : Int) + 1) (n : Int)) := by
    refine rng2_ok rfl ?_ (by omega) (by omega) (by omega) (by omega)
    show Res.ok (PyData.int ((row.map PyData.int).length : Int)) = _
    rw [List.length_map, hlen]
  obtain ⟨env', h1, s5', s6', hp, rfl⟩ := forGo_rng (f := fun d env => ((⟨false, [5]⟩ : Tg).run env d).out env (exS l4_law_best)) (m := (i : Int) + 1) (n := n - (i + 1)) (env := envQ n ts row c (.dat (.int i)) s5 s6)
    (I := fun m env => ∃ s5 s6, Slot.pl s6 = true ∧ env = envQ n ts row (inL (allG row ts n) ts row n i m c) (.dat (.int i)) s5 s6) ⟨s5, s6, h6, rfl⟩
    (fun m env hm ⟨s5, s6, hp, he⟩ => by
      subst he
      obtain ⟨s6', hp', e⟩ := law_best_turn h o (c := inL (allG row ts n) ts row n i m c) (i := i) (j := i + 1 + m) (s4 := .dat (.int i)) (s5 := .dat (.int (i + 1 + m : Nat))) hi (by omega) rfl rfl hp
      refine ⟨_, ?_, .dat (.int (i + 1 + m : Nat)), s6', hp', rfl⟩
      have w : ((⟨false, [5]⟩ : Tg).run (envQ n ts row (inL (allG row ts n) ts row n i m c) (.dat (.int i)) s5 s6) (.int ((i : Int) + 1 + m))) = .ok (envQ n ts row (inL (allG row ts n) ts row n i m c) (.dat (.int i)) (.dat (.int ((i : Int) + 1 + m))) s6) := rfl
      rw [w, out_ok, show ((i : Int) + 1 + m) = ((i + 1 + m : Nat) : Int) by omega]
      exact e)
  refine ⟨s5', s6', hp, ?_⟩
  unfold l5_law_best
  rw [exS_cons, exS_forr, hr, out_ok, rng_list, h1]
  rfl
theorem law_best_is (h : Wb n ts) (o : Ord n row) : f_law_best [webD n (ts.map tieD), oD row] = .ok (cD (outL (allG row ts n) ts row n n)) := by
  have hlen := o.len
  have hn := h.n8
  have hr : evI (envQ n ts row none .none .none .none) (.rng1 (.bi .len (.cons (.var 1) .nil))) = .ok (rngD 0 (n : Int)) := by
    refine rng1_ok ?_ (by omega) (by omega)
    show Res.ok (PyData.int ((row.map PyData.int).length : Int)) = _
    rw [List.length_map, hlen]
  obtain ⟨env', h1, s4, s5, s6, hp, rfl⟩ := forGo_rng (f := fun d env => ((⟨false, [4]⟩ : Tg).run env d).out env (exS l5_law_best)) (m := 0) (n := n) (env := envQ n ts row none .none .none .none)
    (I := fun i env => ∃ s4 s5 s6, (Slot.pl s6 = true) ∧ env = envQ n ts row (outL (allG row ts n) ts row n i) s4 s5 s6) ⟨.none, .none, .none, rfl, rfl⟩
    (fun i env hi ⟨s4, s5, s6, hp, he⟩ => by
      subst he
      obtain ⟨s5', s6', hp', e⟩ := law_best_inner h o (c := outL (allG row ts n) ts row n i) hi s5 s6 hp
      have z : outL (allG row ts n) ts row n (i + 1) = inL (allG row ts n) ts row n i (n - (i + 1)) (outL (allG row ts n) ts row n i) := rfl
      refine ⟨envQ n ts row (inL (allG row ts n) ts row n i (n - (i + 1)) (outL (allG row ts n) ts row n i)) (.dat (.int i)) s5' s6', ?_, .dat (.int i), s5', s6', hp', by rw [z]⟩
      have w : ((⟨false, [4]⟩ : Tg).run (envQ n ts row (outL (allG row ts n) ts row n i) s4 s5 s6) (.int (0 + (i : Int)))) = .ok (envQ n ts row (outL (allG row ts n) ts row n i) (.dat (.int (0 + (i : Int)))) s5 s6) := rfl
      rw [w, out_ok, Int.zero_add]
      exact e)
  have q : evR (envQ n ts row (outL (allG row ts n) ts row n n) s4 s5 s6) x6_law_best = .ok (cD (outL (allG row ts n) ts row n n)) := by
    refine evR_ok ?_
    cases outL (allG row ts n) ts row n n with
    | none => rfl
    | some z =>
      obtain ⟨t, i, j⟩ := z
      rfl
  have v0 : evV [Slot.dat (webD n (ts.map tieD)), .dat (oD row), .none, .none, .none, .none, .none] x0_law_best = .ok (.int (allG row ts n)) := by
    rw [evV_plain rfl]
    exact measured_total h o
  unfold f_law_best
  refine (run2 (o := .ret (cD (outL (allG row ts n) ts row n n))) ?_).trans rfl
  show exS b_law_best [Slot.dat (webD n (ts.map tieD)), .dat (oD row), .none, .none, .none, .none, .none] = _
  unfold b_law_best
  rw [exS_cons, exS_asg, v0, out_ok, seq_nx, exS_cons]
  rw [show exS (.asg 3 .non) (([Slot.dat (webD n (ts.map tieD)), .dat (oD row), .none, .none, .none, .none, .none] : Env).set 2 (.dat (.int (allG row ts n)))) = .nx (envQ n ts row none .none .none .none) from rfl, seq_nx, exS_cons, exS_forr, hr, out_ok, rngD_nat, h1, seq_nx, exS_cons, exS_ret, q]
  rfl
theorem best_both (h : Wb n ts) (o : Ord n row) : f_Laid_best_swap [lD n ts row old] = f_law_best [webD n (ts.map tieD), oD row] := by
  rw [best_is h o, law_best_is h o, (out_rel (ts := ts) (row := row) (n := n) (h := allG row ts n) n).1]
/-! ### all that is told is the law's own -/
theorem dep_oD (l : List Int) : dep 8 (oD l) = true := dep_ints 7 l
theorem dep_cD (c : Bst) : dep 8 (cD c) = true := by
  cases c with
  | none => rfl
  | some z => rfl
theorem whole_ok (z : Int) : f_law_whole [.int z] = .ok (.bool true) := rfl
theorem same_ok (h : Wb n ts) (o : Ord n row) : f_law_same [lD n ts row old, webD n (ts.map tieD), oD row] = .ok (.bool true) := by
  have hlen := o.len
  have hn := h.n8
  have q0 : evB [Slot.dat (lD n ts row old), .dat (webD n (ts.map tieD)), .dat (oD row)] x0_law_same = .ok false := by
    rw [evB_plain rfl]
    show (((f_Laid_order [lD n ts row old]).bind fun x => (eqD x (oD row)).nott).bind fun k => match k with
      | true => Res.ok true
      | false => ((f_Laid_gaps [lD n ts row old]).bind fun x => (f_law_gaps [webD n (ts.map tieD), oD row]).bind fun y => (eqD x y).nott).bind fun k => match k with
        | true => Res.ok true
        | false => (f_Laid_best_swap [lD n ts row old]).bind fun x => (f_law_best [webD n (ts.map tieD), oD row]).bind fun y => (eqD x y).nott) = _
    rw [order_is, gaps_is h o, show f_law_gaps [webD n (ts.map tieD), oD row] = _ from law_gaps_ok h o, best_both h o, law_best_is h o]
    simp only [bind_ok]
    rw [eq_same (dep_oD _), eq_same (dep_oD _), eq_same (dep_cD _)]
    rfl
  have q1 : evB [Slot.dat (lD n ts row old), .dat (webD n (ts.map tieD)), .dat (oD row)] x1_law_same = .ok false := by
    rw [evB_plain rfl]
    show (((f_Laid_longest [lD n ts row old]).bind fun x => (f_law_measured [webD n (ts.map tieD), .str "longest", oD row]).bind fun y => (eqD x y).nott).bind fun k => match k with
      | true => Res.ok true
      | false => (((((f_Laid_total [lD n ts row old]).bind fun x => (Res.ok []).bind fun xs => Res.ok (x :: xs)).bind f_law_whole).bind tru).bind fun b => Res.ok (!b))) = _
    rw [longest_is h o, measured_longest h o, total_is h o, maxL_zero (fun x hx => by
      obtain ⟨t, _, rfl⟩ := List.mem_map.mp hx
      exact far_nn row t)]
    simp only [bind_ok]
    rw [eq_int, decide_eq_true rfl]
    rfl
  have q2 : evR [Slot.dat (lD n ts row old), .dat (webD n (ts.map tieD)), .dat (oD row)] x2_law_same = .ok (.bool true) := by
    rw [evR_plain rfl]
    show ((f_Laid_total [lD n ts row old]).bind fun x => (f_law_measured [webD n (ts.map tieD), .str "total", oD row]).bind fun y => (eqD x y).bind fun k => Res.ok (PyData.bool k)) = _
    rw [total_is h o, measured_total h o]
    simp only [bind_ok]
    rw [eq_int, decide_eq_true rfl]
    rfl
  have d1 : exS (.dapp 6 "order" f_Laid_order (.var 0) (.int 0)) [Slot.dat (lD n ts row old), .dat (webD n (ts.map tieD)), .dat (oD row)] = .nx [Slot.dat (lD n ts row old), .dat (webD n (ts.map tieD)), .dat (oD row)] := by
    show (f_Laid_order [lD n ts row old]).out _ (fun d => match d with
      | .list xs => match decide (xs.length < lim) with
        | true => Out.nx [Slot.dat (lD n ts row old), .dat (webD n (ts.map tieD)), .dat (oD row)]
        | false => .bad
      | _ => .bad) = _
    rw [order_is, out_ok]
    dsimp only
    rw [decide_eq_true (by rw [List.length_map]; unfold lim; omega)]
  have d2 : exS (.dapp 8 "gaps" f_Laid_gaps (.var 0) (.int 0)) [Slot.dat (lD n ts row old), .dat (webD n (ts.map tieD)), .dat (oD row)] = .nx [Slot.dat (lD n ts row old), .dat (webD n (ts.map tieD)), .dat (oD row)] := by
    show (f_Laid_gaps [lD n ts row old]).out _ (fun d => match d with
      | .list xs => match decide (xs.length < lim) with
        | true => Out.nx [Slot.dat (lD n ts row old), .dat (webD n (ts.map tieD)), .dat (oD row)]
        | false => .bad
      | _ => .bad) = _
    rw [gaps_is h o, out_ok]
    dsimp only
    rw [decide_eq_true (by unfold overs; rw [List.length_map, List.length_map, List.length_range]; unfold lim; omega)]
  unfold f_law_same
  refine (run3 (o := .ret (.bool true)) ?_).trans rfl
  show exS b_law_same [Slot.dat (lD n ts row old), .dat (webD n (ts.map tieD)), .dat (oD row)] = _
  unfold b_law_same
  rw [exS_cons, exS_ifs, q0, out_ok]
  dsimp only
  rw [exS_nil, seq_nx, exS_cons, d1, seq_nx, exS_cons, d2, seq_nx, exS_cons, exS_ifs, q1, out_ok]
  dsimp only
  rw [exS_nil, seq_nx, exS_cons, exS_ret, q2]
  rfl
end
end Rwl

set_option Elab.async false
set_option linter.all false
set_option maxRecDepth 100000
set_option maxHeartbeats 1000000
namespace Rwl
open PySem
section
variable {n : Nat} {ts : List Tie} {row : List Int} {old : List (List Int)}
/-! ### what is refused -/
theorem runI2_exc {N c : Nat} {b : S} {t : Nat} {x y : D} {env : Env} (h : exS b ([Slot.ins t 0 [], .dat x, .dat y] ++ List.replicate (N - 2 - 1) .none) = .exc c env) : runI 2 N b t [x, y] = .exc c := by
  unfold runI
  show (match exS b ([Slot.ins t 0 [], .dat x, .dat y] ++ List.replicate (N - 2 - 1) .none) with
    | .nx env => match env.get 0 with
      | .ins t' c fs => match decide (t' = t) && decide (c = 0) with
        | true => Res.ok fs
        | false => .bad
      | _ => .bad
    | .exc c _ => .exc c
    | _ => .bad) = _
  rw [h]
theorem laid_exc {w o : D} {c : Nat} (h : f_look_order [w, o] = .exc c) : f_Laid [w, o] = .exc c := by
  unfold f_Laid
  refine (mkD_is (r := .exc c) fun t => ?_).trans rfl
  refine runI2_exc (env := [Slot.ins t 0 [], .dat w, .dat o]) ?_
  show exS b_Laid_init [Slot.ins t 0 [], .dat w, .dat o] = _
  have e : evR [Slot.ins t 0 [], .dat w, .dat o] x0_Laid_init = .exc c := by
    unfold evR
    rw [show evE (Env.frz [Slot.ins t 0 [], .dat w, .dat o]) x0_Laid_init = .exc c from h]
  unfold b_Laid_init
  rw [exS_cons, exS_drop, e]
  rfl
theorem made_exc {w o : D} {c : Nat} (h : f_look_order [w, o] = .exc c) (hc : c < 5) : f_law_made [w, o] = f_law_refusal [exn c] := by
  have e : evR [Slot.dat w, .dat o, .dat .none, .none] x0_law_made = .exc c := by
    rw [evR_plain rfl]
    exact laid_exc h
  have hb : below c 5 = true := by
    unfold below
    rw [decide_eq_true (Nat.le_refl 5), Bool.or_true]
  have q : ∃ r, exS b_law_made [Slot.dat w, .dat o, .none, .none] = r ∧ outR r = f_law_refusal [exn c] := by
    refine ⟨_, rfl, ?_⟩
    unfold b_law_made
    rw [exS_cons, show exS (.asg 2 .non) [Slot.dat w, .dat o, .none, .none] = .nx [Slot.dat w, .dat o, .dat .none, .none] from rfl, seq_nx, exS_cons, exS_tryk, exS_cons, exS_drop, e, out_exc, seq_exc]
    dsimp only
    rw [decide_eq_true hc, hb]
    show outR (((evR [Slot.dat w, .dat o, .dat (exn c), .none] x1_law_made).out _ Out.ret).seq _) = _
    rw [evR_plain rfl]
    show outR (((f_law_refusal [exn c]).out _ Out.ret).seq _) = _
    cases f_law_refusal [exn c] <;> rfl
  obtain ⟨r, h1, h2⟩ := q
  unfold f_law_made
  exact (run2 (o := r) h1).trans h2
theorem made_web : f_law_made [.tuple [.int 9, .list []], oD row] = .ok (.str "web") := by
  show f_law_made [webD 9 [], oD row] = _
  rw [made_exc (c := 4) (order_exc (look_m (m := 9) (xs := []) (by omega))) (by decide)]
  exact refusal_4
theorem made_order (h : Wb n ts) (o : Ord n row) : f_law_made [webD n (ts.map tieD), oD (row ++ [0])] = .ok (.str "order") := by
  have e : f_look_order [webD n (ts.map tieD), oD (row ++ [0])] = .exc 1 := by
    rw [show f_look_order [webD n (ts.map tieD), oD (row ++ [0])] = _ from order_any h (row ++ [0]), if_neg ?_]
    intro z
    have l := congrArg List.length z
    rw [(srt_perm (row ++ [0])).length_eq, List.length_append, List.length_singleton, o.len, rngZ_len] at l
    omega
  rw [made_exc (c := 1) e (by decide)]
  exact refusal_1
/-! ### the object is made -/
theorem laidJ_ok (h : Wb n ts) (o : Ord n row) : f_LaidJ [] [webD n (ts.map tieD), oD row] = .ok (fsL n ts row []) .none := by
  unfold f_LaidJ jD
  rw [show f_look_order [webD n (ts.map tieD), oD row] = _ from order_ok' h o]
  rfl
/-! ### a test that changes the object -/
theorem ifx_is {me : Bool} {i k : Nat} {m : Str} {f : Fm} {es e : E} {a b : S} {env : Env} {fs fs' : List (Str × Fl)} {mk : List (Str × Fl) → Slot} {ds : List D} {d y : D} {q : Bool} (hs : (env.get i).selfO = some (fs, mk)) (hm : attF m fs = none) (hd : evL env es = .ok ds) (hf : f fs ds = .ok fs' d) (hsc : scal d = true) (he : evV (env.set i (mk fs')) e = .ok y) (hq : eqD d y = .ok q) :
    exS (.ifx me i k m f es e a b) env = if q = true then exS b (env.set i (mk fs')) else exS a (env.set i (mk fs')) := by
  show stx env i m f (evL env es) (fun env' d => (evV env' e).out env' fun y => (eqD d y).out env' fun q => match q with
    | true => exS b env'
    | false => exS a env') = _
  unfold stx
  rw [hs]
  dsimp only
  rw [hm, hd]
  show (match f fs ds with
    | .ok fs' d => match scal d with
      | true => (evV (env.set i (mk fs')) e).out (env.set i (mk fs')) fun y => (eqD d y).out (env.set i (mk fs')) fun q => match q with
        | true => exS b (env.set i (mk fs'))
        | false => exS a (env.set i (mk fs'))
      | false => Out.bad
    | .exc c fs' => .exc c (env.set i (mk fs'))
    | .bad => .bad) = _
  rw [hf]
  dsimp only
  rw [hsc]
  dsimp only
  rw [he, out_ok, hq, out_ok]
  cases q <;> rfl
end
end Rwl

set_option Elab.async false
set_option linter.all false
set_option maxRecDepth 100000
set_option maxHeartbeats 2000000
namespace Rwl
open PySem
/-! ### the loop of the law -/
def envX (ns : List Int) (n : Nat) (ts : List Tie) (os : List Int) (xs ys : List D) (last : List Int) (old rows : List (List Int)) (s7 s8 s9 s10 s11 s12 : Slot) : Env :=
  [.dat (scr ns), .dat (webD n (ts.map tieD)), .dat (oD os), .hnd n xs ys, .obj (fsL n ts last old), .obj (fsL n ts os []), .own (rows.map fun r => oD r), s7, s8, s9, s10, s11, s12]
section
variable {ns : List Int} {n : Nat} {ts : List Tie} {os : List Int} {xs ys : List D} {last : List Int} {init rows old : List (List Int)} {s7 s8 s9 s10 s11 s12 : Slot}
theorem ix_last : ixD (.list ((init ++ [last]).map fun r => oD r)) (.int (-1)) = .ok (oD last) := by
  show ofO (pix ((init ++ [last]).map fun r => oD r) (-1)) = _
  unfold pix
  rw [if_neg (by decide), if_pos (by rw [List.length_map, List.length_append, List.length_singleton]; omega)]
  have e : ((-1 : Int) + (((init ++ [last]).map fun r => oD r).length : Nat)).toNat = init.length := by
    rw [List.length_map, List.length_append, List.length_singleton]
    omega
  rw [e, List.getElem?_map, List.getElem?_append_right (Nat.le_refl _), Nat.sub_self]
  rfl
theorem len_rows : bi .len [.list (rows.map fun r => oD r)] = .ok (.int rows.length) := by
  show Res.ok (PyData.int ((rows.map fun r => oD r).length : Nat)) = _
  rw [List.length_map]
def mxZ (n : Nat) : Int := if (n : Int) > 1 then n else 1
theorem mx_pos (n : Nat) : 0 < mxZ n := by unfold mxZ; split <;> omega
def oneZ (n : Nat) (N : Int) : Int := if N % 4 = 0 then N / 8 % ((n : Int) + 2) - 1 else N / 8 % mxZ n
def othZ (n : Nat) (N : Int) : Int := N / 128 % mxZ n
theorem v3_ok (k : Nat) : evV (envX ns n ts os xs ys last old rows (.dat (.int k)) s8 s9 s10 s11 s12) x3_law = .ok (.int (mixZ ns (91 + k))) := by
  refine evV_scal ?_ rfl
  show f_law_mix [scr ns, .int (91 + (k : Int))] = _
  exact mix_ok ns _
theorem v4_ok (N : Int) : evV (envX ns n ts os xs ys last old rows s7 (.dat (.int N)) s9 s10 s11 s12) x4_law = .ok (.int (oneZ n N)) := by
  refine evV_scal ?_ rfl
  generalize hF : Env.frz (envX ns n ts os xs ys last old rows s7 (.dat (.int N)) s9 s10 s11 s12) = F
  have c : evT F (.cmp .eq (.bin .mod (.var 8) (.int 4)) (.int 0)) = .ok (decide (N % 4 = 0)) := by
    rw [← hF]
    show ((modD (.int N) (.int 4)).bind fun x => eqD x (.int 0)) = _
    rw [mod_int (by decide), bind_ok, eq_int]
  have a : evE F (.bin .sub (.bin .mod (.bin .fdiv (.var 8) (.int 8)) (.bin .add (.ix (.var 1) (.int 0)) (.int 2))) (.int 1)) = .ok (.int (N / 8 % ((n : Int) + 2) - 1)) := by
    rw [← hF]
    show ((modD (.int (N / 8)) (.int ((n : Int) + 2))).bind fun x => subD x (.int 1)) = _
    rw [mod_int (decide_eq_true (by omega)), bind_ok]
    rfl
  have b : evE F (.bin .mod (.bin .fdiv (.var 8) (.int 8)) (.bi .max2 (.cons (.int 1) (.cons (.ix (.var 1) (.int 0)) .nil)))) = .ok (.int (N / 8 % mxZ n)) := by
    rw [← hF]
    show modD (.int (N / 8)) (.int (mxZ n)) = _
    rw [mod_int (decide_eq_true (mx_pos n))]
  unfold x4_law
  rw [evE_ite, c, bind_ok]
  unfold oneZ
  by_cases e : N % 4 = 0
  · rw [decide_eq_true e, if_pos e]
    exact a
  · rw [decide_eq_false e, if_neg e]
    exact b
theorem v5_ok (N : Int) : evV (envX ns n ts os xs ys last old rows s7 (.dat (.int N)) s9 s10 s11 s12) x5_law = .ok (.int (othZ n N)) := by
  refine evV_scal ?_ rfl
  show modD (.int (N / 128)) (.int (mxZ n)) = _
  rw [mod_int (decide_eq_true (mx_pos n))]
  rfl
theorem v6_ok (N : Int) : evB (envX ns n ts os xs ys last old rows s7 (.dat (.int N)) s9 s10 s11 s12) x6_law = .ok (decide (N / 2048 % 4 = 0)) := by
  refine evB_ok ?_
  show ((modD (.int (N / 2048)) (.int 4)).bind fun x => eqD x (.int 0)) = _
  rw [mod_int (by decide), bind_ok, eq_int]
/-- taken back -/
theorem back_turn (hr : rows = init ++ [last]) (hl : rows.length ≤ 100) (ho : Ord n last) (hi : ∀ r ∈ init, Ord n r) : ∃ init' last', Ord n last' ∧ (∀ r ∈ init', Ord n r) ∧ init'.length ≤ init.length ∧
    exS (.cons (.ifx true 4 5 "back" f_Laid_back .nil (.cmp .gt (.bi .len (.cons (.var 6) .nil)) (.int 1)) (.cons (.ret (.bl false)) .nil) (.nil)) <| .cons (.frz1 6) <| .cons (.new 6 x7_law) .nil) (envX ns n ts os xs ys last init rows s7 s8 s9 s10 s11 s12) = .nx (envX ns n ts os xs ys last' init' (init' ++ [last']) s7 s8 s9 s10 s11 s12) := by
  have e : ∀ l o, evV (envX ns n ts os xs ys l o rows s7 s8 s9 s10 s11 s12) (.cmp .gt (.bi .len (.cons (.var 6) .nil)) (.int 1)) = .ok (.bool (decide (1 < rows.length))) := fun l o => by
    refine evV_scal ?_ rfl
    show ((bi .len [.list (rows.map fun r => oD r)]).bind fun x => (gtD x (.int 1)).bind fun k => Res.ok (PyData.bool k)) = _
    rw [len_rows, bind_ok, gt_int, bind_ok]
    congr 2
    exact decide_eq_decide.mpr (by omega)
  have tail : ∀ l o m, (m : Nat) = (if ((rows.length : Int) - 1) > 1 then (rows.length : Int) - 1 else 1).toNat → exS (.cons (.frz1 6) <| .cons (.new 6 x7_law) .nil) (envX ns n ts os xs ys l o rows s7 s8 s9 s10 s11 s12) = .nx (envX ns n ts os xs ys l o (rows.take m) s7 s8 s9 s10 s11 s12) := fun l o m hm => by
    rw [exS_cons, show exS (.frz1 6) (envX ns n ts os xs ys l o rows s7 s8 s9 s10 s11 s12) = .nx ((envX ns n ts os xs ys l o rows s7 s8 s9 s10 s11 s12).set 6 (.dat (.list (rows.map fun r => oD r)))) from rfl, seq_nx, exS_cons, exS_new]
    have q : evE ((envX ns n ts os xs ys l o rows s7 s8 s9 s10 s11 s12).set 6 (.dat (.list (rows.map fun r => oD r)))) x7_law = .ok (.list ((rows.take m).map fun r => oD r)) := by
      show ((((((bi .len [.list (rows.map fun r => oD r)]).bind fun x => subD x (.int 1)).bind fun x => (Res.ok []).bind fun xs => Res.ok (x :: xs)).bind fun xs => Res.ok (PyData.int 1 :: xs)).bind fun ds => bi .max2 ds).bind fun x => (asInt x).bind fun i => Res.ok (some i)).bind (fun h => slD none h (PyData.list (rows.map fun r => oD r))) = _
      rw [len_rows, bind_ok, sub_int, bind_ok, bind_ok, bind_ok, bind_ok]
      show slD none (some (if ((rows.length : Int) - 1) > 1 then (rows.length : Int) - 1 else 1)) (.list (rows.map fun r => oD r)) = _
      rw [sl_take _ (by split <;> omega), ← hm, List.map_take]
    rw [q]
    rfl
  rcases List.eq_nil_or_concat init with h0 | ⟨init', l, h0⟩
  · subst h0
    have hrl : rows.length = 1 := by rw [hr]; rfl
    refine ⟨[], last, ho, (by intro r h; cases h), Nat.le_refl _, ?_⟩
    rw [exS_cons, ifx_is (env := envX ns n ts os xs ys last [] rows s7 s8 s9 s10 s11 s12) (i := 4) (k := 5) (m := "back") (f := f_Laid_back) (es := .nil) (e := .cmp .gt (.bi .len (.cons (.var 6) .nil)) (.int 1)) (me := true) (mk := .obj) (fs := fsL n ts last []) (fs' := fsL n ts last []) (ds := []) (d := .bool false) (y := .bool false) (q := true) rfl rfl rfl back_none rfl ((e last []).trans (by rw [hrl]; rfl)) rfl, if_pos rfl, exS_nil, seq_nx]
    show exS _ (envX ns n ts os xs ys last [] rows s7 s8 s9 s10 s11 s12) = _
    rw [tail last [] 1 (by rw [hrl]; rfl), hr]
    rfl
  · have h0 : init = init' ++ [l] := by rw [h0, List.concat_eq_append]
    subst h0
    have hrl : rows.length = init'.length + 2 := by rw [hr, List.length_append, List.length_append]; rfl
    refine ⟨init', l, hi l (List.mem_append_right _ (List.mem_singleton_self l)), fun r hm => hi r (List.mem_append_left _ hm), by rw [List.length_append]; omega, ?_⟩
    have hlt : decide (1 < rows.length) = true := decide_eq_true (by omega)
    rw [exS_cons, ifx_is (env := envX ns n ts os xs ys last (init' ++ [l]) rows s7 s8 s9 s10 s11 s12) (i := 4) (k := 5) (m := "back") (f := f_Laid_back) (es := .nil) (e := .cmp .gt (.bi .len (.cons (.var 6) .nil)) (.int 1)) (me := true) (mk := .obj) (fs := fsL n ts last (init' ++ [l])) (fs' := fsL n ts l init') (ds := []) (d := .bool true) (y := .bool true) (q := true) rfl rfl rfl back_some rfl ((e l init').trans (by rw [hlt])) rfl, if_pos rfl, exS_nil, seq_nx]
    show exS _ (envX ns n ts os xs ys l init' rows s7 s8 s9 s10 s11 s12) = _
    rw [tail l init' (init'.length + 1) (by rw [hrl]; split <;> omega), hr, List.append_assoc, List.take_append]
    have z : init'.length + 1 - init'.length = 1 := by omega
    rw [z, List.take_of_length_le (by omega)]
    rfl
end
end Rwl

set_option Elab.async false
set_option linter.all false
set_option maxRecDepth 100000
set_option maxHeartbeats 2000000
namespace Rwl
open PySem
section
variable {ns : List Int} {n : Nat} {ts : List Tie} {os : List Int} {xs ys : List D} {last : List Int} {init rows old : List (List Int)} {s7 s8 s9 s10 s11 s12 : Slot}
/-- a deed -/
def goodB (n : Nat) (one oth : Int) : Bool := decide (0 ≤ one) && decide (one < n) && decide (oth < n)
theorem v8_ok (N one oth : Int) : evV (envX ns n ts os xs ys last old rows s7 (.dat (.int N)) (.dat (.int one)) (.dat (.int oth)) s11 s12) x8_law = .ok (.bool (goodB n one oth)) := by
  refine evV_scal ?_ rfl
  show ((((Res.ok (decide (0 ≤ one))).bind fun k => match k with
    | false => Res.ok (PyData.bool false)
    | true => (Res.ok (decide (one < (n : Int)))).bind fun k => .ok (.bool k))).bind fun x => (tru x).bind fun k => match k with
      | true => (Res.ok (decide (oth < (n : Int)))).bind fun k => Res.ok (PyData.bool k)
      | false => Res.ok x) = _
  unfold goodB
  cases decide (0 ≤ one) <;> cases decide (one < (n : Int)) <;> rfl
theorem v9_ok (N : Int) : evV (envX ns n ts os xs ys last old rows s7 (.dat (.int N)) s9 s10 s11 s12) x9_law = .ok (.int (N / 8192 % 3)) := by
  refine evV_scal ?_ rfl
  show modD (.int (N / 8192)) (.int 3) = _
  rw [mod_int (by decide)]
def fstZ (N one oth : Int) : Int := if N / 32768 % 2 = 0 then one else oth
theorem v10_ok (N one oth : Int) : evV (envX ns n ts os xs ys last old rows s7 (.dat (.int N)) (.dat (.int one)) (.dat (.int oth)) s11 s12) x10_law = .ok (.tuple [.int (fstZ N one oth), .int (fstZ N oth one)]) := by
  have q : ((modD (.int (N / 32768)) (.int 2)).bind fun y => ixD (.list [.tuple [.int one, .int oth], .tuple [.int oth, .int one]]) y) = Res.ok (PyData.tuple [.int (fstZ N one oth), .int (fstZ N oth one)]) := by
    rw [mod_int (by decide), bind_ok]
    unfold fstZ
    have h0 : 0 ≤ N / 32768 % 2 := by omega
    by_cases e : N / 32768 % 2 = 0
    · rw [if_pos e, if_pos e, e]
      rfl
    · have e1 : N / 32768 % 2 = 1 := by omega
      rw [if_neg e, if_neg e, e1]
      rfl
  exact evV_both q q
theorem spot_good {one oth : Int} (ho : Ord n last) (h0 : 0 ≤ oth) (N : Int) : (spotB last (fstZ N one oth) && spotB last (fstZ N oth one)) = goodB n one oth := by
  have hl := ho.len
  unfold fstZ spotB goodB
  rw [hl]
  by_cases e : N / 32768 % 2 = 0
  · rw [if_pos e, if_pos e, decide_eq_true h0]
    cases decide (0 ≤ one) <;> cases decide (one < (n : Int)) <;> cases decide (oth < (n : Int)) <;> rfl
  · rw [if_neg e, if_neg e, decide_eq_true h0]
    cases decide (0 ≤ one) <;> cases decide (one < (n : Int)) <;> cases decide (oth < (n : Int)) <;> rfl
theorem app_is {i : Nat} {e : E} {env : Env} {zs : List D} {d : D} (h : env.get i = .own zs) (he : evV env e = .ok d) (hl : zs.length < lim) : exS (.app i e) env = .nx (env.set i (.own (zs ++ [d]))) := by
  show (match env.get i with
    | .own xs => (evV env e).out env fun d => match decide (xs.length < lim) with
      | true => Out.nx (env.set i (.own (xs ++ [d])))
      | false => .bad
    | _ => .bad) = _
  rw [h, he]
  dsimp only [out_ok]
  rw [decide_eq_true hl]
noncomputable def tailS : S := .cons (.ifx false 4 13 "_law_done" f_law_done (.cons (.var 12) (.cons (.var 9) (.cons (.var 10) .nil))) (.ix (.lst (.cons (.str "spot") (.cons (.str "ok") .nil))) (.bi .int (.cons (.var 11) .nil))) (.cons (.ret (.bl false)) .nil) (.nil)) <| .cons (.ifs (.var 11) (.cons (.app 6 x11_law) .nil) (.nil)) .nil
noncomputable def deedS : S := .cons (.asg 11 x8_law) <| .cons (.asg 12 x9_law) <| .cons (.asgT [9, 10] x10_law) <| .cons (.ifx false 4 13 "_law_done" f_law_done (.cons (.var 12) (.cons (.var 9) (.cons (.var 10) .nil))) (.ix (.lst (.cons (.str "spot") (.cons (.str "ok") .nil))) (.bi .int (.cons (.var 11) .nil))) (.cons (.ret (.bl false)) .nil) (.nil)) <| .cons (.ifs (.var 11) (.cons (.app 6 x11_law) .nil) (.nil)) .nil
theorem deed_turn (h : Wb n ts) (ho : Ord n last) (hi : ∀ r ∈ init, Ord n r) (hil : init.length ≤ 100) {N one oth : Int} (h0 : 0 ≤ oth) : ∃ init' last' s9' s10' s11' s12', Ord n last' ∧ (∀ r ∈ init', Ord n r) ∧ init'.length ≤ init.length + 1 ∧
    exS deedS (envX ns n ts os xs ys last init (init ++ [last]) s7 (.dat (.int N)) (.dat (.int one)) (.dat (.int oth)) s11 s12) = .nx (envX ns n ts os xs ys last' init' (init' ++ [last']) s7 (.dat (.int N)) s9' s10' s11' s12') := by
  have hlen := ho.len
  have hn := h.n8
  have hw0 : 0 ≤ N / 8192 % 3 := by omega
  obtain ⟨w, hw⟩ : ∃ w : Nat, N / 8192 % 3 = w := ⟨(N / 8192 % 3).toNat, by omega⟩
  have hw3 : w < 3 := by omega
  have step : exS deedS (envX ns n ts os xs ys last init (init ++ [last]) s7 (.dat (.int N)) (.dat (.int one)) (.dat (.int oth)) s11 s12) = exS tailS (envX ns n ts os xs ys last init (init ++ [last]) s7 (.dat (.int N)) (.dat (.int (fstZ N one oth))) (.dat (.int (fstZ N oth one))) (.dat (.bool (goodB n one oth))) (.dat (.int w))) := by
    unfold deedS
    rw [exS_cons, exS_asg, v8_ok, out_ok, seq_nx, exS_cons, exS_asg]
    rw [show (envX ns n ts os xs ys last init (init ++ [last]) s7 (.dat (.int N)) (.dat (.int one)) (.dat (.int oth)) s11 s12).set 11 (.dat (.bool (goodB n one oth))) = envX ns n ts os xs ys last init (init ++ [last]) s7 (.dat (.int N)) (.dat (.int one)) (.dat (.int oth)) (.dat (.bool (goodB n one oth))) s12 from rfl, v9_ok, hw, out_ok, seq_nx, exS_cons, exS_asgT]
    rw [show (envX ns n ts os xs ys last init (init ++ [last]) s7 (.dat (.int N)) (.dat (.int one)) (.dat (.int oth)) (.dat (.bool (goodB n one oth))) s12).set 12 (.dat (.int w)) = envX ns n ts os xs ys last init (init ++ [last]) s7 (.dat (.int N)) (.dat (.int one)) (.dat (.int oth)) (.dat (.bool (goodB n one oth))) (.dat (.int w)) from rfl, v10_ok, out_ok]
    rfl
  rw [step]
  unfold tailS
  have sg := spot_good (last := last) (one := one) (oth := oth) ho h0 N
  generalize fstZ N one oth = a at *
  generalize fstZ N oth one = b at *
  have e : ∀ l o, evV (envX ns n ts os xs ys l o (init ++ [last]) s7 (.dat (.int N)) (.dat (.int a)) (.dat (.int b)) (.dat (.bool (goodB n one oth))) (.dat (.int w))) (.ix (.lst (.cons (.str "spot") (.cons (.str "ok") .nil))) (.bi .int (.cons (.var 11) .nil))) = .ok (.str (if goodB n one oth = true then "ok" else "spot")) := fun l o => by
    refine evV_scal ?_ rfl
    cases goodB n one oth <;> rfl
  cases hg : goodB n one oth with
  | true =>
    rw [hg] at sg e
    obtain ⟨sa, sb⟩ : spotB last a = true ∧ spotB last b = true := by simpa using sg
    obtain ⟨i, rfl, hia⟩ := spot_nat sa
    obtain ⟨j, rfl, hjb⟩ := spot_nat sb
    have hd := done_in (n := n) (ts := ts) (old := init) hw3 hia hjb (by omega) (by omega)
    have od := deed_ord (w := w) ho (i := i) (j := j) (by omega) (by omega)
    refine ⟨init ++ [last], deedI w last i j, .dat (.int i), .dat (.int j), .dat (.bool true), .dat (.int w), od, fun r hr => ?_, by rw [List.length_append]; exact Nat.le_refl _, ?_⟩
    · rcases List.mem_append.mp hr with hr | hr
      · exact hi r hr
      · rw [List.mem_singleton.mp hr]; exact ho
    · rw [exS_cons, ifx_is (env := envX ns n ts os xs ys last init (init ++ [last]) s7 (.dat (.int N)) (.dat (.int i)) (.dat (.int j)) (.dat (.bool true)) (.dat (.int w))) (i := 4) (k := 13) (m := "_law_done") (f := f_law_done) (es := .cons (.var 12) (.cons (.var 9) (.cons (.var 10) .nil))) (e := .ix (.lst (.cons (.str "spot") (.cons (.str "ok") .nil))) (.bi .int (.cons (.var 11) .nil))) (me := false) (mk := .obj) (fs := fsL n ts last init) (fs' := fsL n ts (deedI w last i j) (init ++ [last])) (ds := [.int w, .int i, .int j]) (d := .str "ok") (y := .str "ok") (q := true) rfl rfl rfl hd rfl (e _ _) rfl, if_pos rfl, exS_nil, seq_nx, exS_cons, exS_ifs]
      show ((Res.ok true).out _ _).seq _ = _
      rw [out_ok]
      show (exS (.cons (.app 6 x11_law) .nil) (envX ns n ts os xs ys (deedI w last i j) (init ++ [last]) (init ++ [last]) s7 (.dat (.int N)) (.dat (.int i)) (.dat (.int j)) (.dat (.bool true)) (.dat (.int w)))).seq _ = _
      have q : ((((ixD (.list ((init ++ [last]).map fun r => oD r)) (.int (-1))).bind fun x => (Res.ok [PyData.int w, .int i, .int j]).bind fun xs => Res.ok (x :: xs)).bind f_law_deed)) = Res.ok (oD (deedI w last i j)) := by
        rw [ix_last, bind_ok, bind_ok, bind_ok]
        exact law_deed_ok hw3 hia hjb (by omega)
      have v : evV (envX ns n ts os xs ys (deedI w last i j) (init ++ [last]) (init ++ [last]) s7 (.dat (.int N)) (.dat (.int i)) (.dat (.int j)) (.dat (.bool true)) (.dat (.int w))) x11_law = .ok (oD (deedI w last i j)) := evV_both q q
      rw [exS_cons, app_is (zs := (init ++ [last]).map fun r => oD r) rfl v (by rw [List.length_map, List.length_append, List.length_singleton]; unfold lim; omega), seq_nx, exS_nil, seq_nx]
      show Out.nx (envX ns n ts os xs ys (deedI w last i j) (init ++ [last]) (init ++ [last]) s7 (.dat (.int N)) (.dat (.int i)) (.dat (.int j)) (.dat (.bool true)) (.dat (.int w)) |>.set 6 (.own ((init ++ [last]).map (fun r => oD r) ++ [oD (deedI w last i j)]))) = _
      unfold envX
      rw [List.map_append (l₁ := init ++ [last])]
      rfl
  | false =>
    rw [hg] at sg e
    have hd := done_out (n := n) (ts := ts) (row := last) (old := init) hw3 sg (by omega)
    refine ⟨init, last, .dat (.int a), .dat (.int b), .dat (.bool false), .dat (.int w), ho, hi, Nat.le_succ _, ?_⟩
    rw [exS_cons, ifx_is (env := envX ns n ts os xs ys last init (init ++ [last]) s7 (.dat (.int N)) (.dat (.int a)) (.dat (.int b)) (.dat (.bool false)) (.dat (.int w))) (i := 4) (k := 13) (m := "_law_done") (f := f_law_done) (es := .cons (.var 12) (.cons (.var 9) (.cons (.var 10) .nil))) (e := .ix (.lst (.cons (.str "spot") (.cons (.str "ok") .nil))) (.bi .int (.cons (.var 11) .nil))) (me := false) (mk := .obj) (fs := fsL n ts last init) (fs' := fsL n ts last init) (ds := [.int w, .int a, .int b]) (d := .str "spot") (y := .str "spot") (q := true) rfl rfl rfl hd rfl (e _ _) rfl, if_pos rfl, exS_nil, seq_nx, exS_cons, exS_ifs]
    show ((Res.ok false).out _ _).seq _ = _
    rfl
end
end Rwl

set_option Elab.async false
set_option linter.all false
set_option maxRecDepth 100000
set_option maxHeartbeats 2000000
namespace Rwl
open PySem
section
variable {ns : List Int} {n : Nat} {ts : List Tie} {os : List Int} {xs ys : List D} {last : List Int} {init rows old : List (List Int)} {s7 s8 s9 s10 s11 s12 : Slot}
theorem v12_ok (h : Wb n ts) (ho : Ord n last) : evB (envX ns n ts os xs ys last init (init ++ [last]) s7 s8 s9 s10 s11 s12) x12_law = .ok false := by
  refine evB_ok ?_
  show ((((ixD (.list ((init ++ [last]).map fun r => oD r)) (.int (-1))).bind fun x => (Res.ok []).bind fun xs => Res.ok (x :: xs)).bind fun xs => Res.ok (webD n (ts.map tieD) :: xs)).bind (fun xs => Res.ok (lD n ts last init :: xs)) |>.bind f_law_same |>.bind tru |>.bind fun b => Res.ok (!b)) = _
  rw [ix_last, bind_ok, bind_ok, bind_ok, bind_ok, bind_ok, same_ok h ho]
  rfl
theorem oth_nn (n : Nat) {N : Int} (h : 0 ≤ N) : 0 ≤ othZ n N := Int.emod_nonneg _ (Int.ne_of_gt (mx_pos n))
/-- one turn -/
theorem turn_ok (h : Wb n ts) {k : Nat} (ho : Ord n last) (hi : ∀ r ∈ init, Ord n r) (hil : init.length ≤ k) (hk : k < 50) : ∃ init' last' s8' s9' s10' s11' s12', Ord n last' ∧ (∀ r ∈ init', Ord n r) ∧ init'.length ≤ k + 1 ∧
    exS l13_law (envX ns n ts os xs ys last init (init ++ [last]) (.dat (.int k)) s8 s9 s10 s11 s12) = .nx (envX ns n ts os xs ys last' init' (init' ++ [last']) (.dat (.int k)) s8' s9' s10' s11' s12') := by
  have hN := mix_nn ns (91 + (k : Int))
  have pre : ∀ (rest : S), exS (.cons (.asg 8 x3_law) <| .cons (.asg 9 x4_law) <| .cons (.asg 10 x5_law) rest) (envX ns n ts os xs ys last init (init ++ [last]) (.dat (.int k)) s8 s9 s10 s11 s12) = exS rest (envX ns n ts os xs ys last init (init ++ [last]) (.dat (.int k)) (.dat (.int (mixZ ns (91 + k)))) (.dat (.int (oneZ n (mixZ ns (91 + k))))) (.dat (.int (othZ n (mixZ ns (91 + k))))) s11 s12) := fun rest => by
    rw [exS_cons, exS_asg, v3_ok, out_ok, seq_nx, exS_cons, exS_asg]
    rw [show (envX ns n ts os xs ys last init (init ++ [last]) (.dat (.int k)) s8 s9 s10 s11 s12).set 8 (.dat (.int (mixZ ns (91 + k)))) = envX ns n ts os xs ys last init (init ++ [last]) (.dat (.int k)) (.dat (.int (mixZ ns (91 + k)))) s9 s10 s11 s12 from rfl, v4_ok, out_ok, seq_nx, exS_cons, exS_asg]
    rw [show (envX ns n ts os xs ys last init (init ++ [last]) (.dat (.int k)) (.dat (.int (mixZ ns (91 + k)))) s9 s10 s11 s12).set 9 (.dat (.int (oneZ n (mixZ ns (91 + k))))) = envX ns n ts os xs ys last init (init ++ [last]) (.dat (.int k)) (.dat (.int (mixZ ns (91 + k)))) (.dat (.int (oneZ n (mixZ ns (91 + k))))) s10 s11 s12 from rfl, v5_ok, out_ok, seq_nx]
    rfl
  unfold l13_law
  rw [pre]
  generalize mixZ ns (91 + k) = N at *
  have h0 := oth_nn n hN
  have fin : ∀ (r : S) (init' : List (List Int)) (last' : List Int) (s9' s10' s11' s12' : Slot), Ord n last' → exS (.cons (.ifs x12_law (.cons (.ret (.bl false)) .nil) (.nil)) .nil) (envX ns n ts os xs ys last' init' (init' ++ [last']) (.dat (.int k)) (.dat (.int N)) s9' s10' s11' s12') = .nx (envX ns n ts os xs ys last' init' (init' ++ [last']) (.dat (.int k)) (.dat (.int N)) s9' s10' s11' s12') := fun _ init' last' s9' s10' s11' s12' o' => by
    rw [exS_cons, exS_ifs, v12_ok h o', out_ok]
    rfl
  rw [exS_cons, exS_ifs, v6_ok, out_ok]
  cases hc : decide (N / 2048 % 4 = 0) with
  | true =>
    dsimp only
    obtain ⟨init', last', o', i', l', e⟩ := back_turn (ns := ns) (ts := ts) (os := os) (xs := xs) (ys := ys) (s7 := .dat (.int k)) (s8 := .dat (.int N)) (s9 := .dat (.int (oneZ n N))) (s10 := .dat (.int (othZ n N))) (s11 := s11) (s12 := s12) (rows := init ++ [last]) rfl (by rw [List.length_append, List.length_singleton]; omega) ho hi
    refine ⟨init', last', .dat (.int N), .dat (.int (oneZ n N)), .dat (.int (othZ n N)), s11, s12, o', i', by omega, ?_⟩
    rw [e, seq_nx, fin .nil init' last' _ _ _ _ o']
  | false =>
    dsimp only
    obtain ⟨init', last', s9', s10', s11', s12', o', i', l', e⟩ := deed_turn (ns := ns) (ts := ts) (os := os) (xs := xs) (ys := ys) (last := last) (init := init) (s7 := .dat (.int k)) (s11 := s11) (s12 := s12) (N := N) (one := oneZ n N) (oth := othZ n N) h ho hi (by omega) h0
    refine ⟨init', last', .dat (.int N), s9', s10', s11', s12', o', i', by omega, ?_⟩
    have e : exS _ _ = _ := e
    unfold deedS at e
    rw [e, seq_nx, fin .nil init' last' _ _ _ _ o']
end
/-- THE LAW: whatever the script, it is true -/
theorem law_true (ns : List Int) : f_law [scr ns] = .ok (.bool true) := by
  obtain ⟨m, ts, w1, w2, w3, w4, w5⟩ := web_ok ns 0 6 (by decide) (by decide)
  obtain ⟨n, rfl⟩ : ∃ n : Nat, m = n := ⟨m.toNat, by omega⟩
  have h : Wb n ts := ⟨by omega, w4, w5⟩
  obtain ⟨os, o1, o2⟩ := order_ok ns 80 n h.n8
  have o : Ord n os := ⟨o2⟩
  have hlen := o.len
  have hn := h.n8
  have hts := h.len
  have e0 : evV [Slot.dat (scr ns), .none, .none, .none, .none, .none, .none, .none, .none, .none, .none, .none, .none] x0_law = .ok (webD n (ts.map tieD)) := by
    rw [evV_plain rfl]
    exact w1
  have e1 : evV [Slot.dat (scr ns), .dat (webD n (ts.map tieD)), .none, .none, .none, .none, .none, .none, .none, .none, .none, .none, .none] x1_law = .ok (oD os) := by
    rw [evV_plain rfl]
    exact o1
  have jo := laidJ_ok h o
  generalize hxs : ts.map tieD ++ [PyData.tuple [.int 0, .int 0, .int 0]] = xs
  generalize hys : os.map PyData.int ++ [PyData.int 0] = ys
  have pre : ∀ rest : S, exS (.cons (.asg 1 x0_law) <| .cons (.asg 2 x1_law) <| .cons (.hnew 3 1 2) <| .cons (.hmk 4 3 0 f_LaidJ) <| .cons (.hmk 5 3 0 f_LaidJ) <| .cons (.happ 3 true (.tup (.cons (.int 0) (.cons (.int 0) (.cons (.int 0) .nil))))) <| .cons (.happ 3 false (.int 0)) <| .cons (.new 6 x2_law) rest) [Slot.dat (scr ns), .none, .none, .none, .none, .none, .none, .none, .none, .none, .none, .none, .none] = exS rest (envX ns n ts os xs ys os [] ([] ++ [os]) .none .none .none .none .none .none) := fun rest => by
    have l1 : decide ((ts.map tieD).length < lim) = true := decide_eq_true (by rw [List.length_map]; unfold lim; omega)
    have l2 : decide ((os.map PyData.int).length < lim) = true := decide_eq_true (by rw [List.length_map]; unfold lim; omega)
    have l3 : decide (xs.length < lim) = true := decide_eq_true (by rw [← hxs, List.length_append, List.length_map, List.length_singleton]; unfold lim; omega)
    have mk : ∀ (i : Nat) (r : Env), exS (.hmk i 3 0 f_LaidJ) (.dat (scr ns) :: .dat (webD n (ts.map tieD)) :: .dat (oD os) :: .hnd n (ts.map tieD) (os.map .int) :: r) = .nx ((.dat (scr ns) :: .dat (webD n (ts.map tieD)) :: .dat (oD os) :: .hnd n (ts.map tieD) (os.map .int) :: r : Env).set i (.obj (fsL n ts os []))) := fun i r => by
      show (match f_LaidJ [] [.tuple [.int n, .list (ts.map tieD)], .list (os.map .int)] with
        | .ok fs _ => Out.nx ((.dat (scr ns) :: .dat (webD n (ts.map tieD)) :: .dat (oD os) :: .hnd n (ts.map tieD) (os.map .int) :: r : Env).set i (.obj fs))
        | _ => .bad) = _
      rw [show f_LaidJ [] [.tuple [.int n, .list (ts.map tieD)], .list (os.map .int)] = _ from jo]
    rw [exS_cons, exS_asg, e0, out_ok, seq_nx, exS_cons, exS_asg]
    rw [show ([Slot.dat (scr ns), .none, .none, .none, .none, .none, .none, .none, .none, .none, .none, .none, .none] : Env).set 1 (.dat (webD n (ts.map tieD))) = [Slot.dat (scr ns), .dat (webD n (ts.map tieD)), .none, .none, .none, .none, .none, .none, .none, .none, .none, .none, .none] from rfl, e1, out_ok, seq_nx, exS_cons]
    rw [show exS (.hnew 3 1 2) (([Slot.dat (scr ns), .dat (webD n (ts.map tieD)), .none, .none, .none, .none, .none, .none, .none, .none, .none, .none, .none] : Env).set 2 (.dat (oD os))) = .nx [Slot.dat (scr ns), .dat (webD n (ts.map tieD)), .dat (oD os), .hnd n (ts.map tieD) (os.map .int), .none, .none, .none, .none, .none, .none, .none, .none, .none] from rfl, seq_nx, exS_cons, mk, seq_nx, exS_cons]
    rw [show ([Slot.dat (scr ns), .dat (webD n (ts.map tieD)), .dat (oD os), .hnd n (ts.map tieD) (os.map .int), .none, .none, .none, .none, .none, .none, .none, .none, .none] : Env).set 4 (.obj (fsL n ts os [])) = [Slot.dat (scr ns), .dat (webD n (ts.map tieD)), .dat (oD os), .hnd n (ts.map tieD) (os.map .int), .obj (fsL n ts os []), .none, .none, .none, .none, .none, .none, .none, .none] from rfl, mk, seq_nx, exS_cons]
    have ha : exS (.happ 3 true (.tup (.cons (.int 0) (.cons (.int 0) (.cons (.int 0) .nil))))) [Slot.dat (scr ns), .dat (webD n (ts.map tieD)), .dat (oD os), .hnd n (ts.map tieD) (os.map .int), .obj (fsL n ts os []), .obj (fsL n ts os []), .none, .none, .none, .none, .none, .none, .none] = .nx [Slot.dat (scr ns), .dat (webD n (ts.map tieD)), .dat (oD os), .hnd n xs (os.map .int), .obj (fsL n ts os []), .obj (fsL n ts os []), .none, .none, .none, .none, .none, .none, .none] := by
      show (match decide ((ts.map tieD).length < lim) && decide ((os.map PyData.int).length < lim) with
        | true => Out.nx [Slot.dat (scr ns), .dat (webD n (ts.map tieD)), .dat (oD os), .hnd n (ts.map tieD ++ [PyData.tuple [.int 0, .int 0, .int 0]]) (os.map .int), .obj (fsL n ts os []), .obj (fsL n ts os []), .none, .none, .none, .none, .none, .none, .none]
        | false => .bad) = _
      rw [l1, l2, hxs]
      rfl
    have hb : exS (.happ 3 false (.int 0)) [Slot.dat (scr ns), .dat (webD n (ts.map tieD)), .dat (oD os), .hnd n xs (os.map .int), .obj (fsL n ts os []), .obj (fsL n ts os []), .none, .none, .none, .none, .none, .none, .none] = .nx [Slot.dat (scr ns), .dat (webD n (ts.map tieD)), .dat (oD os), .hnd n xs ys, .obj (fsL n ts os []), .obj (fsL n ts os []), .none, .none, .none, .none, .none, .none, .none] := by
      show (match decide (xs.length < lim) && decide ((os.map PyData.int).length < lim) with
        | true => Out.nx [Slot.dat (scr ns), .dat (webD n (ts.map tieD)), .dat (oD os), .hnd n xs (os.map PyData.int ++ [PyData.int 0]), .obj (fsL n ts os []), .obj (fsL n ts os []), .none, .none, .none, .none, .none, .none, .none]
        | false => .bad) = _
      rw [l3, l2, hys]
      rfl
    rw [show ([Slot.dat (scr ns), .dat (webD n (ts.map tieD)), .dat (oD os), .hnd n (ts.map tieD) (os.map .int), .obj (fsL n ts os []), .none, .none, .none, .none, .none, .none, .none, .none] : Env).set 5 (.obj (fsL n ts os [])) = [Slot.dat (scr ns), .dat (webD n (ts.map tieD)), .dat (oD os), .hnd n (ts.map tieD) (os.map .int), .obj (fsL n ts os []), .obj (fsL n ts os []), .none, .none, .none, .none, .none, .none, .none] from rfl, ha, seq_nx, exS_cons, hb, seq_nx]
    rfl
  -- the loop
  have hm0 : 0 ≤ mixZ ns 90 % 13 := by omega
  obtain ⟨q, hq⟩ : ∃ q : Nat, mixZ ns 90 % 13 = q := ⟨(mixZ ns 90 % 13).toNat, by omega⟩
  have hq13 : q < 13 := by omega
  have hr : evI (envX ns n ts os xs ys os [] ([] ++ [os]) .none .none .none .none .none .none) (.rng1 (.bin .mod (.call 5 f_law_mix (.cons (.var 0) (.cons (.int 90) .nil))) (.int 13))) = .ok (rngD 0 (q : Int)) := by
    refine rng1_ok ?_ (by omega) (by omega)
    show (f_law_mix [scr ns, .int 90]).bind (fun x => modD x (.int 13)) = _
    rw [mix_ok, bind_ok, mod_int (by decide), hq]
  obtain ⟨env', h1, init, last, s7, s8, s9, s10, s11, s12, lo, li, ll, rfl⟩ := forGo_rng (f := fun d env => ((⟨false, [7]⟩ : Tg).run env d).out env (exS l13_law)) (m := 0) (n := q) (env := envX ns n ts os xs ys os [] ([] ++ [os]) .none .none .none .none .none .none)
    (I := fun k env => ∃ init last s7 s8 s9 s10 s11 s12, Ord n last ∧ (∀ r ∈ init, Ord n r) ∧ init.length ≤ k ∧ env = envX ns n ts os xs ys last init (init ++ [last]) s7 s8 s9 s10 s11 s12) ⟨[], os, .none, .none, .none, .none, .none, .none, o, (by intro r hr; cases hr), Nat.le_refl _, rfl⟩
    (fun k env hk ⟨init, last, s7, s8, s9, s10, s11, s12, lo, li, ll, he⟩ => by
      subst he
      obtain ⟨init', last', s8', s9', s10', s11', s12', o', i', l', e⟩ := turn_ok (ns := ns) (os := os) (xs := xs) (ys := ys) (s8 := s8) (s9 := s9) (s10 := s10) (s11 := s11) (s12 := s12) h (k := k) lo li ll (by omega)
      refine ⟨_, ?_, init', last', .dat (.int k), s8', s9', s10', s11', s12', o', i', l', rfl⟩
      have w : ((⟨false, [7]⟩ : Tg).run (envX ns n ts os xs ys last init (init ++ [last]) s7 s8 s9 s10 s11 s12) (.int (0 + (k : Int)))) = .ok (envX ns n ts os xs ys last init (init ++ [last]) (.dat (.int (0 + (k : Int)))) s8 s9 s10 s11 s12) := rfl
      rw [w, out_ok, Int.zero_add]
      exact e)
  have e14 : evB (envX ns n ts os xs ys last init (init ++ [last]) s7 s8 s9 s10 s11 s12) x14_law = .ok false := by
    refine evB_ok ?_
    show (((f_law_made [.tuple [.int 9, .list []], oD os]).bind fun x => (eqD x (.str "web")).nott).bind fun k => match k with
      | true => Res.ok true
      | false => (((((addD (oD os) (.list [.int 0])).bind fun x => (Res.ok []).bind fun xs => Res.ok (x :: xs)).bind fun xs => Res.ok (webD n (ts.map tieD) :: xs)).bind f_law_made).bind fun x => (eqD x (.str "order")).nott)) = _
    rw [made_web, bind_ok, show eqD (.str "web") (.str "web") = .ok true from rfl, nott_ok, bind_ok]
    show (((((addD (oD os) (oD [0])).bind fun x => (Res.ok []).bind fun xs => Res.ok (x :: xs)).bind fun xs => Res.ok (webD n (ts.map tieD) :: xs)).bind f_law_made).bind fun x => (eqD x (.str "order")).nott) = _
    rw [add_ints (by rw [List.length_singleton]; omega), bind_ok, bind_ok, bind_ok, bind_ok, made_order h o, bind_ok]
    rfl
  have e15 : evR (envX ns n ts os xs ys last init (init ++ [last]) s7 s8 s9 s10 s11 s12) x15_law = .ok (.bool true) := by
    refine evR_ok ?_
    show f_law_same [lD n ts os [], webD n (ts.map tieD), oD os] = _
    exact same_ok h o
  have go : exS b_law [Slot.dat (scr ns), .none, .none, .none, .none, .none, .none, .none, .none, .none, .none, .none, .none] = .ret (.bool true) := by
    unfold b_law
    rw [pre, exS_cons, exS_forr, hr, out_ok, rngD_nat, h1, seq_nx, exS_cons, exS_ifs, e14, out_ok]
    dsimp only
    rw [exS_nil, seq_nx, exS_cons, exS_ret, e15]
    rfl
  unfold f_law
  exact (run1 (o := .ret (.bool true)) go).trans rfl
end Rwl

theorem PySem.Challenge.cw_rowlay_k10_whole_deeds_holds : PySem.Challenge.rw_rowlay_k10_whole_deeds.Holds := by
  exact Rwl.finL fun ns _ => Rwl.law_true ns
