import PyProof.Rows.All
import HandS.ForMost
import HandS.Wide
import KE.SortData
import KE.DataEq
import KE.DataMinMax
import PyProof.ReprReads
import HandS.ForExc
import HandS.HotCalls
import HandS.ExcCtx
import KE.KTupSum
import HandS.IsInst
import HandS.Conv
import PyProof.ReprRoads
import HandS.SortInts
import KE.DataCmp
import HandS.WideBits
import PyProof.IsRules
import HandS.TupAny
import HandS.SetFor
import HandS.Strs
import HandS.ExcIs
import HandS.Defaults
import HandS.Star
import HandS.Flow
import HandS.RevTup
import HandS.Rev
import KE.KRevSl
import HandS.TryOnly
import HandS.Zip
import HandS.DictComp
import HandS.Style
import HandS.EndBits
import HandS.HeadEnd
import KE.Datum
import HandS.HeadHook2
import KE.KStateDown
import HandS.More
import HandS.Words
import HandS.WordsExc
import HandS.Head0
import HandS.Head1
import HandS.Head2
import HandS.HeadHook1
import HandS.Codes
import KE.DatumMoreOrd
import PyProof.FitsInt
import PySem.Challenge.RW_chimeward_k03_whole_discs_of_many_teeth
set_option Elab.async false
section
set_option autoImplicit false
set_option linter.all false
/-! The evaluator: a small language of expressions and statements with values that are trees, run by fuel. -/
namespace Ev
open PySem

abbrev D := PyData

/-- what a slot holds: a value that nobody changes, or a list, a dict of its own -/
inductive O where
  | val (d : D)
  | lst (xs : List O)
  | dct (ks : List D) (vs : List O)
  | exc (c : Nat)
  | scr (is : List Int)

inductive Res (α : Type) where
  | ok (a : α)
  | err (c : Nat)
  | stuck

def noErr {α : Type} : Res α → Res α
  | .err _ => .stuck
  | r => r
def Res.bind {α β : Type} : Res α → (α → Res β) → Res β
  | .ok a, f => f a
  | .err c, _ => .err c
  | .stuck, _ => .stuck

abbrev Env := List (Option O)

mutual
def O.toD : O → D
  | .val d => d
  | .lst xs => .list (O.toDs xs)
  | .dct ks vs => .dict (ks.zip (O.toDs vs))
  | .exc _ => .none
  | .scr _ => .none
def O.toDs : List O → List D
  | [] => []
  | x :: xs => x.toD :: O.toDs xs
end

/-! what may be frozen -/
mutual
def O.tree : O → Bool
  | .val _ => true
  | .lst xs => O.trees xs
  | .dct _ vs => O.trees vs
  | .exc _ => false
  | .scr _ => false
def O.trees : List O → Bool
  | [] => true
  | x :: xs => x.tree && O.trees xs
end

/-! no list, no dict within -/
mutual
def flat : D → Bool
  | .none | .bool _ | .int _ | .str _ => true
  | .list _ => false
  | .tuple xs => flats xs
  | .dict _ => false
def flats : List D → Bool
  | [] => true
  | x :: xs => flat x && flats xs
end

inductive Ty where
  | int | bool | str | tuple | list | dict
  deriving DecidableEq

inductive Op1 where
  | len | all | any | sum | abs | int | str | list | tuple | sorted | min | max | listRev | sortedSet | lenSet | isT (t : Ty) | rev | neg | values | listRange | sumRange | repr
  deriving DecidableEq

inductive Op2 where
  | add | sub | mul | fdiv | mod | pow | eq | ne | lt | le | gt | ge | inn | nin | is | isnt | idx | min2 | max2 | index | listRange2 | listRange3 (c : Int) | listZip
  deriving DecidableEq

inductive Tgt where
  | nm (i : Nat)
  | tup (ts : List Tgt)

mutual
/-- expressions -/
inductive E where
  | none | bl (b : Bool) | int (i : Int) | str (s : Str)
  | var (i : Nat)
  | glb (i : Nat)
  | tup (es : List E) | lst (es : List E) | star (e : E)
  | dct (ks vs : List E)
  | op1 (o : Op1) (a : E)
  | op2 (o : Op2) (a b : E)
  | not (a : E) | and (a b : E) | or (a b : E) | ite (c a b : E)
  | chain (o1 o2 : Op2) (a b c : E)
  | slice (a : E) (lo hi : Option E)
  | rng3 (t : Bool) (a b c : E)
  | call (f : Nat) (args : List E)
  | sel (fs : List Nat) (ix : E) (args : List E)
  | callS (f : Nat) (e : E)
  | lend (i : Nat)
  | pop (i : Nat)
  | lenScr (i : Nat)
  | ixScr (i : Nat) (e : E)
  | move (i : Nat)
  | snap (e : E)
  | comp (elt : E) (t : Tgt) (it : I) (c : Option E)
  | sortedKeys (elt : E) (t : Tgt) (it : I) (c : Option E)
  | dcomp (k v : E) (t : Tgt) (it : I) (c : Option E)
  | flg (g i : Nat)
  | bad
/-- what is walked -/
inductive I where
  | seq (e : E) | scr (i : Nat) | range (e : E) | range2 (a b : E) | range3 (a b : E) (c : Int) | rangeE (a b c : E) | zip (a b : E) | enum (e : E) | items (e : E) | values (e : E)
end

inductive S where
  | asg (t : Tgt) (e : E)
  | asgO (i : Nat) (e : E)
  | par (is : List Nat) (own : List Bool) (es : List E)
  | frz (is : List Nat)
  | setIx (i : Nat) (ix e : E)
  | aug (i : Nat) (o : Op2) (e : E)
  | app (i : Nat) (e : E)
  | expr (e : E)
  | ifS (c : E) (a b : List S)
  | forS (t : Tgt) (it : I) (body : List S)
  | whileS (c : E) (body : List S)
  | ret (e : E)
  | retO (e : E)
  | brk | cont | pass
  | raise (c : Nat)
  | tryS (body : List S) (hs : List (Nat × Option Nat × List S))
  | bad

inductive Fl where
  | next | ret (o : O) | brk | cont

mutual
def tslots : Tgt → List Nat
  | .nm i => [i]
  | .tup ts => tslotss ts
def tslotss : List Tgt → List Nat
  | [] => []
  | t :: ts => tslots t ++ tslotss ts
end
mutual
/-- the slots that statements may set -/
def asgd : S → List Nat
  | .asg t _ => tslots t
  | .asgO i _ => [i]
  | .par is _ _ => is
  | .aug i _ _ => [i]
  | .ifS _ a b => asgds a ++ asgds b
  | .forS t _ b => tslots t ++ asgds b
  | .whileS _ b => asgds b
  | .tryS b hs => asgds b ++ asgdh hs
  | _ => []
def asgds : List S → List Nat
  | [] => []
  | s :: r => asgd s ++ asgds r
def asgdh : List (Nat × Option Nat × List S) → List Nat
  | [] => []
  | (_, none, b) :: r => asgds b ++ asgdh r
  | (_, some i, b) :: r => i :: (asgds b ++ asgdh r)
end

structure FDef where
  np : Nat
  ns : Nat
  body : List S

/-- the text: defs, constants, how errors stand to one another -/
structure Tab where
  fs : List FDef
  cs : List D
  sub : Nat → Nat → Bool
  nx : Nat
  fl : Nat → Nat → List Bool

def big : Nat := 1200000
def bigD : Nat := 4000
def SmD (i : Int) : Prop := i.natAbs < 2 ^ bigD
def Sm (i : Int) : Prop := i.natAbs < 2 ^ big
theorem sm_le {i : Int} {m : Nat} (h : i.natAbs < m) (hm : m ≤ 2 ^ big) : Sm i := Nat.lt_of_lt_of_le h hm
theorem smD_le {i : Int} {m : Nat} (h : i.natAbs < m) (hm : m ≤ 2 ^ bigD) : SmD i := Nat.lt_of_lt_of_le h hm
theorem pow_k {k : Nat} (hk : 60 ≤ k) : 2 ^ 60 ≤ 2 ^ k := Nat.pow_le_pow_right (by decide) hk
theorem small60 {i : Int} (h1 : -1000000000000000 ≤ i) (h2 : i ≤ 1000000000000000) : i.natAbs < 2 ^ 60 := by omega
theorem Sm_of {i : Int} (h1 : -1000000000000000 ≤ i) (h2 : i ≤ 1000000000000000) : Sm i := sm_le (small60 h1 h2) (pow_k (k := big) (by decide))
theorem SmD_of {i : Int} (h1 : -1000000000000000 ≤ i) (h2 : i ≤ 1000000000000000) : SmD i := smD_le (small60 h1 h2) (pow_k (k := bigD) (by decide))
instance (i : Int) : Decidable (SmD i) := if h : i.natAbs < 2 ^ 60 then isTrue (smD_le h (pow_k (k := bigD) (by decide))) else inferInstanceAs (Decidable (_ < _))
instance (i : Int) : Decidable (Sm i) := if h : i.natAbs < 2 ^ 60 then isTrue (sm_le h (pow_k (k := big) (by decide))) else inferInstanceAs (Decidable (_ < _))
def most : Nat := 1000000

def ofO {α : Type} : Option α → Res α
  | some a => .ok a
  | none => .stuck

def atD (xs : List D) (i : Int) : Option D := L2.atI xs i

def ints? : List D → Option (List Int)
  | [] => some []
  | .int i :: r => (ints? r).map (i :: ·)
  | _ :: _ => none
def bools? : List D → Option (List Bool)
  | [] => some []
  | .bool b :: r => (bools? r).map (b :: ·)
  | _ :: _ => none

/-- the items of a list or a tuple -/
def seq? : D → Option (List D)
  | .list xs => some xs
  | .tuple xs => some xs
  | _ => none

def truth : D → Option Bool
  | .none => some false
  | .bool b => some b
  | .int i => some (i != 0)
  | .str s => if s.length ≤ most then some (s.length != 0) else none
  | .list xs => some (!xs.isEmpty)
  | .tuple xs => some (!xs.isEmpty)
  | .dict kvs => some (!kvs.isEmpty)

def isTy (t : Ty) : D → Bool
  | .none => false
  | .bool _ => t == .bool || t == .int
  | .int _ => t == .int
  | .str _ => t == .str
  | .list _ => t == .list
  | .tuple _ => t == .tuple
  | .dict _ => t == .dict

/-- insertion sort -/
def ins (le : D → D → Bool) (x : D) : List D → List D
  | [] => [x]
  | y :: r => if le x y then x :: y :: r else y :: ins le x r
def isort (le : D → D → Bool) : List D → List D
  | [] => []
  | x :: r => ins le x (isort le r)
def leD (x y : D) : Bool := !W.dataLt y x
def isNone : D → Bool
  | .none => true
  | _ => false
def alikeB : List D → Bool
  | [] => true
  | x :: r => r.all (fun y => W.alike x y && W.alike y x) && (W.alike x x && (x.plain && (!isNone x && (decide (x.depth ≤ 20) && alikeB r))))
def sortable : List D → Bool
  | [] => true
  | .tuple (_ :: _) :: r => r.all fun d => match d with | .tuple (_ :: _) => true | _ => false
  | .none :: _ => false
  | .tuple [] :: _ => false
  | _ :: r => r.all fun d => match d with | .tuple _ => false | .none => false | _ => true
def sortD (xs : List D) : Option (List D) := if alikeB xs && sortable xs then some (isort leD xs) else none
def dedup : List D → List D
  | [] => []
  | x :: r => if r.any (fun y => PyData.eqv y x) then dedup r else x :: dedup r
def allInt : List D → Bool
  | [] => true
  | .int _ :: r => allInt r
  | _ :: _ => false

/-- the whole numbers in order, each once -/
def insI (x : Int) : List Int → List Int
  | [] => [x]
  | y :: r => if x < y then x :: y :: r else if x = y then y :: r else y :: insI x r
def sortI : List Int → List Int
  | [] => []
  | x :: r => insI x (sortI r)
theorem mem_insI {x k : Int} : ∀ {l : List Int}, k ∈ insI x l ↔ k = x ∨ k ∈ l
  | [] => by simp [insI]
  | y :: r => by
    unfold insI
    split
    · rw [List.mem_cons]
    · split
      · rename_i h; subst h; rw [List.mem_cons]; constructor
        · exact fun q => .inr q
        · rintro (q | q)
          · exact .inl q
          · exact q
      · rw [List.mem_cons, mem_insI, List.mem_cons]
        constructor
        · rintro (q | q | q)
          · exact .inr (.inl q)
          · exact .inl q
          · exact .inr (.inr q)
        · rintro (q | q | q)
          · exact .inr (.inl q)
          · exact .inl q
          · exact .inr (.inr q)
theorem mem_sortI {k : Int} : ∀ {l : List Int}, k ∈ sortI l ↔ k ∈ l
  | [] => Iff.rfl
  | x :: r => by rw [sortI, mem_insI, mem_sortI, List.mem_cons]
theorem insI_pw {x : Int} : ∀ {l : List Int}, l.Pairwise (· < ·) → (insI x l).Pairwise (· < ·)
  | [], _ => by simp [insI]
  | y :: r, h => by
    obtain ⟨h1, h2⟩ := List.pairwise_cons.mp h
    unfold insI
    split
    · rename_i hx
      exact List.pairwise_cons.mpr ⟨fun z hz => by
        rcases List.mem_cons.mp hz with q | q
        · omega
        · have := h1 z q; omega, h⟩
    · split
      · exact h
      · exact List.pairwise_cons.mpr ⟨fun z hz => by
          rcases mem_insI.mp hz with q | q
          · omega
          · exact h1 z q, insI_pw h2⟩
theorem sortI_pw : ∀ {l : List Int}, (sortI l).Pairwise (· < ·)
  | [] => .nil
  | x :: r => insI_pw sortI_pw
theorem pw_uniq : ∀ {a b : List Int}, a.Pairwise (· < ·) → b.Pairwise (· < ·) → (∀ k, k ∈ a ↔ k ∈ b) → a = b
  | [], [], _, _, _ => rfl
  | [], y :: r, _, _, h => absurd ((h y).mpr List.mem_cons_self) (by simp)
  | x :: r, [], _, _, h => absurd ((h x).mp List.mem_cons_self) (by simp)
  | x :: r, y :: t, ha, hb, h => by
    obtain ⟨a1, a2⟩ := List.pairwise_cons.mp ha
    obtain ⟨b1, b2⟩ := List.pairwise_cons.mp hb
    have e : x = y := by
      rcases List.mem_cons.mp ((h x).mp List.mem_cons_self) with q | q
      · exact q
      · rcases List.mem_cons.mp ((h y).mpr List.mem_cons_self) with p | p
        · exact p.symm
        · have := b1 x q; have := a1 y p; omega
    subst e
    rw [pw_uniq a2 b2 fun k => ⟨fun q => by
      rcases List.mem_cons.mp ((h k).mp (List.mem_cons_of_mem _ q)) with p | p
      · have := a1 k q; omega
      · exact p, fun q => by
      rcases List.mem_cons.mp ((h k).mpr (List.mem_cons_of_mem _ q)) with p | p
      · have := b1 k q; omega
      · exact p⟩]
theorem sortI_eq {a l : List Int} (h : a.Pairwise (· < ·)) (m : ∀ k, k ∈ a ↔ k ∈ l) : a = sortI l := pw_uniq h sortI_pw fun k => (m k).trans mem_sortI.symm

def rangeD (lo hi : Int) : List D := (List.range (hi - lo).toNat).map fun (k : Nat) => .int (lo + (k : Int))
/-- how many i, i + c, .. lie below j -/
def stepN (i j c : Int) : Nat := if i < j then ((j - i - 1) / c + 1).toNat else 0
def rangeS (i j c : Int) : List D := (List.range (stepN i j c)).map fun (k : Nat) => .int (i + (k : Int) * c)
def okRange (i : Int) : Bool := decide (-4611686018427387904 ≤ i) && decide (i < 4611686018427387904)

/-- what repr may be asked of -/
def reprOk (d : D) : Bool := (match d with | .list _ => true | .tuple _ => true | _ => false) && (d.plain && (d.showable && (!d.hasDict && (decide (d.depth ≤ 50) && decide (d.shown.length ≤ 1000000)))))
def ev1 (o : Op1) (d : D) : Option O :=
  match o with
  | .len => (match d with
    | .list xs => some (.val (.int xs.length))
    | .tuple xs => some (.val (.int xs.length))
    | .str s => if s.length ≤ most then some (.val (.int s.length)) else none
    | .dict kvs => some (.val (.int kvs.length))
    | _ => none)
  | .all => (match d with | .list xs => (bools? xs).map fun bs => .val (.bool (bs.all id)) | _ => none)
  | .any => (match d with | .list xs => (bools? xs).map fun bs => .val (.bool (bs.any id)) | _ => none)
  | .sum => (match seq? d with | some xs => (ints? xs).map fun is => .val (.int is.sum) | _ => none)
  | .abs => (match d with | .int i => some (.val (.int (if i < 0 then -i else i))) | _ => none)
  | .int => (match d with | .int i => some (.val (.int i)) | .bool b => some (.val (.int (if b then 1 else 0))) | _ => none)
  | .str => none
  | .list => (match seq? d with | some xs => some (.lst (xs.map .val)) | none => none)
  | .tuple => (match seq? d with | some xs => some (.val (.tuple xs)) | none => none)
  | .sorted => (match d with | .list xs => (sortD xs).map fun ys => .lst (ys.map .val) | _ => none)
  | .min => (match d with
    | .list (x :: xs) => if alikeB (x :: xs) then some (.val (W.minD x xs)) else none
    | _ => none)
  | .max => (match d with
    | .list (x :: xs) => if alikeB (x :: xs) then some (.val (W.maxD x xs)) else none
    | _ => none)
  | .listRev => (match d with | .list xs => some (.lst (xs.reverse.map .val)) | _ => none)
  | .sortedSet => (match seq? d with | some xs => (ints? xs).bind fun ns => if ns.length < 64 then some (.lst ((sortI ns).map fun i => .val (.int i))) else none | none => none)
  | .lenSet => none
  | .isT t => some (.val (.bool (isTy t d)))
  | .rev => (match d with | .list xs => some (.lst (xs.reverse.map .val)) | .tuple xs => some (.val (.tuple xs.reverse)) | _ => none)
  | .neg => (match d with | .int i => some (.val (.int (-i))) | _ => none)
  | .values => none
  | .listRange => (match d with | .int j => if okRange j && decide (j ≤ most) then some (.lst ((rangeD 0 j).map .val)) else none | _ => none)
  | .sumRange => (match d with | .int j => if okRange j && decide (j ≤ most) then some (.val (.int ((List.range j.toNat).map (fun (k : Nat) => (k : Int))).sum)) else none | _ => none)
  | .repr => if reprOk d then some (.val (.str d.shown)) else none

def cmpI (o : Op2) (i j : Int) : Option Bool :=
  match o with
  | .lt => some (decide (i < j))
  | .le => some (decide (i ≤ j))
  | .gt => some (decide (j < i))
  | .ge => some (decide (j ≤ i))
  | _ => none

/-- what may be put in order -/
def ltOk (d e : D) : Bool := d.plain && (e.plain && (W.alike d e && (!isNone d && decide (d.depth ≤ 20))))
def ev2 (o : Op2) (d e : D) : Option O :=
  match o with
  | .add => (match d, e with
    | .int i, .int j => some (.val (.int (i + j)))
    | .list xs, .list ys => if xs.length + ys.length ≤ most then some (.lst ((xs ++ ys).map .val)) else none
    | .tuple xs, .tuple ys => if xs.length + ys.length ≤ most then some (.val (.tuple (xs ++ ys))) else none
    | _, _ => none)
  | .sub => (match d, e with | .int i, .int j => some (.val (.int (i - j))) | _, _ => none)
  | .mul => (match d, e with
    | .int i, .int j => if Sm i ∧ Sm j then some (.val (.int (i * j))) else none
    | .list xs, .int j => if (-1000000 ≤ j ∧ j ≤ 1000000) ∧ xs.length * j.toNat ≤ most then some (.lst (((List.replicate j.toNat xs).flatten).map .val)) else none
    | _, _ => none)
  | .fdiv => (match d, e with | .int i, .int j => if 0 < j ∧ SmD j then some (.val (.int (i / j))) else none | _, _ => none)
  | .mod => (match d, e with | .int i, .int j => if 0 < j then some (.val (.int (i % j))) else none | _, _ => none)
  | .pow => (match d, e with | .int i, .int j => if 0 ≤ j ∧ j ≤ 1000 ∧ i.natAbs < 1000 then some (.val (.int (i ^ j.toNat))) else none | _, _ => none)
  | .eq => if d.plain && e.plain && decide (d.depth ≤ 20) then some (.val (.bool (PyData.eqv d e))) else none
  | .ne => if d.plain && e.plain && decide (d.depth ≤ 20) then some (.val (.bool (!PyData.eqv d e))) else none
  | .lt => (match d, e with | .int i, .int j => some (.val (.bool (decide (i < j)))) | d, e => if ltOk d e then some (.val (.bool (W.dataLt d e))) else none)
  | .le => (match d, e with | .int i, .int j => some (.val (.bool (decide (i ≤ j)))) | d, e => if ltOk d e then some (.val (.bool (!W.dataLt e d))) else none)
  | .gt => (match d, e with | .int i, .int j => some (.val (.bool (decide (j < i)))) | d, e => if ltOk d e then some (.val (.bool (W.dataLt e d))) else none)
  | .ge => (match d, e with | .int i, .int j => some (.val (.bool (decide (j ≤ i)))) | d, e => if ltOk d e then some (.val (.bool (!W.dataLt d e))) else none)
  | .inn => (match seq? e with
    | some xs => if PyData.plainAll xs && d.plain && decide (d.depth ≤ 20) then some (.val (.bool (xs.any fun y => PyData.eqv y d))) else none
    | none => none)
  | .nin => (match seq? e with
    | some xs => if PyData.plainAll xs && d.plain && decide (d.depth ≤ 20) then some (.val (.bool (!xs.any fun y => PyData.eqv y d))) else none
    | none => none)
  | .is => (match d, e with
    | .bool b, .bool c => some (.val (.bool (b == c)))
    | .none, .bool _ => some (.val (.bool false))
    | d, .none => some (.val (.bool (isNone d)))
    | _, _ => none)
  | .isnt => (match d, e with
    | .bool b, .bool c => some (.val (.bool (!(b == c))))
    | .none, .bool _ => some (.val (.bool true))
    | d, .none => some (.val (.bool (!isNone d)))
    | _, _ => none)
  | .idx => (match d, e with
    | .list xs, .int i => (atD xs i).map .val
    | .tuple xs, .int i => (atD xs i).map .val
    | _, _ => none)
  | .min2 => (match d, e with | .int i, .int j => some (.val (.int (if j < i then j else i))) | _, _ => none)
  | .max2 => (match d, e with | .int i, .int j => some (.val (.int (if j > i then j else i))) | _, _ => none)
  | .index => none
  | .listRange2 => (match d, e with
    | .int i, .int j => if okRange i && okRange j && decide (j - i ≤ most) then some (.lst ((rangeD i j).map .val)) else none
    | _, _ => none)
  | .listRange3 c => (match d, e with
    | .int i, .int j => if okRange i && okRange j && decide (0 < c) && decide (c ≤ most) && decide (j - i ≤ most) then some (.lst ((rangeS i j c).map .val)) else none
    | _, _ => none)
  | .listZip => (match seq? d, seq? e with
    | some xs, some ys => some (.lst (List.zipWith (fun x y => .val (.tuple [x, y])) xs ys))
    | _, _ => none)

/-- a part of a list -/
def cutD (xs : List D) (lo hi : Option Int) : List D :=
  (xs.drop (_root_.HT.sIx xs.length 0 lo)).take (_root_.HT.sIx xs.length xs.length hi - _root_.HT.sIx xs.length 0 lo)

def slice1 (d : D) (lo hi : Option Int) : Option O :=
  match d with
  | .list xs => some (.lst ((cutD xs lo hi).map .val))
  | .tuple xs => some (.val (.tuple (cutD xs lo hi)))
  | _ => none

def setO (env : Env) (i : Nat) (o : O) : Env := env.set i (some o)

mutual
def assignT : Tgt → D → Env → Option Env
  | .nm i, d, env => if i < env.length then some (setO env i (.val d)) else none
  | .tup ts, d, env => match d with
    | .tuple ds => assignTs ts ds env
    | .list ds => assignTs ts ds env
    | _ => none
def assignTs : List Tgt → List D → Env → Option Env
  | [], [], env => some env
  | t :: ts, d :: ds, env => match assignT t d env with
    | some env' => assignTs ts ds env'
    | none => none
  | _, _, _ => none
end
def wipeE (env : Env) : List Nat → Env
  | [] => env
  | v :: vs => (wipeE env vs).set v none
/-- the slots at vs as they were in env0 -/
def backE (env0 env : Env) : List Nat → Env
  | [] => env
  | v :: vs => (backE env0 env vs).set v (env0[v]?).join
def plainAt (env : Env) (v : Nat) : Bool := match (env[v]?).join with
  | none => true
  | some (.val _) => true
  | _ => false

section
variable (T : Tab) (ev : E → Env → Res (O × Env)) (exs : List S → Env → Res (Fl × Env))

/-- a value that is told, frozen -/
def evD (e : E) (env : Env) : Res (D × Env) := (ev e env).bind fun p => if p.1.tree then .ok (p.1.toD, p.2) else .stuck

def evDs : List E → Env → Res (List D × Env)
  | [], env => .ok ([], env)
  | .star e :: r, env => (evD ev e env).bind fun p => match seq? p.1 with
    | some xs => (evDs r p.2).bind fun q => .ok (xs ++ q.1, q.2)
    | none => .stuck
  | e :: r, env => (evD ev e env).bind fun p => (evDs r p.2).bind fun q => .ok (p.1 :: q.1, q.2)

/-- arguments: those that are lent stay where they are -/
def evArgs : List E → Env → Res (List (Option Nat × D) × Env)
  | [], env => .ok ([], env)
  | .lend i :: r, env => match (env[i]?).join with
    | some _ => (evArgs r env).bind fun q => .ok ((some i, .none) :: q.1, q.2)
    | none => .stuck
  | e :: r, env => (evD ev e env).bind fun p => (evArgs r p.2).bind fun q => .ok ((none, p.1) :: q.1, q.2)
def argO (env : Env) : Option Nat × D → Option O
  | (some i, _) => (env[i]?).join
  | (none, d) => some (.val d)
def argOs (env : Env) : List (Option Nat × D) → Option (List O)
  | [] => some []
  | a :: r => match argO env a, argOs env r with
    | some o, some os => some (o :: os)
    | _, _ => none
/-- what was lent comes back -/
def backs (env : Env) : List (Option Nat × D) → List (Option O) → Env
  | (some i, _) :: r, o :: os => backs (env.set i o) r os
  | (none, _) :: r, _ :: os => backs env r os
  | _, _ => env
def lent : List (Option Nat × D) → List Nat
  | [] => []
  | (some i, _) :: r => i :: lent r
  | (none, _) :: r => lent r

def callF (f : Nat) (os : List O) : Res (O × Env) :=
  match T.fs[f]? with
  | none => .stuck
  | some d => if os.length = d.np then
      (exs d.body (os.map some ++ List.replicate (d.ns - d.np) none)).bind fun p => match p.1 with
        | .next => .ok (.val .none, wipeE (p.2.take d.np) (asgds d.body))
        | .ret o => .ok (o, wipeE (p.2.take d.np) (asgds d.body))
        | _ => .stuck
    else .stuck

/-- no def sets a parameter that was lent to it -/
def lentOk (f : Nat) (as : List (Option Nat × D)) : Bool := match T.fs[f]? with
  | none => false
  | some d => (List.range as.length).all fun j => match as[j]? with
    | some (some _, _) => decide (j ∉ asgds d.body)
    | _ => true
def callA (f : Nat) (as : List (Option Nat × D)) (env : Env) : Res (O × Env) :=
  if (lent as).Nodup ∧ lentOk T f as = true then match argOs env as with
    | none => .stuck
    | some os => (callF T exs f os).bind fun p => .ok (p.1, backs env as p.2)
  else .stuck

def truthE (e : E) (env : Env) : Res (Bool × Env) := (evD ev e env).bind fun p => match truth p.1 with
  | some b => .ok (b, p.2)
  | none => .stuck

/-- the items that are walked, one behind the other -/
def items (it : I) (env : Env) : Res (List D × Env) :=
  match it with
  | .seq e => (evD ev e env).bind fun p => match p.1 with
    | .list xs => .ok (xs, p.2)
    | .tuple xs => .ok (xs, p.2)
    | _ => .stuck
  | .scr i => match (env[i]?).join with
    | some (.scr is) => .ok (is.map .int, env)
    | _ => .stuck
  | .range e => (evD ev e env).bind fun p => match p.1 with
    | .int j => if okRange j && decide (j ≤ most) then .ok (rangeD 0 j, p.2) else .stuck
    | _ => .stuck
  | .range2 a b => (evD ev a env).bind fun p => (evD ev b p.2).bind fun q => match p.1, q.1 with
    | .int i, .int j => if okRange i && okRange j && decide (j - i ≤ most) then .ok (rangeD i j, q.2) else .stuck
    | _, _ => .stuck
  | .range3 a b c => (evD ev a env).bind fun p => (evD ev b p.2).bind fun q => match p.1, q.1 with
    | .int i, .int j => if okRange i && okRange j && decide (0 < c) && decide (c ≤ most) && decide (j - i ≤ most) then .ok (rangeS i j c, q.2) else .stuck
    | _, _ => .stuck
  | .rangeE a b c => (evD ev a env).bind fun p => (evD ev b p.2).bind fun q => (evD ev c q.2).bind fun r => match p.1, q.1, r.1 with
    | .int i, .int j, .int k => if okRange i && okRange j && decide (0 < k) && decide (k ≤ most) && decide (j - i ≤ most) then .ok (rangeS i j k, r.2) else .stuck
    | _, _, _ => .stuck
  | .zip a b => (evD ev a env).bind fun p => (evD ev b p.2).bind fun q => match p.1, q.1 with
    | .list xs, .list ys => .ok (List.zipWith (fun x y => .tuple [x, y]) xs ys, q.2)
    | .tuple xs, .tuple ys => .ok (List.zipWith (fun x y => .tuple [x, y]) xs ys, q.2)
    | _, _ => .stuck
  | .enum e => (evD ev e env).bind fun p => match p.1 with
    | .list xs => .ok (xs.mapIdx fun i x => .tuple [.int i, x], p.2)
    | _ => .stuck
  | .items e => (evD ev e env).bind fun p => match p.1 with
    | .dict kvs => .ok (kvs.map fun q => .tuple [q.1, q.2], p.2)
    | _ => .stuck
  | .values e => (evD ev e env).bind fun p => match p.1 with
    | .dict kvs => .ok (kvs.map (·.2), p.2)
    | _ => .stuck

/-- a comprehension's turns: acc so far -/
def turns (elt : E) (t : Tgt) (c : Option E) (own : List Nat) : List D → Env → Res (List O × Env)
  | [], env => .ok ([], env)
  | d :: ds, env => match assignT t d (wipeE env own) with
    | none => .stuck
    | some env1 => (match c with
        | none => Res.ok (true, env1)
        | some c => truthE ev c env1).bind fun p =>
      if p.1 then (evD ev elt p.2).bind fun q => (turns elt t c own ds q.2).bind fun r => .ok (.val q.1 :: r.1, r.2)
      else turns elt t c own ds p.2

def optI (e : Option E) (env : Env) : Res (Option Int × Env) :=
  match e with
  | none => .ok (none, env)
  | some e => (evD ev e env).bind fun p => match p.1 with
    | .int i => .ok (some i, p.2)
    | _ => .stuck

/-- the slots' own things as if they were frozen -/
def frozen (env : Env) : Env := env.map fun o => match o with
  | some o => if o.tree then some (.val o.toD) else none
  | none => none
/-- what may be told of things that may change later -/
def looses : List O → Bool
  | [] => true
  | .val d :: r => flat d && looses r
  | _ :: _ => false
def loose : O → Bool
  | .val d => flat d
  | .lst xs => looses xs
  | _ => false

def stepE : E → Env → Res (O × Env)
  | .none, env => .ok (.val .none, env)
  | .bl b, env => .ok (.val (.bool b), env)
  | .int i, env => .ok (.val (.int i), env)
  | .str s, env => .ok (.val (.str s), env)
  | .var i, env => match (env[i]?).join with
    | some (.val d) => .ok (.val d, env)
    | some (.exc c) => .ok (.exc c, env)
    | _ => .stuck
  | .glb i, env => match T.cs[i]? with
    | some d => .ok (.val d, env)
    | none => .stuck
  | .tup es, env => (evDs ev es env).bind fun p => if p.1.length ≤ most then .ok (.val (.tuple p.1), p.2) else .stuck
  | .lst es, env => (evDs ev es env).bind fun p => if p.1.length ≤ most then .ok (.lst (p.1.map .val), p.2) else .stuck
  | .op1 o a, env => (evD ev a env).bind fun p => match ev1 o p.1 with
    | some r => .ok (r, p.2)
    | none => .stuck
  | .op2 o a b, env => (evD ev a env).bind fun p => (evD ev b p.2).bind fun q => match ev2 o p.1 q.1 with
    | some r => .ok (r, q.2)
    | none => .stuck
  | .not a, env => (truthE ev a env).bind fun p => .ok (.val (.bool (!p.1)), p.2)
  | .and a b, env => (evD ev a env).bind fun p => match p.1 with
    | .bool true => ev b p.2
    | .bool false => .ok (.val (.bool false), p.2)
    | _ => .stuck
  | .or a b, env => (evD ev a env).bind fun p => match p.1 with
    | .bool true => .ok (.val (.bool true), p.2)
    | .bool false => ev b p.2
    | _ => .stuck
  | .ite c a b, env => (truthE ev c env).bind fun p => if p.1 then ev a p.2 else ev b p.2
  | .chain o1 o2 a b c, env => (evD ev a env).bind fun p => (evD ev b p.2).bind fun q => match ev2 o1 p.1 q.1 with
    | some (.val (.bool true)) => (evD ev c q.2).bind fun r => match ev2 o2 q.1 r.1 with
      | some o => .ok (o, r.2)
      | none => .stuck
    | some (.val (.bool false)) => .ok (.val (.bool false), q.2)
    | _ => .stuck
  | .slice a lo hi, env => (evD ev a env).bind fun p => (optI ev lo p.2).bind fun q => (optI ev hi q.2).bind fun r => match slice1 p.1 q.1 r.1 with
    | some o => .ok (o, r.2)
    | none => .stuck
  | .rng3 t a b c, env => (evD ev a env).bind fun p => (evD ev b p.2).bind fun q => (evD ev c q.2).bind fun r => match p.1, q.1, r.1 with
    | .int i, .int j, .int k => if okRange i && okRange j && decide (0 < k) && decide (k ≤ most) && decide (j - i ≤ most) then .ok (if t then .val (.tuple (rangeS i j k)) else .lst ((rangeS i j k).map .val), r.2) else .stuck
    | _, _, _ => .stuck
  | .call f args, env => (evArgs ev args env).bind fun p => callA T exs f p.1 p.2
  | .callS f e, env => (evD ev e env).bind fun p => match seq? p.1 with
    | some ds => callA T exs f (ds.map fun d => (none, d)) p.2
    | none => .stuck
  | .sel fs ix args, env => (evD ev ix env).bind fun p => match p.1 with
    | .int i => if 0 ≤ i then match fs[i.toNat]? with
        | some f => (evArgs ev args p.2).bind fun q => callA T exs f q.1 q.2
        | none => .stuck
      else .stuck
    | _ => .stuck
  | .pop i, env => match (env[i]?).join with
    | some (.lst xs) => match xs.getLast? with
      | some (.val d) => .ok (.val d, setO env i (.lst xs.dropLast))
      | _ => .stuck
    | _ => .stuck
  | .lenScr i, env => match (env[i]?).join with
    | some (.scr is) => .ok (.val (.int is.length), env)
    | _ => .stuck
  | .ixScr i e, env => match (env[i]?).join with
    | some (.scr is) => (evD ev e env).bind fun p => match p.1 with
      | .int j => match L2.atI is j with
        | some k => .ok (.val (.int k), p.2)
        | none => .stuck
      | _ => .stuck
    | _ => .stuck
  | .move i, env => match (env[i]?).join with
    | some o => .ok (o, env.set i none)
    | none => .stuck
  | .snap e, env => (ev e (frozen env)).bind fun p => if loose p.1 then .ok (p.1, env) else .stuck
  | .comp elt t it c, env => (items ev it env).bind fun p => if p.1.length ≤ most ∧ (tslots t).all (plainAt p.2) = true then
      (noErr (turns ev elt t c (tslots t) p.1 p.2)).bind fun q => .ok (.lst q.1, backE p.2 q.2 (tslots t)) else .stuck
  | .sortedKeys elt t it c, env => (items ev it env).bind fun p => if p.1.length ≤ most ∧ (tslots t).all (plainAt p.2) = true then
      (noErr (turns ev elt t c (tslots t) p.1 p.2)).bind fun q => match ints? (O.toDs q.1) with
        | some ns => .ok (.lst ((sortI ns).map fun i => .val (.int i)), backE p.2 q.2 (tslots t))
        | none => .stuck
      else .stuck
  | _, _ => .stuck

/-- the turns of a for -/
def loopF (body : Env → Res (Fl × Env)) (t : Tgt) : List D → Env → Res (Fl × Env)
  | [], env => .ok (.next, env)
  | d :: ds, env => match assignT t d env with
    | none => .stuck
    | some env1 => (body env1).bind fun p => match p.1 with
      | .next => loopF body t ds p.2
      | .cont => loopF body t ds p.2
      | .brk => .ok (.next, p.2)
      | .ret o => .ok (.ret o, p.2)
def loopW (c : Env → Res (Bool × Env)) (body : Env → Res (Fl × Env)) : Nat → Env → Res (Fl × Env)
  | 0, _ => .stuck
  | k + 1, env => (c env).bind fun p => if p.1 then (body p.2).bind fun q => match q.1 with
      | .next => loopW c body k q.2
      | .cont => loopW c body k q.2
      | .brk => .ok (.next, q.2)
      | .ret o => .ok (.ret o, q.2)
    else .ok (.next, p.2)

def allVal : List O → Bool
  | [] => true
  | .val _ :: r => allVal r
  | _ :: _ => false
def parAsg : List Nat → List O → Env → Option Env
  | [], [], env => some env
  | i :: is, o :: os, env => if i < env.length then parAsg is os (setO env i o) else none
  | _, _, _ => none
def evOs : List Bool → List E → Env → Res (List O × Env)
  | _, [], env => .ok ([], env)
  | [], _ :: _, _ => .stuck
  | b :: bs, e :: r, env => (if b then ev e env else (evD ev e env).bind fun p => .ok (.val p.1, p.2)).bind fun p => (evOs bs r p.2).bind fun q => .ok (p.1 :: q.1, q.2)
def freezeAt (env : Env) : List Nat → Env
  | [] => env
  | i :: is => match ((freezeAt env is)[i]?).join with
    | some o => if o.tree then setO (freezeAt env is) i (.val o.toD) else freezeAt env is
    | none => freezeAt env is

def augF : Op2 → Int → Int → Option Int
  | .add, k, j => some (k + j)
  | .sub, k, j => some (k - j)
  | _, _, _ => none
def ownFree (env : Env) : Env := env.map fun o => match o with
  | some (.val d) => some (.val d)
  | _ => none

/-- a value that needs nobody -/
def atomE : E → Option D
  | .none => some .none
  | .bl b => some (.bool b)
  | .int i => some (.int i)
  | .str s => some (.str s)
  | _ => none
def atomsE : List E → Option (List D)
  | [] => some []
  | e :: r => match atomE e, atomsE r with
    | some d, some ds => some (d :: ds)
    | _, _ => none
def cstE : E → Option D
  | .tup es => (atomsE es).map .tuple
  | e => atomE e
/-- the clauses, one behind the other -/
def handle (c : Nat) (env : Env) : List (Nat × Option Nat × List S) → Res (Fl × Env)
  | [] => .err c
  | (k, none, [.ret e]) :: r => if c < T.nx ∧ k < T.nx then
      if T.sub c k then match cstE e with
        | some d => .ok (.ret (.val d), ownFree env)
        | none => .stuck
      else handle c env r
    else .stuck
  | (k, some i, [.ret (.flg g j)]) :: r => if (c < T.nx ∧ k < T.nx) ∧ i = j then
      if T.sub c k then .ok (.ret (.val (.list ((T.fl g c).map .bool))), ownFree env)
      else handle c env r
    else .stuck
  | _ :: _ => .stuck

def one : S → Env → Res (Fl × Env)
  | .asg t e, env => (evD ev e env).bind fun p => match assignT t p.1 p.2 with
    | some env' => .ok (.next, env')
    | none => .stuck
  | .asgO i e, env => (ev e env).bind fun p => if i < p.2.length then .ok (.next, setO p.2 i p.1) else .stuck
  | .frz is, env => .ok (.next, freezeAt env is)
  | .par is own es, env => (evOs ev own es env).bind fun p => match parAsg is p.1 p.2 with
    | some env' => .ok (.next, env')
    | none => .stuck
  | .setIx i ix e, env => (evD ev e env).bind fun p => match (p.2[i]?).join with
    | some _ => (evD ev ix p.2).bind fun q => match (q.2[i]?).join, q.1 with
      | some (.lst xs), .int k => if 0 ≤ k ∧ k < xs.length ∧ allVal xs = true then .ok (.next, setO q.2 i (.lst (xs.set k.toNat (.val p.1)))) else .stuck
      | _, _ => .stuck
    | none => .stuck
  | .aug i o e, env => match (env[i]?).join with
    | some (.val (.int k)) => (evD ev e env).bind fun z => match z.1 with
      | .int j => match augF o k j with
        | some r => .ok (.next, setO z.2 i (.val (.int r)))
        | none => .stuck
      | _ => .stuck
    | _ => .stuck
  | .app i e, env => match (env[i]?).join with
    | some (.lst _) => (evD ev e env).bind fun p => match (p.2[i]?).join with
      | some (.lst xs) => if xs.length < most then .ok (.next, setO p.2 i (.lst (xs ++ [.val p.1]))) else .stuck
      | _ => .stuck
    | _ => .stuck
  | .expr e, env => (ev e env).bind fun p => .ok (.next, p.2)
  | .ifS c a b, env => (truthE ev c env).bind fun p => if p.1 then exs a p.2 else exs b p.2
  | .forS t it body, env => (items ev it env).bind fun p => loopF (exs body) t p.1 p.2
  | .whileS c body, env => loopW (truthE ev c) (exs body) 100000 env
  | .ret e, env => (evD ev e env).bind fun p => .ok (.ret (.val p.1), p.2)
  | .retO e, env => (ev e env).bind fun p => .ok (.ret p.1, p.2)
  | .brk, env => .ok (.brk, env)
  | .cont, env => .ok (.cont, env)
  | .pass, env => .ok (.next, env)
  | .raise c, _ => if c < T.nx then .err c else .stuck
  | .tryS body hs, env => if asgds body = [] then match exs body env with
    | .ok p => .ok p
    | .stuck => .stuck
    | .err c => handle T c env hs
    else .stuck
  | .bad, _ => .stuck
end

section
variable (T : Tab) (ev : E → Env → Res (O × Env)) (exs : List S → Env → Res (Fl × Env)) (env : Env)
theorem stepE_none  : stepE T ev exs (.none) env = (.ok (.val .none, env)) := rfl
theorem stepE_bl (b : Bool) : stepE T ev exs (.bl b) env = (.ok (.val (.bool b), env)) := rfl
theorem stepE_int (i : Int) : stepE T ev exs (.int i) env = (.ok (.val (.int i), env)) := rfl
theorem stepE_str (s : Str) : stepE T ev exs (.str s) env = (.ok (.val (.str s), env)) := rfl
theorem stepE_var (i : Nat) : stepE T ev exs (.var i) env = (match (env[i]?).join with
    | some (.val d) => .ok (.val d, env)
    | some (.exc c) => .ok (.exc c, env)
    | _ => .stuck) := rfl
theorem stepE_glb (i : Nat) : stepE T ev exs (.glb i) env = (match T.cs[i]? with
    | some d => .ok (.val d, env)
    | none => .stuck) := rfl
theorem stepE_tup (es : List E) : stepE T ev exs (.tup es) env = ((evDs ev es env).bind fun p => if p.1.length ≤ most then .ok (.val (.tuple p.1), p.2) else .stuck) := rfl
theorem stepE_lst (es : List E) : stepE T ev exs (.lst es) env = ((evDs ev es env).bind fun p => if p.1.length ≤ most then .ok (.lst (p.1.map .val), p.2) else .stuck) := rfl
theorem stepE_op1 (o : Op1) (a : E) : stepE T ev exs (.op1 o a) env = ((evD ev a env).bind fun p => match ev1 o p.1 with
    | some r => .ok (r, p.2)
    | none => .stuck) := rfl
theorem stepE_op2 (o : Op2) (a b : E) : stepE T ev exs (.op2 o a b) env = ((evD ev a env).bind fun p => (evD ev b p.2).bind fun q => match ev2 o p.1 q.1 with
    | some r => .ok (r, q.2)
    | none => .stuck) := rfl
theorem stepE_not (a : E) : stepE T ev exs (.not a) env = ((truthE ev a env).bind fun p => .ok (.val (.bool (!p.1)), p.2)) := rfl
theorem stepE_and (a b : E) : stepE T ev exs (.and a b) env = ((evD ev a env).bind fun p => match p.1 with
    | .bool true => ev b p.2
    | .bool false => .ok (.val (.bool false), p.2)
    | _ => .stuck) := rfl
theorem stepE_or (a b : E) : stepE T ev exs (.or a b) env = ((evD ev a env).bind fun p => match p.1 with
    | .bool true => .ok (.val (.bool true), p.2)
    | .bool false => ev b p.2
    | _ => .stuck) := rfl
theorem stepE_ite (c a b : E) : stepE T ev exs (.ite c a b) env = ((truthE ev c env).bind fun p => if p.1 then ev a p.2 else ev b p.2) := rfl
theorem stepE_chain (o1 o2 : Op2) (a b c : E) : stepE T ev exs (.chain o1 o2 a b c) env = ((evD ev a env).bind fun p => (evD ev b p.2).bind fun q => match ev2 o1 p.1 q.1 with
    | some (.val (.bool true)) => (evD ev c q.2).bind fun r => match ev2 o2 q.1 r.1 with
      | some o => .ok (o, r.2)
      | none => .stuck
    | some (.val (.bool false)) => .ok (.val (.bool false), q.2)
    | _ => .stuck) := rfl
theorem stepE_slice (a : E) (lo hi : Option E) : stepE T ev exs (.slice a lo hi) env = ((evD ev a env).bind fun p => (optI ev lo p.2).bind fun q => (optI ev hi q.2).bind fun r => match slice1 p.1 q.1 r.1 with
    | some o => .ok (o, r.2)
    | none => .stuck) := rfl
theorem stepE_rng3 (t : Bool) (a b c : E) : stepE T ev exs (.rng3 t a b c) env = ((evD ev a env).bind fun p => (evD ev b p.2).bind fun q => (evD ev c q.2).bind fun r => match p.1, q.1, r.1 with
    | .int i, .int j, .int k => if okRange i && okRange j && decide (0 < k) && decide (k ≤ most) && decide (j - i ≤ most) then .ok (if t then .val (.tuple (rangeS i j k)) else .lst ((rangeS i j k).map .val), r.2) else .stuck
    | _, _, _ => .stuck) := rfl
theorem stepE_callS (f : Nat) (e : E) : stepE T ev exs (.callS f e) env = ((evD ev e env).bind fun p => match seq? p.1 with
    | some ds => callA T exs f (ds.map fun d => (none, d)) p.2
    | none => .stuck) := rfl
theorem stepE_call (f : Nat) (args : List E) : stepE T ev exs (.call f args) env = ((evArgs ev args env).bind fun p => callA T exs f p.1 p.2) := rfl
theorem stepE_sel (fs : List Nat) (ix : E) (args : List E) : stepE T ev exs (.sel fs ix args) env = ((evD ev ix env).bind fun p => match p.1 with
    | .int i => if 0 ≤ i then match fs[i.toNat]? with
        | some f => (evArgs ev args p.2).bind fun q => callA T exs f q.1 q.2
        | none => .stuck
      else .stuck
    | _ => .stuck) := rfl
theorem stepE_pop (i : Nat) : stepE T ev exs (.pop i) env = (match (env[i]?).join with
    | some (.lst xs) => match xs.getLast? with
      | some (.val d) => .ok (.val d, setO env i (.lst xs.dropLast))
      | _ => .stuck
    | _ => .stuck) := rfl
theorem stepE_lenScr (i : Nat) : stepE T ev exs (.lenScr i) env = (match (env[i]?).join with
    | some (.scr is) => .ok (.val (.int is.length), env)
    | _ => .stuck) := rfl
theorem stepE_ixScr (i : Nat) (e : E) : stepE T ev exs (.ixScr i e) env = (match (env[i]?).join with
    | some (.scr is) => (evD ev e env).bind fun p => match p.1 with
      | .int j => match L2.atI is j with
        | some k => .ok (.val (.int k), p.2)
        | none => .stuck
      | _ => .stuck
    | _ => .stuck) := rfl
theorem stepE_move (i : Nat) : stepE T ev exs (.move i) env = (match (env[i]?).join with
    | some o => .ok (o, env.set i none)
    | none => .stuck) := rfl
theorem stepE_snap (e : E) : stepE T ev exs (.snap e) env = ((ev e (frozen env)).bind fun p => if loose p.1 then .ok (p.1, env) else .stuck) := rfl
theorem stepE_comp (elt : E) (t : Tgt) (it : I) (c : Option E) : stepE T ev exs (.comp elt t it c) env = ((items ev it env).bind fun p => if p.1.length ≤ most ∧ (tslots t).all (plainAt p.2) = true then
      (noErr (turns ev elt t c (tslots t) p.1 p.2)).bind fun q => .ok (.lst q.1, backE p.2 q.2 (tslots t)) else .stuck) := rfl
end

def seqS (f : S → Env → Res (Fl × Env)) : List S → Env → Res (Fl × Env)
  | [], env => .ok (.next, env)
  | s :: r, env => (f s env).bind fun p => match p.1 with
    | .next => seqS f r p.2
    | o => .ok (o, p.2)

mutual
def evN (T : Tab) : Nat → E → Env → Res (O × Env)
  | 0, _, _ => .stuck
  | n + 1, e, env => stepE T (evN T n) (exN T n) e env
def exN (T : Tab) : Nat → List S → Env → Res (Fl × Env)
  | 0, _, _ => .stuck
  | n + 1, ss, env => seqS (one T (evN T n) (exN T n)) ss env
end
end Ev

end
section
set_option autoImplicit false
set_option linter.all false
set_option maxRecDepth 100000
/-! How the evaluator's trees stand in the abstract heap. -/
namespace Ev
open PySem L2

def keyD : Key → D
  | .inl i => .int i
  | .inr s => .str s

mutual
inductive Rep (K : PySem.W.Frag) (F : Hp) : V → D → Prop
  | non : Rep K F .non .none
  | bl (b : Bool) : Rep K F (.bl b) (.bool b)
  | int (i : Int) : Rep K F (.int i) (.int i)
  | str (x : Str) : Rep K F (.str x) (.str x)
  | lst {a : Addr} {xs : List V} {ds : List D} : F a = some (.lst xs) → RepAll K F xs ds → Rep K F (.ref a) (.list ds)
  | tup {a : Addr} {xs : List V} {ds : List D} : SqT K F a xs → RepAll K F xs ds → Rep K F (.ref a) (.tuple ds)
  | dK {a : Addr} {kvs : List (Key × V)} {ds : List (D × D)} : F a = some (.dK kvs) → RepKV K F kvs ds → Rep K F (.ref a) (.dict ds)
inductive RepAll (K : PySem.W.Frag) (F : Hp) : List V → List D → Prop
  | nil : RepAll K F [] []
  | cons {v : V} {vs : List V} {d : D} {ds : List D} : Rep K F v d → RepAll K F vs ds → RepAll K F (v :: vs) (d :: ds)
inductive RepKV (K : PySem.W.Frag) (F : Hp) : List (Key × V) → List (D × D) → Prop
  | nil : RepKV K F [] []
  | cons {k : Key} {v : V} {r : List (Key × V)} {d : D} {s : List (D × D)} : Rep K F v d → RepKV K F r s → RepKV K F ((k, v) :: r) ((keyD k, d) :: s)
end

mutual
inductive RO (K : PySem.W.Frag) (F H : Hp) : V → O → List Addr → Prop
  | val {v : V} {d : D} : Rep K F v d → RO K F H v (.val d) []
  | lst {a : Addr} {xs : List V} {os : List O} {C : List Addr} : H a = some (.lst xs) → ROs K F H xs os C → RO K F H (.ref a) (.lst os) (a :: C)
  | scr {a : Addr} {is : List Int} : SqL K F a (is.map V.int) → RO K F H (.ref a) (.scr is) []
  | dct {a : Addr} {kvs : List (Key × V)} {os : List O} {C : List Addr} : H a = some (.dK kvs) → ROs K F H (kvs.map (·.2)) os C → RO K F H (.ref a) (.dct (kvs.map fun q => keyD q.1) os) (a :: C)
inductive ROs (K : PySem.W.Frag) (F H : Hp) : List V → List O → List Addr → Prop
  | nil : ROs K F H [] [] []
  | cons {v : V} {vs : List V} {o : O} {os : List O} {C C' : List Addr} : RO K F H v o C → ROs K F H vs os C' → ROs K F H (v :: vs) (o :: os) (C ++ C')
end

abbrev Ex (H H' : Hp) : Prop := ∀ a o, H a = some o → H' a = some o
theorem Ex.refl (H : Hp) : Ex H H := fun _ _ h => h
theorem Ex.trans {H H1 H2 : Hp} (a : Ex H H1) (b : Ex H1 H2) : Ex H H2 := fun x o h => b x o (a x o h)
theorem Ex.new {H : Hp} {p : Addr} {o : HO} (h : H p = none) : Ex H (upd H p o) := fun a u e => by
  rw [upd_ne (ne_of_none e h)]; exact e
theorem ex_rd {H H' : Hp} {a : Addr} {u : HO} (e : Ex H H') (h : Rd H a u) : Rd H' a u := by
  rcases h with h | ⟨o, h⟩
  · exact Or.inl (e a _ h)
  · exact Or.inr ⟨o, e a _ h⟩
section
variable {K : PySem.W.Frag} {F F' H H' : Hp} {a : Addr} {xs : List V}
theorem ex_l (e : Ex H H') (h : SqL K H a xs) : SqL K H' a xs := h.imp (ex_rd e) id
theorem ex_t (e : Ex H H') (h : SqT K H a xs) : SqT K H' a xs := h.imp (ex_rd e) id

mutual
theorem Rep.mono (e : Ex F F') : ∀ {v : V} {d : D}, Rep K F v d → Rep K F' v d
  | _, _, .non => .non
  | _, _, .bl b => .bl b
  | _, _, .int i => .int i
  | _, _, .str x => .str x
  | _, _, .lst h r => .lst (e _ _ h) (RepAll.mono e r)
  | _, _, .tup h r => .tup (ex_t e h) (RepAll.mono e r)
  | _, _, .dK h r => .dK (e _ _ h) (RepKV.mono e r)
theorem RepAll.mono (e : Ex F F') : ∀ {vs : List V} {ds : List D}, RepAll K F vs ds → RepAll K F' vs ds
  | _, _, .nil => .nil
  | _, _, .cons h r => .cons (Rep.mono e h) (RepAll.mono e r)
theorem RepKV.mono (e : Ex F F') : ∀ {vs : List (Key × V)} {ds : List (D × D)}, RepKV K F vs ds → RepKV K F' vs ds
  | _, _, .nil => .nil
  | _, _, .cons h r => .cons (Rep.mono e h) (RepKV.mono e r)
end
theorem RepAll.length : ∀ {vs : List V} {ds : List D}, RepAll K F vs ds → vs.length = ds.length
  | _, _, .nil => rfl
  | _, _, .cons _ r => by rw [List.length_cons, List.length_cons, RepAll.length r]
theorem RepAll.append : ∀ {vs ws : List V} {ds es : List D}, RepAll K F vs ds → RepAll K F ws es → RepAll K F (vs ++ ws) (ds ++ es)
  | _, _, _, _, .nil, h => h
  | _, _, _, _, .cons h r, q => .cons h (RepAll.append r q)
theorem RepAll.at : ∀ {vs : List V} {ds : List D} {i : Nat} {d : D}, RepAll K F vs ds → ds[i]? = some d → ∃ v, vs[i]? = some v ∧ Rep K F v d
  | _, _, _, _, .nil, e => by simp at e
  | _, _, 0, _, .cons h _, e => by simp at e; subst e; exact ⟨_, rfl, h⟩
  | _, _, i + 1, _, .cons _ r, e => by
    obtain ⟨v, h1, h2⟩ := RepAll.at (i := i) r (by simpa using e)
    exact ⟨v, by simpa using h1, h2⟩
theorem RepAll.atV : ∀ {vs : List V} {ds : List D} {i : Nat} {v : V}, RepAll K F vs ds → vs[i]? = some v → ∃ d, ds[i]? = some d ∧ Rep K F v d
  | _, _, _, _, .nil, e => by simp at e
  | _, _, 0, _, .cons h _, e => by simp at e; subst e; exact ⟨_, rfl, h⟩
  | _, _, i + 1, _, .cons _ r, e => by
    obtain ⟨v, h1, h2⟩ := RepAll.atV (i := i) r (by simpa using e)
    exact ⟨v, by simpa using h1, h2⟩
theorem RepAll.take : ∀ {vs : List V} {ds : List D} (n : Nat), RepAll K F vs ds → RepAll K F (vs.take n) (ds.take n)
  | _, _, 0, _ => .nil
  | _, _, _ + 1, .nil => .nil
  | _, _, n + 1, .cons h r => .cons h (RepAll.take n r)
theorem RepAll.drop : ∀ {vs : List V} {ds : List D} (n : Nat), RepAll K F vs ds → RepAll K F (vs.drop n) (ds.drop n)
  | _, _, 0, h => h
  | _, _, _ + 1, .nil => .nil
  | _, _, n + 1, .cons _ r => RepAll.drop n r
theorem RepAll.reverse : ∀ {vs : List V} {ds : List D}, RepAll K F vs ds → RepAll K F vs.reverse ds.reverse
  | _, _, .nil => .nil
  | _, _, .cons h r => by rw [List.reverse_cons, List.reverse_cons]; exact (RepAll.reverse r).append (.cons h .nil)

mutual
theorem RO.mono (e : Ex F F') : ∀ {v : V} {o : O} {C : List Addr}, (∀ a ∈ C, H' a = H a) → RO K F H v o C → RO K F' H' v o C
  | _, _, _, _, .val h => .val (h.mono e)
  | _, _, _, _, .scr h => .scr (ex_l e h)
  | _, _, _, k, .lst h r => .lst ((k _ List.mem_cons_self).trans h) (ROs.mono e (fun a ha => k a (List.mem_cons_of_mem _ ha)) r)
  | _, _, _, k, .dct h r => .dct ((k _ List.mem_cons_self).trans h) (ROs.mono e (fun a ha => k a (List.mem_cons_of_mem _ ha)) r)
theorem ROs.mono (e : Ex F F') : ∀ {vs : List V} {os : List O} {C : List Addr}, (∀ a ∈ C, H' a = H a) → ROs K F H vs os C → ROs K F' H' vs os C
  | _, _, _, _, .nil => .nil
  | _, _, _, k, .cons h r => .cons (RO.mono e (fun a ha => k a (List.mem_append_left _ ha)) h) (ROs.mono e (fun a ha => k a (List.mem_append_right _ ha)) r)
end
mutual
theorem RO.there : ∀ {v : V} {o : O} {C : List Addr}, RO K F H v o C → ∀ a ∈ C, (∃ xs, H a = some (.lst xs)) ∨ ∃ kvs, H a = some (.dK kvs)
  | _, _, _, .val _, a, ha => by cases ha
  | _, _, _, .scr _, a, ha => by cases ha
  | _, _, _, .lst h r, b, hb => by
    rcases List.mem_cons.mp hb with rfl | hb
    · exact .inl ⟨_, h⟩
    · exact ROs.there r b hb
  | _, _, _, .dct h r, b, hb => by
    rcases List.mem_cons.mp hb with rfl | hb
    · exact .inr ⟨_, h⟩
    · exact ROs.there r b hb
theorem ROs.there : ∀ {vs : List V} {os : List O} {C : List Addr}, ROs K F H vs os C → ∀ a ∈ C, (∃ xs, H a = some (.lst xs)) ∨ ∃ kvs, H a = some (.dK kvs)
  | _, _, _, .nil, a, ha => by cases ha
  | _, _, _, .cons h r, a, ha => by
    rcases List.mem_append.mp ha with ha | ha
    · exact RO.there h a ha
    · exact ROs.there r a ha
end

/-- F with what stands at C -/
def fz (F H : Hp) (C : List Addr) : Hp := fun a => if a ∈ C then H a else F a
theorem fz_ex {C : List Addr} (un : ∀ a ∈ C, F a = none) : Ex F (fz F H C) := fun a o e => by
  unfold fz
  rw [if_neg]; exact e
  intro ha; rw [un a ha] at e; cases e
theorem fz_le {C : List Addr} (ex : Ex F H) : Ex (fz F H C) H := fun a o e => by
  unfold fz at e
  split at e
  · exact e
  · exact ex a o e
theorem fz_at {C : List Addr} {b : Addr} (h : b ∈ C) : fz F H C b = H b := if_pos h

mutual
/-- what is owned is frozen -/
theorem RO.freeze {G : Hp} (e : Ex F G) : ∀ {v : V} {o : O} {C : List Addr}, (∀ a ∈ C, G a = H a) → RO K F H v o C → o.tree = true → Rep K G v o.toD
  | _, _, _, _, .val h, _ => by unfold O.toD; exact h.mono e
  | _, _, _, _, .scr h, t => by cases t
  | _, _, _, k, .lst (os := os) h r, t => by
    unfold O.tree at t
    unfold O.toD
    exact .lst ((k _ List.mem_cons_self).trans h) (ROs.freeze e (fun a ha => k a (List.mem_cons_of_mem _ ha)) r t)
  | _, _, _, k, .dct h r, t => by
    unfold O.tree at t
    unfold O.toD
    refine .dK ((k _ List.mem_cons_self).trans h) ?_
    have q := ROs.freeze e (fun a ha => k a (List.mem_cons_of_mem _ ha)) r t
    exact repKV_of q
theorem ROs.freeze {G : Hp} (e : Ex F G) : ∀ {vs : List V} {os : List O} {C : List Addr}, (∀ a ∈ C, G a = H a) → ROs K F H vs os C → O.trees os = true → RepAll K G vs (O.toDs os)
  | _, _, _, _, .nil, _ => by unfold O.toDs; exact .nil
  | _, _, _, k, .cons h r, t => by
    unfold O.trees at t
    rw [Bool.and_eq_true] at t
    unfold O.toDs
    exact .cons (RO.freeze e (fun a ha => k a (List.mem_append_left _ ha)) h t.1) (ROs.freeze e (fun a ha => k a (List.mem_append_right _ ha)) r t.2)
theorem repKV_of {G : Hp} : ∀ {kvs : List (Key × V)} {ds : List D}, RepAll K G (kvs.map (·.2)) ds → RepKV K G kvs ((kvs.map fun q => keyD q.1).zip ds)
  | [], [], _ => .nil
  | [], _ :: _, h => by cases h
  | _ :: _, [], h => by cases h
  | (k, v) :: r, d :: ds, h => by
    cases h with
    | cons h1 h2 => exact .cons h1 (repKV_of h2)
end

/-- the state and the slots: F is what nobody changes, Af what the slots own -/
structure SR (K : PySem.W.Frag) (F H : Hp) (σ : St) (env : Env) (Af : Nat → List Addr) : Prop where
  ex : Ex F H
  len : σ.length = env.length
  at_ : ∀ i o, env[i]? = some (some o) → ∃ v, σ[i]? = some (some v) ∧ RO K F H v o (Af i)
  nd : ∀ i, (Af i).Nodup
  dj : ∀ i j a, a ∈ Af i → a ∈ Af j → i = j
  un : ∀ i a, a ∈ Af i → F a = none
  th : ∀ i a, a ∈ Af i → H a ≠ none

def Own (Af : Nat → List Addr) (a : Addr) : Prop := ∃ i, a ∈ Af i

/-- from (F, H, Af) on to (F', H', Af'), with something new that owns C -/
structure Stp (F H : Hp) (Af : Nat → List Addr) (F' H' : Hp) (Af' : Nat → List Addr) (C : List Addr) : Prop where
  ex : Ex F F'
  frame : ∀ a o, H a = some o → ¬ Own Af a → H' a = some o
  dom : ∀ a, H a ≠ none → H' a ≠ none
  prF : ∀ a, F' a ≠ none → F a ≠ none ∨ H a = none ∨ Own Af a
  prA : ∀ a, Own Af' a → Own Af a ∨ H a = none
  prC : ∀ a ∈ C, Own Af a ∨ H a = none
theorem Stp.refl {F H : Hp} {Af : Nat → List Addr} : Stp F H Af F H Af [] :=
  ⟨Ex.refl _, fun _ _ h _ => h, fun _ h => h, fun _ h => .inl h, fun _ h => .inl h, fun _ h => nomatch h⟩
theorem Stp.trans {F H F1 H1 F2 H2 : Hp} {Af Af1 Af2 : Nat → List Addr} {C1 C : List Addr} (s : Stp F H Af F1 H1 Af1 C1) (t : Stp F1 H1 Af1 F2 H2 Af2 C) : Stp F H Af F2 H2 Af2 C := by
  have fr : ∀ a, H1 a = none → H a = none := fun a h => Classical.byContradiction fun q => s.dom a q h
  have ow : ∀ a, Own Af1 a → Own Af a ∨ H a = none := s.prA
  refine ⟨s.ex.trans t.ex, fun a o h n => ?_, fun a h => t.dom a (s.dom a h), fun a h => ?_, fun a h => ?_, fun a h => ?_⟩
  · have h1 := s.frame a o h n
    refine t.frame a o h1 fun q => ?_
    rcases ow a q with q | q
    · exact n q
    · rw [h] at q; cases q
  · rcases t.prF a h with q | q | q
    · exact s.prF a q
    · exact .inr (.inl (fr a q))
    · rcases ow a q with q | q
      · exact .inr (.inr q)
      · exact .inr (.inl q)
  · rcases t.prA a h with q | q
    · exact ow a q
    · exact .inr (fr a q)
  · rcases t.prC a h with q | q
    · exact ow a q
    · exact .inr (fr a q)
theorem Stp.drop {F H F' H' : Hp} {Af Af' : Nat → List Addr} {C : List Addr} (s : Stp F H Af F' H' Af' C) : Stp F H Af F' H' Af' [] :=
  ⟨s.ex, s.frame, s.dom, s.prF, s.prA, fun _ h => nomatch h⟩
end
end Ev

end
section
set_option autoImplicit false
set_option linter.all false
set_option maxRecDepth 100000
/-! Readings (TE, TT, TA) that the evaluator gives. -/
namespace Ev
open PySem L2

theorem _root_.L2.PE.mono {X : Cx} {e : Expr} {t t' : TE} (h : PE X e t) (m : ∀ σ H Q, t' σ H Q → t σ H Q) : PE X e t' := ⟨fun pins s σ H Q I q => h.run pins s σ H Q I (m σ H Q q)⟩
theorem _root_.L2.PT.mono {X : Cx} {e : Expr} {t t' : TT} (h : PT X e t) (m : ∀ σ H Q, t' σ H Q → t σ H Q) : PT X e t' := ⟨fun pins s σ H Q I q => h.run pins s σ H Q I (m σ H Q q)⟩
theorem _root_.L2.PW.mono {X : Cx} {e : Expr} {t t' : TT} (h : PW X e t) (m : ∀ σ H Q, t' σ H Q → t σ H Q) : PW X e t' := ⟨fun wh pins s σ H Q I q => h.run wh pins s σ H Q I (m σ H Q q)⟩
theorem _root_.L2.PA.mono {X : Cx} {es : List Expr} {t t' : TA} (h : PA X es t) (m : ∀ σ H Q, t' σ H Q → t σ H Q) : PA X es t' := ⟨fun pos pins s σ H Q I q => h.run pos pins s σ H Q I (m σ H Q q)⟩
theorem _root_.L2.PS.mono {X : Cx} {st : Stmt} {t t' : TS} (h : PS X st t) (m : ∀ D σ H, t' D σ H → t D σ H) : PS X st t' := ⟨fun pins s σ H D I q => h.run pins s σ H D I (m D σ H q)⟩
theorem _root_.L2.PSs.mono {X : Cx} {st : List Stmt} {t t' : TS} (h : PSs X st t) (m : ∀ D σ H, t' D σ H → t D σ H) : PSs X st t' := ⟨fun pins s σ H D I q => h.run pins s σ H D I (m D σ H q)⟩

section
variable {K : PySem.W.Frag} {F F' H H' : Hp} {σ : L2.St} {env env' : Env} {Af Af' : Nat → List Addr}
theorem RO.val_inv {v : V} {d : D} {C : List Addr} (h : RO K F H v (.val d) C) : Rep K F v d ∧ C = [] := by
  cases h with
  | val h => exact ⟨h, rfl⟩
theorem RO.scr_inv {v : V} {is : List Int} {C : List Addr} (h : RO K F H v (.scr is) C) : ∃ a, v = .ref a ∧ SqL K F a (is.map V.int) := by
  cases h with
  | scr h => exact ⟨_, rfl, h⟩
theorem join_some {i : Nat} {o : O} (e : (env[i]?).join = some o) : env[i]? = some (some o) := by
  cases q : env[i]? with
  | none => rw [q] at e; cases e
  | some u => rw [q] at e; cases u with
    | none => cases e
    | some u => cases e; rfl
theorem SR.rep (s : SR K F H σ env Af) {i : Nat} {d : D} (e : (env[i]?).join = some (.val d)) : ∃ v, σ[i]? = some (some v) ∧ Rep K F v d := by
  obtain ⟨v, h1, h2⟩ := s.at_ i _ (join_some e)
  exact ⟨v, h1, h2.val_inv.1⟩
theorem SR.own_th (s : SR K F H σ env Af) {a : Addr} (h : Own Af a) : H a ≠ none ∧ F a = none := by
  obtain ⟨i, h⟩ := h; exact ⟨s.th i a h, s.un i a h⟩
end

/-- how a thing of the evaluator stands for one of the machine: F, H, the one, the other, what is owned -/
abbrev Rp (α β : Type) := Hp → Hp → β → α → List Addr → Prop

section
variable (K : PySem.W.Frag) (cA : Nat → Addr) (W : WX)
def ErrW (σ : L2.St) (F H : Hp) (Af : Nat → List Addr) (c : Nat) : Prop := ∀ F' H' : Hp, Ex F F' → Ex F' H' → (∀ a o, H a = some o → ¬ Own Af a → H' a = some o) → (∀ a, H a ≠ none → H' a ≠ none) → W (.ref (cA c)) none σ H'
def PG {α β : Type} (rep : Rp α β) (σ : L2.St) (F H : Hp) (Af : Nat → List Addr) (R : Res (α × Env)) (Q : β → Hp → Prop) : Prop :=
  match R with
  | .ok (a, env') => ∀ (b : β) (F' H' : Hp) (Af' : Nat → List Addr) (C : List Addr), SR K F' H' σ env' Af' → Stp F H Af F' H' Af' C → rep F' H' b a C →
      C.Nodup → (∀ x ∈ C, F' x = none ∧ ¬ Own Af' x) → Q b H'
  | .err c => ErrW cA W σ F H Af c
  | .stuck => False
def TG {α β : Type} (rep : Rp α β) (r : Env → Res (α × Env)) : L2.St → Hp → (β → Hp → Prop) → Prop := fun σ H Q => ∃ F Af env, SR K F H σ env Af ∧ PG K cA W rep σ F H Af (r env) Q
end
def rD (K : PySem.W.Frag) : Rp D V := fun F _ v d C => C = [] ∧ Rep K F v d
def rO (K : PySem.W.Frag) : Rp O V := fun F H v o C => RO K F H v o C
def rB : Rp Bool Bool := fun _ _ x y C => C = [] ∧ x = y
def rL (K : PySem.W.Frag) : Rp (List D) (List V) := fun F _ vs ds C => C = [] ∧ RepAll K F vs ds

section
variable {K : PySem.W.Frag} {cA : Nat → Addr} {W : WX} {F F' H H' : Hp} {σ : L2.St} {env env' : Env} {Af Af' : Nat → List Addr} {α β α' β' : Type} {rep : Rp α β} {rep' : Rp α' β'}

theorem ErrW.step {F1 H1 : Hp} {Af1 : Nat → List Addr} {c : Nat} {C : List Addr} (t : Stp F H Af F1 H1 Af1 C) (h : ErrW cA W σ F H Af c) : ErrW cA W σ F1 H1 Af1 c := fun F' H' e1 e2 fr dm =>
  h F' H' (t.ex.trans e1) e2 (fun a o e n => by
    refine fr a o (t.frame a o e n) fun q => ?_
    rcases t.prA a q with q | q
    · exact n q
    · rw [e] at q; cases q) fun a ha => dm a (t.dom a ha)
theorem PG.step {R : Res (α × Env)} {Q : β → Hp → Prop} {F1 H1 : Hp} {Af1 : Nat → List Addr} {C : List Addr} (t : Stp F H Af F1 H1 Af1 C) (h : PG K cA W rep σ F H Af R Q) : PG K cA W rep σ F1 H1 Af1 R Q := by
  cases R with
  | stuck => exact h
  | err c => exact ErrW.step t h
  | ok p => exact fun b F2 H2 Af2 C2 s t2 r nd un => h b F2 H2 Af2 C2 s (t.trans t2) r nd un
/-- one behind the other -/
theorem PG.bind {R : Res (α × Env)} {k : α → Env → Res (α' × Env)} {Q : β' → Hp → Prop} {Q1 : β → Hp → Prop}
    (h : PG K cA W rep' σ F H Af (R.bind fun p => k p.1 p.2) Q)
    (hQ : ∀ (a : α) (env1 : Env) (b : β) (F1 H1 : Hp) (Af1 : Nat → List Addr) (C : List Addr), R = .ok (a, env1) → SR K F1 H1 σ env1 Af1 → Stp F H Af F1 H1 Af1 C → rep F1 H1 b a C → C.Nodup → (∀ x ∈ C, F1 x = none ∧ ¬ Own Af1 x) →
      PG K cA W rep' σ F1 H1 Af1 (k a env1) Q → Q1 b H1) :
    PG K cA W rep σ F H Af R Q1 := by
  cases R with
  | stuck => exact h
  | err c => exact h
  | ok p => exact fun b F1 H1 Af1 C s t r nd un => hQ p.1 p.2 b F1 H1 Af1 C rfl s t r nd un (PG.step t h)
theorem TG.bind {r : Env → Res (α × Env)} {k : α → Env → Res (α' × Env)} {Q : β' → Hp → Prop} {Q1 : β → Hp → Prop}
    (h : TG K cA W rep' (fun env => (r env).bind fun p => k p.1 p.2) σ H Q)
    (hQ : ∀ (a : α) (env1 : Env) (b : β) (F1 H1 : Hp) (Af1 : Nat → List Addr) (C : List Addr), SR K F1 H1 σ env1 Af1 → rep F1 H1 b a C → C.Nodup → (∀ x ∈ C, F1 x = none ∧ ¬ Own Af1 x) →
      PG K cA W rep' σ F1 H1 Af1 (k a env1) Q → Q1 b H1) : TG K cA W rep r σ H Q1 := by
  obtain ⟨F, Af, env, s, p⟩ := h
  exact ⟨F, Af, env, s, p.bind fun a env1 b F1 H1 Af1 C _ s1 _ r1 nd un q => hQ a env1 b F1 H1 Af1 C s1 r1 nd un q⟩
theorem PG.imp {R : Res (α × Env)} {Q Q' : β → Hp → Prop} (h : PG K cA W rep σ F H Af R Q) (m : ∀ b H', Q b H' → Q' b H') : PG K cA W rep σ F H Af R Q' := by
  cases R with
  | stuck => exact h
  | err c => exact h
  | ok p => exact fun b F' H' Af' C s t r nd un => m _ _ (h b F' H' Af' C s t r nd un)
theorem TG.imp {r : Env → Res (α × Env)} {Q Q' : β → Hp → Prop} (h : TG K cA W rep r σ H Q) (m : ∀ b H', Q b H' → Q' b H') : TG K cA W rep r σ H Q' := by
  obtain ⟨F, Af, env, s, p⟩ := h
  exact ⟨F, Af, env, s, p.imp m⟩
theorem PG.tg {r : Env → Res (α × Env)} {Q : β → Hp → Prop} (s : SR K F H σ env Af) (h : PG K cA W rep σ F H Af (r env) Q) : TG K cA W rep r σ H Q := ⟨F, Af, env, s, h⟩
/-- the end: a value as it stands -/
theorem PG.ok_ {a : α} {Q : β → Hp → Prop} (h : PG K cA W rep σ F H Af (.ok (a, env')) Q) {b : β} {F' H' : Hp} {Af' : Nat → List Addr} {C : List Addr} (s : SR K F' H' σ env' Af') (t : Stp F H Af F' H' Af' C) (r : rep F' H' b a C)
    (nd : C.Nodup) (un : ∀ x ∈ C, F' x = none ∧ ¬ Own Af' x) : Q b H' := h b F' H' Af' C s t r nd un
/-- .. with nothing new -/
theorem PG.now {a : α} {Q : β → Hp → Prop} (h : PG K cA W rep σ F H Af (.ok (a, env)) Q) (s : SR K F H σ env Af) {b : β} (r : rep F H b a []) : Q b H :=
  h b F H Af [] s Stp.refl r .nil fun _ z => nomatch z

/-- frozen -/
def fzD (p : O × Env) : Res (D × Env) := if p.1.tree then .ok (p.1.toD, p.2) else .stuck
theorem evD_eq (ev : E → Env → Res (O × Env)) (e : E) (env : Env) : evD ev e env = (ev e env).bind fzD := rfl
theorem SR.fz {C : List Addr} (s : SR K F H σ env Af) (un : ∀ x ∈ C, F x = none ∧ ¬ Own Af x) : SR K (fz F H C) H σ env Af :=
  ⟨fz_le s.ex, s.len, fun i o e => by
    obtain ⟨v, e1, e2⟩ := s.at_ i o e
    exact ⟨v, e1, e2.mono (fz_ex fun a ha => (un a ha).1) fun _ _ => rfl⟩, s.nd, s.dj, fun i a ha => by
    have hn : a ∉ C := fun hc => (un a hc).2 ⟨i, ha⟩
    unfold Ev.fz; rw [if_neg hn]; exact s.un i a ha, s.th⟩
theorem Stp.fz {C : List Addr} (t : Stp F H Af F' H' Af' C) (un : ∀ x ∈ C, F' x = none) : Stp F H Af (fz F' H' C) H' Af' [] :=
  ⟨t.ex.trans (fz_ex un), t.frame, t.dom, fun a ha => by
    unfold Ev.fz at ha
    split at ha
    · rename_i hc
      exact (t.prC a hc).elim (fun q => .inr (.inr q)) fun q => .inr (.inl q)
    · exact t.prF a ha, t.prA, fun _ z => nomatch z⟩
theorem PG.freeze {R : Res (O × Env)} {Q : VK} (h : PG K cA W (rD K) σ F H Af (R.bind fzD) Q) : PG K cA W (rO K) σ F H Af R Q := by
  cases R with
  | stuck => exact h
  | err c => exact h
  | ok p =>
    obtain ⟨o, env'⟩ := p
    intro v F' H' Af' C s t r nd un
    have r : RO K F' H' v o C := r
    have h1 : PG K cA W (rD K) σ F H Af (fzD (o, env')) Q := h
    unfold fzD at h1
    split at h1
    · rename_i ht
      exact h1 v (Ev.fz F' H' C) H' Af' [] (s.fz un) (t.fz fun x hx => (un x hx).1) ⟨rfl, r.freeze (fz_ex fun a ha => (un a ha).1) (fun a ha => fz_at ha) ht⟩ .nil fun _ z => nomatch z
    · exact h1.elim
theorem TG.freeze {r : Env → Res (O × Env)} {Q : VK} (h : TG K cA W (rD K) (fun env => (r env).bind fzD) σ H Q) : TG K cA W (rO K) r σ H Q := by
  obtain ⟨F, Af, env, s, p⟩ := h
  exact ⟨F, Af, env, s, p.freeze⟩
/-- a tree is a thing -/
theorem PG.ofD {R : Res (D × Env)} {Q : VK} (h : PG K cA W (rO K) σ F H Af (R.bind fun p => .ok (.val p.1, p.2)) Q) : PG K cA W (rD K) σ F H Af R Q := by
  cases R with
  | stuck => exact h
  | err c => exact h
  | ok p => exact fun v F' H' Af' C s t r nd un => h v F' H' Af' [] s t.drop (.val r.2) .nil fun _ z => nomatch z
end
end Ev

end
section
set_option autoImplicit false
set_option linter.all false
set_option maxRecDepth 100000
/-! Operations on values: what the evaluator says of them, and the machine. One argument. -/
namespace Ev
open PySem L2 PyProof.Rows

theorem CallR.mono {X : Cx} {f : Value} {r r' : List V → Hp → VK → Prop} (h : CallR X f r) (m : ∀ xs H Q, r' xs H Q → r xs H Q) : CallR X f r' := fun pins s σ H xs us Q I rv q => h pins s σ H xs us Q I rv (m xs H Q q)
theorem OpR.mono {X : Cx} {f : Value → Value → Sem Value} {r r' : R2} (h : OpR X f r) (m : ∀ x y H Q, r' x y H Q → r x y H Q) : OpR X f r' := fun pins s σ H x y v u Q I rx ry q => h pins s σ H x y v u Q I rx ry (m x y H Q q)
theorem UnR.mono {X : Cx} {f : Value → Sem Value} {r r' : V → Hp → VK → Prop} (h : UnR X f r) (m : ∀ x H Q, r' x H Q → r x H Q) : UnR X f r' := fun pins s σ H x v Q I rx q => h pins s σ H x v Q I rx (m x H Q q)

/-- the evaluator's answer to an operation, as a result -/
def resO (o : Option O) (env : Env) : Res (O × Env) := match o with
  | some r => .ok (r, env)
  | none => .stuck
section
variable (K : PySem.W.Frag) (cA : Nat → Addr) (W : WX)
def R1 (o : Op1) : V → Hp → VK → Prop := fun x H Q => ∃ (σ : L2.St) (F : Hp) (Af : Nat → List Addr) (env : Env) (d : D), SR K F H σ env Af ∧ Rep K F x d ∧ PG K cA W (rO K) σ F H Af (resO (ev1 o d) env) Q
def R1c (o : Op1) : List V → Hp → VK → Prop := fun xs H Q => ∃ x, xs = [x] ∧ R1 K cA W o x H Q
def R2e (o : Op2) : R2 := fun x y H Q => ∃ (σ : L2.St) (F : Hp) (Af : Nat → List Addr) (env : Env) (d e : D), SR K F H σ env Af ∧ Rep K F x d ∧ Rep K F y e ∧ PG K cA W (rO K) σ F H Af (resO (ev2 o d e) env) Q
def R2c (o : Op2) : List V → Hp → VK → Prop := fun xs H Q => ∃ x y, xs = [x, y] ∧ R2e K cA W o x y H Q
end

section
variable {K : PySem.W.Frag} {cA : Nat → Addr} {W : WX} {F F' H H' : Hp} {σ : L2.St} {env env' : Env} {Af Af' : Nat → List Addr}

theorem fresh_own (s : SR K F H σ env Af) {p : Addr} (hp : H p = none) : ¬ Own Af p ∧ F p = none := by
  refine ⟨fun ⟨i, h⟩ => s.th i p h hp, ?_⟩
  cases e : F p with
  | none => rfl
  | some o => rw [s.ex p o e] at hp; cases hp
theorem SR.newO (s : SR K F H σ env Af) {p : Addr} {o : HO} (hp : H p = none) : SR K F (upd H p o) σ env Af := by
  have ne : ∀ i a, a ∈ Af i → a ≠ p := fun i a h z => by subst z; exact s.th i a h hp
  refine ⟨s.ex.trans (Ex.new hp), s.len, fun i u e => ?_, s.nd, s.dj, s.un, fun i a h => ?_⟩
  · obtain ⟨v, e1, e2⟩ := s.at_ i u e
    exact ⟨v, e1, e2.mono (Ex.refl _) fun a ha => upd_ne (ne i a ha)⟩
  · rw [upd_ne (ne i a h)]; exact s.th i a h
theorem SR.newF (s : SR K F H σ env Af) {p : Addr} {o : HO} (hp : H p = none) : SR K (upd F p o) (upd H p o) σ env Af := by
  have ne : ∀ i a, a ∈ Af i → a ≠ p := fun i a h z => by subst z; exact s.th i a h hp
  have hf := (fresh_own s hp).2
  refine ⟨fun a u e => ?_, s.len, fun i u e => ?_, s.nd, s.dj, fun i a h => ?_, fun i a h => ?_⟩
  · by_cases h : a = p
    · subst h; rw [upd_same] at e; rw [upd_same]; exact e
    · rw [upd_ne h] at e; rw [upd_ne h]; exact s.ex a u e
  · obtain ⟨v, e1, e2⟩ := s.at_ i u e
    exact ⟨v, e1, e2.mono (Ex.new hf) fun a ha => upd_ne (ne i a ha)⟩
  · rw [upd_ne (ne i a h)]; exact s.un i a h
  · rw [upd_ne (ne i a h)]; exact s.th i a h
theorem Stp.newO {p : Addr} {o : HO} (hp : H p = none) : Stp F H Af F (upd H p o) Af [p] :=
  ⟨Ex.refl _, fun a u e _ => by rw [upd_ne (ne_of_none e hp)]; exact e, fun a h => by
    by_cases q : a = p
    · subst q; exact absurd hp h
    · rw [upd_ne q]; exact h, fun _ h => .inl h, fun _ h => .inl h, fun x hx => by
    rw [List.mem_singleton] at hx; subst hx; exact .inr hp⟩
theorem Stp.newF {p : Addr} {o : HO} (hp : H p = none) (hf : F p = none) : Stp F H Af (upd F p o) (upd H p o) Af [] :=
  ⟨Ex.new hf, fun a u e _ => by rw [upd_ne (ne_of_none e hp)]; exact e, fun a h => by
    by_cases q : a = p
    · subst q; exact absurd hp h
    · rw [upd_ne q]; exact h, fun a h => by
    by_cases q : a = p
    · subst q; exact .inr (.inl hp)
    · rw [upd_ne q] at h; exact .inl h, fun _ h => .inl h, fun _ z => nomatch z⟩
theorem ROs.vals {vs : List V} {ds : List D} (h : RepAll K F vs ds) : ROs K F H vs (ds.map .val) [] := by
  induction ds generalizing vs with
  | nil => cases h; exact .nil
  | cons d ds ih =>
    cases h with
    | cons h1 h2 => exact .cons (C := []) (.val h1) (ih h2)
theorem PG.newL {vs : List V} {ds : List D} {Q : VK} (h : PG K cA W (rO K) σ F H Af (.ok (.lst (ds.map .val), env)) Q) (s : SR K F H σ env Af) (r : RepAll K F vs ds) {p : Addr} (hp : H p = none) : Q (.ref p) (upd H p (.lst vs)) := by
  have hf := fresh_own s hp
  refine h (.ref p) F (upd H p (.lst vs)) Af [p] (s.newO hp) (Stp.newO hp) (RO.lst upd_same (ROs.vals r)) (by simp) fun x hx => ?_
  rw [List.mem_singleton] at hx; subst hx; exact ⟨hf.2, hf.1⟩
theorem PG.newT {vs : List V} {ds : List D} {Q : VK} (h : PG K cA W (rO K) σ F H Af (.ok (.val (.tuple ds), env)) Q) (s : SR K F H σ env Af) (r : RepAll K F vs ds) {p : Addr} (hp : H p = none) : Q (.ref p) (upd H p (.tup vs)) := by
  have hf := fresh_own s hp
  exact h (.ref p) (upd F p (.tup vs)) (upd H p (.tup vs)) Af [] (s.newF hp) (Stp.newF hp hf.2) (RO.val (.tup (.inl (.inl upd_same)) (r.mono (Ex.new hf.2)))) .nil fun _ z => nomatch z
theorem PG.nowV {d : D} {Q : VK} (h : PG K cA W (rO K) σ F H Af (.ok (.val d, env)) Q) (s : SR K F H σ env Af) {v : V} (r : Rep K F v d) : Q v H := PG.now h s (RO.val r)

theorem Rep.int_inv {v : V} {i : Int} (h : Rep K F v (.int i)) : v = .int i := by cases h; rfl
theorem Rep.bl_inv {v : V} {b : Bool} (h : Rep K F v (.bool b)) : v = .bl b := by cases h; rfl
theorem Rep.str_inv {v : V} {x : Str} (h : Rep K F v (.str x)) : v = .str x := by cases h; rfl
theorem Rep.non_inv {v : V} (h : Rep K F v .none) : v = .non := by cases h; rfl
theorem Rep.lst_inv {v : V} {ds : List D} (h : Rep K F v (.list ds)) : ∃ a xs, v = .ref a ∧ F a = some (.lst xs) ∧ RepAll K F xs ds := by cases h; exact ⟨_, _, rfl, ‹_›, ‹_›⟩
theorem Rep.tup_inv {v : V} {ds : List D} (h : Rep K F v (.tuple ds)) : ∃ a xs, v = .ref a ∧ SqT K F a xs ∧ RepAll K F xs ds := by cases h; exact ⟨_, _, rfl, ‹_›, ‹_›⟩
theorem Rep.dict_inv {v : V} {ds : List (D × D)} (h : Rep K F v (.dict ds)) : ∃ a kvs, v = .ref a ∧ F a = some (.dK kvs) ∧ RepKV K F kvs ds := by cases h; exact ⟨_, _, rfl, ‹_›, ‹_›⟩
theorem RepAll.ints : ∀ {vs : List V} {ds : List D} {is : List Int}, RepAll K F vs ds → ints? ds = some is → vs = is.map V.int
  | _, [], is, .nil, e => by cases e; rfl
  | _, .int i :: ds, is, .cons h r, e => by
    cases h.int_inv
    unfold ints? at e
    cases q : ints? ds with
    | none => rw [q] at e; cases e
    | some js => rw [q] at e; cases e; rw [RepAll.ints r q]; rfl
  | _, .none :: _, _, _, e => nomatch e
  | _, .bool _ :: _, _, _, e => nomatch e
  | _, .str _ :: _, _, _, e => nomatch e
  | _, .list _ :: _, _, _, e => nomatch e
  | _, .tuple _ :: _, _, _, e => nomatch e
  | _, .dict _ :: _, _, _, e => nomatch e
theorem RepAll.bools : ∀ {vs : List V} {ds : List D} {is : List Bool}, RepAll K F vs ds → bools? ds = some is → vs = is.map V.bl
  | _, [], is, .nil, e => by cases e; rfl
  | _, .bool i :: ds, is, .cons h r, e => by
    cases h.bl_inv
    unfold bools? at e
    cases q : bools? ds with
    | none => rw [q] at e; cases e
    | some js => rw [q] at e; cases e; rw [RepAll.bools r q]; rfl
  | _, .none :: _, _, _, e => nomatch e
  | _, .int _ :: _, _, _, e => nomatch e
  | _, .str _ :: _, _, _, e => nomatch e
  | _, .list _ :: _, _, _, e => nomatch e
  | _, .tuple _ :: _, _, _, e => nomatch e
  | _, .dict _ :: _, _, _, e => nomatch e
theorem Rep.ofInts {is : List Int} : RepAll K F (is.map V.int) (is.map PyData.int) := by
  induction is with
  | nil => exact .nil
  | cons i r ih => exact .cons (.int i) ih
/-! as the library's own data -/
mutual
theorem Rep.dp : ∀ {v : V} {d : D}, Rep K F v d → d.plain = true → Dp K F v d
  | _, _, .non, _ => .non
  | _, _, .bl b, _ => .bl b
  | _, _, .int i, _ => .int i
  | _, _, .str x, _ => .str x
  | _, _, .lst h r, e => .lst (.inl (.inl h)) (RepAll.dp r (by simpa [PyData.plain] using e))
  | _, _, .tup h r, e => .tup h (RepAll.dp r (by simpa [PyData.plain] using e))
  | _, _, .dK _ _, e => by simp [PyData.plain] at e
theorem RepAll.dp : ∀ {vs : List V} {ds : List D}, RepAll K F vs ds → PyData.plainAll ds = true → DpAll K F vs ds
  | _, _, .nil, _ => .nil
  | _, _, .cons h r, e => by
    rw [PyData.plainAll, Bool.and_eq_true] at e
    exact .cons (Rep.dp h e.1) (RepAll.dp r e.2)
end
end

section
variable {X : Cx} {cA : Nat → Addr} {W : WX}

theorem most_line : most ≤ sizeLine := by decide
theorem c_len : CallR X (.builtin "len") (R1c X.K cA W .len) := by
  intro pins s σ H xs us Q I rv ⟨x, ex, σ', F, Af, env, d, S, r, p⟩
  subst ex
  cases r with
  | non => exact p.elim
  | bl => exact p.elim
  | int => exact p.elim
  | str z =>
    by_cases hz : z.length ≤ most
    · simp only [ev1, if_pos hz] at p
      exact call_len pins s σ H _ us Q I rv ⟨_, _, rfl, ⟨Nat.le_trans hz most_line, rfl⟩, p.nowV S (.int _)⟩
    · simp only [ev1, if_neg hz] at p
      exact p.elim
  | lst h r => exact call_len pins s σ H _ us Q I rv ⟨_, _, rfl, .inl ⟨_, SqL.of (S.ex _ _ h), rfl⟩, by rw [r.length]; exact p.nowV S (.int _)⟩
  | tup h r => exact call_len pins s σ H _ us Q I rv ⟨_, _, rfl, .inr ⟨_, ex_t S.ex h, rfl⟩, by rw [r.length]; exact p.nowV S (.int _)⟩
  | dK h r =>
    have e : ∀ {kvs : List (Key × V)} {ds : List (D × D)}, RepKV X.K F kvs ds → kvs.length = ds.length := by
      intro kvs ds r
      induction ds generalizing kvs with
      | nil => cases r; rfl
      | cons d ds ih => cases r with | cons _ r => rw [List.length_cons, List.length_cons, ih r]
    exact call_lenD pins s σ H _ us Q I rv ⟨_, _, rfl, S.ex _ _ h, by rw [e r]; exact p.nowV S (.int _)⟩
theorem PG.res_none {K : PySem.W.Frag} {F H : Hp} {σ : L2.St} {env : Env} {Af : Nat → List Addr} {Q : VK} {o : Option O} (p : PG K cA W (rO K) σ F H Af (resO o env) Q) : ∃ r, o = some r ∧ PG K cA W (rO K) σ F H Af (.ok (r, env)) Q := by
  cases o with
  | none => exact p.elim
  | some r => exact ⟨r, rfl, p⟩
theorem c_all (hc : X.calm = true) : CallR X (.builtin "all") (R1c X.K cA W .all) := by
  intro pins s σ H xs us Q I rv ⟨x, ex, σ', F, Af, env, d, S, r, p⟩
  subst ex
  obtain ⟨o, eo, p⟩ := p.res_none
  cases d with
  | list ds =>
    simp only [ev1, Option.map_eq_some_iff] at eo
    obtain ⟨bs, e, rfl⟩ := eo
    obtain ⟨a, xs, rfl, h, r⟩ := r.lst_inv
    cases r.bools e
    exact cr_all hc pins s σ H _ us Q I rv ⟨_, bs, rfl, SqL.of (S.ex _ _ h), p.nowV S (.bl _)⟩
  | _ => cases eo
theorem c_any (hc : X.calm = true) : CallR X (.builtin "any") (R1c X.K cA W .any) := by
  intro pins s σ H xs us Q I rv ⟨x, ex, σ', F, Af, env, d, S, r, p⟩
  subst ex
  obtain ⟨o, eo, p⟩ := p.res_none
  cases d with
  | list ds =>
    simp only [ev1, Option.map_eq_some_iff] at eo
    obtain ⟨bs, e, rfl⟩ := eo
    obtain ⟨a, xs, rfl, h, r⟩ := r.lst_inv
    cases r.bools e
    exact cr_any hc pins s σ H _ us Q I rv ⟨_, bs, rfl, SqL.of (S.ex _ _ h), p.nowV S (.bl _)⟩
  | _ => cases eo
theorem sum_tup {prog : Program} {w : World} {A : Around} {E : Value → Shared → Prop} {s : Shared} {t : Addr} {its : List Value} {ns : List Int} {Q : Value → Shared → Prop} (hh : A.handled = none) (ht : IsTup s.heap t its.toArray) (hi : IntsAre its ns)
    (h : ∀ h' tk t', (∀ b o, s.heap.get? b = some o → h'.get? b = some o) → Q (.int ns.sum t') { s with heap := h', toks := tk }) : wpAny (model prog w) A (call (.builtin "sum") [.ref t]) Q E s := by
  obtain ⟨xs, e⟩ := hi.allInts.items
  have hn : numsOf (intItems xs).toList = ns := by rw [← e]; exact hi.numsOf
  rw [nums_intItems] at hn
  rw [e] at ht
  refine PySem.W.ktm_sumG hh ht fun h' tk t' hk => ?_
  have := h h' tk t' hk
  rw [preSum_eq, List.take_of_length_le (by simp), hn]; exact this
theorem c_sum (hc : X.calm = true) : CallR X (.builtin "sum") (R1c X.K cA W .sum) := by
  intro pins s σ H xs us Q I rv ⟨x, ex, σ', F, Af, env, d, S, r, p⟩
  subst ex
  obtain ⟨o, eo, p⟩ := p.res_none
  cases d with
  | list ds =>
    simp only [ev1, seq?, Option.map_eq_some_iff] at eo
    obtain ⟨bs, e, rfl⟩ := eo
    obtain ⟨a, xs, rfl, h, r⟩ := r.lst_inv
    cases r.ints e
    exact cr_sum hc pins s σ H _ us Q I rv ⟨_, bs, rfl, SqL.of (S.ex _ _ h), p.nowV S (.int _)⟩
  | tuple ds =>
    simp only [ev1, seq?, Option.map_eq_some_iff] at eo
    obtain ⟨bs, e, rfl⟩ := eo
    obtain ⟨a, xs, rfl, h, r⟩ := r.tup_inv
    cases r.ints e
    obtain ⟨its, rv', hl, _⟩ := I.tuple (ex_t S.ex h)
    rw [Vals.ref1 rv]
    exact sum_tup (I.ok.hd hc) hl rv'.ints fun h' tk t' hk => ⟨.int _, H, I.kept hk, ⟨_, rfl⟩, p.nowV S (.int _)⟩
  | _ => cases eo
theorem c_abs : CallR X (.builtin "abs") (R1c X.K cA W .abs) := by
  intro pins s σ H xs us Q I rv ⟨x, ex, σ', F, Af, env, d, S, r, p⟩
  subst ex
  obtain ⟨o, eo, p⟩ := p.res_none
  cases d with
  | int i =>
    cases eo
    cases r.int_inv
    exact call_abs pins s σ H _ us Q I rv ⟨i, rfl, p.nowV S (.int _)⟩
  | _ => cases eo
theorem c_int : CallR X (.type "int") (R1c X.K cA W .int) := by
  intro pins s σ H xs us Q I rv ⟨x, ex, σ', F, Af, env, d, S, r, p⟩
  subst ex
  obtain ⟨o, eo, p⟩ := p.res_none
  cases d with
  | int i =>
    cases eo
    cases r.int_inv
    exact call_int1 pins s σ H _ us Q I rv (.inl ⟨i, rfl, p.nowV S (.int _)⟩)
  | bool b =>
    cases eo
    cases r.bl_inv
    exact call_int1 pins s σ H _ us Q I rv (.inr ⟨b, rfl, p.nowV S (.int _)⟩)
  | _ => cases eo
theorem c_list : CallR X (.type "list") (R1c X.K cA W .list) := by
  intro pins s σ H xs us Q I rv ⟨x, ex, σ', F, Af, env, d, S, r, p⟩
  subst ex
  obtain ⟨o, eo, p⟩ := p.res_none
  cases d with
  | list ds =>
    cases eo
    obtain ⟨a, xs, rfl, h, r⟩ := r.lst_inv
    exact call_list_of pins s σ H _ us Q I rv ⟨a, xs, rfl, .inl (SqL.of (S.ex _ _ h)), fun l hl => p.newL S r hl⟩
  | tuple ds =>
    cases eo
    obtain ⟨a, xs, rfl, h, r⟩ := r.tup_inv
    exact call_list_of pins s σ H _ us Q I rv ⟨a, xs, rfl, .inr (ex_t S.ex h), fun l hl => p.newL S r hl⟩
  | _ => cases eo
theorem c_tuple : CallR X (.type "tuple") (R1c X.K cA W .tuple) := by
  intro pins s σ H xs us Q I rv ⟨x, ex, σ', F, Af, env, d, S, r, p⟩
  subst ex
  obtain ⟨o, eo, p⟩ := p.res_none
  cases d with
  | list ds =>
    cases eo
    obtain ⟨a, xs, rfl, h, r⟩ := r.lst_inv
    exact call_tuple_of pins s σ H _ us Q I rv ⟨a, xs, rfl, .inl ⟨SqL.of (S.ex _ _ h), fun l hl => p.newT S r hl⟩⟩
  | tuple ds =>
    cases eo
    have r0 := r
    obtain ⟨a, xs, rfl, h, r⟩ := r.tup_inv
    exact call_tuple_of pins s σ H _ us Q I rv ⟨a, xs, rfl, .inr ⟨ex_t S.ex h, p.nowV S r0⟩⟩
  | _ => cases eo

/-! repr of a list, of a tuple -/
theorem c_repr (hg : X.A.guards = some []) (hu : X.A.units + 64 < cLine) : CallR X (.builtin "repr") (R1c X.K cA W .repr) := by
  intro pins s σ H xs us Q I rv ⟨x, ex, σ', F, Af, env, d, S, r, p⟩
  subst ex
  obtain ⟨o, eo, p⟩ := p.res_none
  have eo : (if reprOk d then some (O.val (.str d.shown)) else none) = some o := eo
  by_cases hk : reprOk d = true
  · rw [if_pos hk] at eo
    cases eo
    unfold reprOk at hk
    simp only [Bool.and_eq_true, decide_eq_true_eq, Bool.not_eq_true'] at hk
    obtain ⟨h0, h1, h2, h3, h4, h5⟩ := hk
    obtain ⟨u, rfl, rx⟩ := vals1 rv
    obtain ⟨as, rd⟩ := ((r.mono S.ex).dp h1).reads I d x u rx
    have hz : d.shown.length ≤ sizeLine := Nat.le_trans h5 (by decide)
    have fin : ∀ a, u = .ref a → wpAny (model X.prog X.w) X.A (call (.builtin "repr") [u]) (EP X pins σ Q) X.xe s := fun a ha => by
      subst ha
      exact repr_of_reads' (h₀ := s.heap) rd h2 (PyData.noDict_hsm h3) hg (by omega) (fun _ _ e => e) (fun h' t tk kp => ⟨.str d.shown, H, I.kept kp, ⟨t, rfl⟩, p.nowV S (.str _)⟩) hz
    cases d with
    | list ds => cases rd with | list q1 q2 q3 q4 => exact fin _ rfl
    | tuple ds => cases rd with | tuple q1 q2 q3 q4 => exact fin _ rfl
    | _ => cases h0
  · rw [if_neg hk] at eo; cases eo
/-! isinstance of a built-in class -/
def tyName : Ty → String
  | .int => "int" | .bool => "bool" | .str => "str" | .tuple => "tuple" | .list => "list" | .dict => "dict"
theorem Rep.ty {K : PySem.W.Frag} {F : Hp} {x : V} {d : D} (r : Rep K F x d) : ∃ n, TyX K F x (.type n) ∧ ∀ t, PySem.W.kitOne K (.type n) (.type (tyName t)) = some (isTy t d) := by
  cases r with
  | non => exact ⟨_, .base .non, fun t => by cases t <;> rfl⟩
  | bl b => exact ⟨_, .base (.bl b), fun t => by cases t <;> rfl⟩
  | int i => exact ⟨_, .base (.int i), fun t => by cases t <;> rfl⟩
  | str z => exact ⟨_, .base (.str z), fun t => by cases t <;> rfl⟩
  | lst h r => exact ⟨_, .base (.lst h), fun t => by cases t <;> rfl⟩
  | tup h r =>
    rcases h with (h | ⟨o, h⟩) | ⟨o, its, n, h1, h2, _⟩
    · exact ⟨_, .base (.tup h), fun t => by cases t <;> rfl⟩
    · exact ⟨_, .fTuple h, fun t => by cases t <;> rfl⟩
    · exact ⟨_, .kTuple h1 h2, fun t => by cases t <;> rfl⟩
  | dK h r => exact ⟨_, .base (.dK h), fun t => by cases t <;> rfl⟩
theorem c_isT (t : Ty) : CallR X (.builtin "isinstance") (fun xs H Q => ∃ x, xs = [x, .ty (tyName t)] ∧ R1 X.K cA W (.isT t) x H Q) := by
  intro pins s σ H xs us Q I rv ⟨x, ex, σ', F, Af, env, d, S, r, p⟩
  subst ex
  obtain ⟨n, ht, hk⟩ := (r.mono S.ex).ty
  exact call_isi pins s σ H _ us Q I rv ⟨x, _, _, _, _, rfl, .ty _, ht, hk t, p.nowV S (.bl _)⟩
end
end Ev

end
section
set_option autoImplicit false
set_option linter.all false
set_option maxRecDepth 100000
/-! Sorted, least, greatest. -/
namespace Ev
open PySem L2 PyProof.Rows

section
variable {le : D → D → Bool}
theorem ins_perm (x : D) : ∀ l : List D, (ins le x l).Perm (x :: l)
  | [] => .refl _
  | y :: r => by
    unfold ins; split
    · exact .refl _
    · exact ((ins_perm x r).cons y).trans (.swap x y r)
theorem isort_perm : ∀ l : List D, (isort le l).Perm l
  | [] => .refl _
  | x :: r => (ins_perm x _).trans ((isort_perm r).cons x)
theorem ins_pw (h : W.TotalLe le) (x : D) : ∀ l : List D, l.Pairwise (fun a b => le a b = true) → (ins le x l).Pairwise (fun a b => le a b = true)
  | [], _ => by simp [ins]
  | y :: r, p => by
    rw [List.pairwise_cons] at p
    unfold ins; split
    · rename_i hxy
      refine List.pairwise_cons.mpr ⟨fun z hz => ?_, List.pairwise_cons.mpr p⟩
      rcases List.mem_cons.mp hz with rfl | hz
      · exact hxy
      · exact h.trans _ _ _ hxy (p.1 z hz)
    · rename_i hxy
      refine List.pairwise_cons.mpr ⟨fun z hz => ?_, ins_pw h x r p.2⟩
      rcases List.mem_cons.mp ((ins_perm x r).mem_iff.mp hz) with rfl | hz
      · exact (h.total _ _).resolve_left hxy
      · exact p.1 z hz
theorem isort_pw (h : W.TotalLe le) : ∀ l : List D, (isort le l).Pairwise (fun a b => le a b = true)
  | [] => .nil
  | x :: r => ins_pw h x _ (isort_pw h r)
theorem ins_filter (h : W.TotalLe le) (c x : D) : ∀ l : List D, (ins le x l).filter (W.sameRank le c) = (x :: l).filter (W.sameRank le c)
  | [] => rfl
  | y :: r => by
    unfold ins; split
    · rfl
    · rename_i hxy
      rw [List.filter_cons, ins_filter h c x r, List.filter_cons, List.filter_cons, List.filter_cons]
      by_cases h1 : W.sameRank le c x = true
      · by_cases h2 : W.sameRank le c y = true
        · refine absurd ?_ hxy
          unfold W.sameRank at h1 h2
          rw [Bool.and_eq_true] at h1 h2
          exact h.trans _ _ _ h1.2 h2.1
        · simp [h1, h2]
      · simp [h1]
theorem isort_filter (h : W.TotalLe le) (c : D) : ∀ l : List D, (isort le l).filter (W.sameRank le c) = l.filter (W.sameRank le c)
  | [] => rfl
  | x :: r => by
    show (ins le x (isort le r)).filter _ = _
    rw [ins_filter h, List.filter_cons, List.filter_cons, isort_filter h c r]
theorem isort_eq (h : W.TotalLe le) (l : List D) : isort le l = l.mergeSort le := W.sort_unique h (isort_pw h l) fun c => isort_filter h c l
end
theorem leD_total : W.TotalLe leD := by
  have e : leD = W.dataLe false (fun d : D => d) := by rw [W.dataLe_eq]; rfl
  rw [e]; exact W.sortLe_total _ _ _
theorem leD_le : W.dataLe false (fun d : D => d) = leD := by rw [W.dataLe_eq]; rfl

theorem alikeB_all : ∀ {ds : List D}, alikeB ds = true → W.AlikeAll ds ∧ PyData.plainAll ds = true ∧ ∀ d ∈ ds, d.depth ≤ 20
  | [], _ => ⟨⟨fun _ h _ _ => (nomatch h), fun _ h => (nomatch h)⟩, rfl, fun _ h => nomatch h⟩
  | x :: r, h => by
    unfold alikeB at h
    simp only [Bool.and_eq_true, List.all_eq_true, decide_eq_true_eq] at h
    obtain ⟨h1, h2, h3, h6, h4, h5⟩ := h
    have h1 : ∀ y ∈ r, W.alike x y = true ∧ W.alike y x = true := h1
    obtain ⟨⟨a, a2⟩, b, c⟩ := alikeB_all h5
    refine ⟨⟨fun d hd d' hd' => ?_, fun d hd => ?_⟩, by rw [PyData.plainAll, h3, b]; rfl, fun d hd => ?_⟩
    · rcases List.mem_cons.mp hd with e | hd <;> rcases List.mem_cons.mp hd' with e' | hd'
      · rw [e, e']; exact h2
      · rw [e]; exact (h1 _ hd').1
      · rw [e']; exact (h1 _ hd).2
      · exact a d hd d' hd'
    · rcases List.mem_cons.mp hd with e | hd
      · rw [e]; intro z; rw [z] at h6; cases h6
      · exact a2 d hd
    · rcases List.mem_cons.mp hd with rfl | hd
      · exact h4
      · exact c d hd
theorem sortable_of : ∀ {ds : List D}, sortable ds = true → W.Sortable ds := by
  intro ds h
  cases ds with
  | nil => exact .inl fun _ h => nomatch h
  | cons x r =>
    cases x with
    | tuple xs =>
      cases xs with
      | nil => cases h
      | cons y ys =>
        refine .inl fun d hd => ?_
        rcases List.mem_cons.mp hd with rfl | hd
        · exact ⟨_, _, rfl⟩
        · have := List.all_eq_true.mp (show r.all _ = true from h) d hd
          cases d with
          | tuple zs => cases zs with
            | nil => cases this
            | cons => exact ⟨_, _, rfl⟩
          | _ => cases this
    | none => cases h
    | _ =>
      refine .inr fun d hd => ?_
      rcases List.mem_cons.mp hd with rfl | hd
      · exact ⟨by simp, by simp⟩
      · have := List.all_eq_true.mp (show r.all _ = true from h) d hd
        cases d <;> first | (cases this; done) | exact ⟨by simp, by simp⟩
theorem each_of {K : PySem.W.Frag} {F : Hp} : ∀ {vs : List V} {ds : List D} {us : List Value}, Vals vs us → RepAll K F vs ds → W.EachIs (fun u (b : V × D) => RelV b.1 u ∧ Rep K F b.1 b.2) us (vs.zip ds)
  | _, _, _, .nil, .nil => .nil
  | _, _, _, .cons r t, .cons h q => .cons ⟨r, h⟩ (each_of t q)
theorem each_out {K : PySem.W.Frag} {F : Hp} : ∀ {us : List Value} {bs : List (V × D)}, W.EachIs (fun u (b : V × D) => RelV b.1 u ∧ Rep K F b.1 b.2) us bs → Vals (bs.map (·.1)) us ∧ RepAll K F (bs.map (·.1)) (bs.map (·.2))
  | _, _, .nil => ⟨.nil, .nil⟩
  | _, _, .cons h t => ⟨.cons h.1 (each_out t).1, .cons h.2 (each_out t).2⟩
theorem zip_snd {K : PySem.W.Frag} {F : Hp} : ∀ {vs : List V} {ds : List D}, RepAll K F vs ds → (vs.zip ds).map (·.2) = ds
  | _, _, .nil => rfl
  | _, _, .cons _ q => by rw [List.zip_cons_cons, List.map_cons, zip_snd q]
theorem rep_reads {X : Cx} {pins : List (Addr × Obj)} {σ : L2.St} {H : Hp} {s : Shared} (I : Inv X pins σ H s) {v : V} {d : D} {u : Value} (r : Rep X.K H v d) (hp : d.plain = true) (rv : RelV v u) : ∃ as, Reads s.heap u d as := Dp.reads I d v u (r.dp hp) rv
theorem plainAll_mem : ∀ {ds : List D}, PyData.plainAll ds = true → ∀ d ∈ ds, d.plain = true
  | _ :: _, h, d, hd => by
    rw [PyData.plainAll, Bool.and_eq_true] at h
    rcases List.mem_cons.mp hd with rfl | hd
    · exact h.1
    · exact plainAll_mem h.2 d hd
theorem depthAll_le : ∀ {ds : List D}, (∀ d ∈ ds, d.depth ≤ 20) → PyData.depthAll ds ≤ 20
  | [], _ => Nat.zero_le _
  | d :: r, h => by
    rw [PyData.depthAll]
    exact Nat.max_le.mpr ⟨h d List.mem_cons_self, depthAll_le fun x hx => h x (List.mem_cons_of_mem _ hx)⟩

section
variable {X : Cx} {cA : Nat → Addr} {Wx : WX}
/-- sorted(xs), xs alike data: the core -/
theorem sorted_core {pins : List (Addr × Obj)} {s : Shared} {σ σ' : L2.St} {H F : Hp} {Af : Nat → List Addr} {env : Env} {Q : VK} {xs : List V} {ds : List D} {its : List Value} {l : Addr} (I : Inv X pins σ H s) (hu : X.A.units + 64 < cLine)
    (S : SR X.K F H σ' env Af) (rv : Vals xs its) (hl : s.heap.IsList l its.toArray) (hz : xs.length ≤ sizeLine) (r : RepAll X.K F xs ds) (ok : alikeB ds = true) (ok2 : sortable ds = true) (p : PG X.K cA Wx (rO X.K) σ' F H Af (.ok (.lst ((isort leD ds).map .val), env)) Q) :
    wpAny (model X.prog X.w) X.A (call (.builtin "sorted") [.ref l]) (EP X pins σ Q) X.xe s := by
  obtain ⟨ha, hp, hd⟩ := alikeB_all ok
  have e := each_of rv r
  have e2 : W.EachIs (fun v (b : V × D) => ∃ as, Reads s.heap v b.2 as) its (xs.zip ds) := by
    have : ∀ {us : List Value} {bs : List (V × D)}, (∀ b ∈ bs, b.2.plain = true) → W.EachIs (fun u (b : V × D) => RelV b.1 u ∧ Rep X.K F b.1 b.2) us bs → W.EachIs (fun v (b : V × D) => ∃ as, Reads s.heap v b.2 as) us bs := by
      intro us bs hb q
      induction q with
      | nil => exact .nil
      | cons h t ih => exact .cons (rep_reads I (h.2.mono S.ex) (hb _ List.mem_cons_self) h.1) (ih fun b hb' => hb b (List.mem_cons_of_mem _ hb'))
    refine this (fun b hb => plainAll_mem hp _ ?_) e
    rw [← zip_snd r]; exact List.mem_map_of_mem hb
  have hm : (xs.zip ds).map (·.2) = ds := zip_snd r
  have hlen : (xs.zip ds).length = xs.length := by rw [List.length_zip, r.length]; exact Nat.min_self _
  refine W.sorted_data (β := V × D) (enc := fun b => b.2) hl e e2 (by rw [hm]; exact ha.1) (by rw [hm]; exact sortable_of ok2) (by rw [hlen]; exact hz) (fun b hb => ?_) fun out ho eo => ?_
  · have : b.2.depth ≤ 20 := hd _ (by rw [← hm]; exact List.mem_map_of_mem hb)
    omega
  · obtain ⟨k1, k2⟩ := each_out eo
    obtain ⟨ep, he'⟩ := PyProof.Rows.sortedAll_at s.heap its out.toArray
    have hz2 : (((xs.zip ds).mergeSort (W.dataLe false fun b => b.2)).map (·.1)).length ≤ sizeLine := by
      rw [List.length_map, List.length_mergeSort, hlen]; exact hz
    have es : ((xs.zip ds).mergeSort (W.dataLe false fun b => b.2)).map (·.2) = isort leD ds := by
      rw [W.sort_maps (s := leD) (fun b : V × D => b.2) (fun a _ b _ => by rw [W.dataLe_eq]; rfl), hm, isort_eq leD_total]
    have hn : H (s.heap.objs.size + 1) = none := I.hok.fresh (Nat.le_succ _)
    rw [es] at k2
    exact ⟨.ref _, upd H (s.heap.objs.size + 1) (.lst (((xs.zip ds).mergeSort (W.dataLe false fun b => b.2)).map (·.1))), I.laid (t' := s.toks) (fun _ _ => PyProof.Rows.sortedAll_old) (Nat.le_succ _) ⟨hz2, out, ep, k1, he'⟩, rfl, p.newL S k2 hn⟩
theorem c_sorted (hu : X.A.units + 64 < cLine) : CallR X (.builtin "sorted") (R1c X.K cA Wx .sorted) := by
  intro pins s σ H xs us Q I rv ⟨x, ex, σ', F, Af, env, d, S, r, p⟩
  subst ex
  obtain ⟨o, eo, p⟩ := p.res_none
  cases d with
  | list ds =>
    simp only [ev1, sortD] at eo
    split at eo
    · rename_i hk
      cases eo
      rw [Bool.and_eq_true] at hk
      obtain ⟨a, xs, rfl, h, r⟩ := r.lst_inv
      obtain ⟨its, rv', hl, hz⟩ := I.list (SqL.of (S.ex _ _ h))
      rw [Vals.ref1 rv]
      exact sorted_core I hu S rv' hl.isList hz r hk.1 hk.2 p
    · cases eo
  | _ => cases eo
theorem least_core {pins : List (Addr × Obj)} {s : Shared} {σ σ' : L2.St} {H F : Hp} {Af : Nat → List Addr} {env : Env} {Q : VK} {xs : List V} {ds : List D} {its : List Value} {d0 : D} {h' : Heap} {tk : Nat} {i : Nat} {v : Value} {bs : List Addr} (I : Inv X pins σ H s)
    (S : SR X.K F H σ' env Af) (rv : Vals xs its) (r : RepAll X.K F xs ds) (hp : PyData.plainAll ds = true) (hv : its[i]? = some v) (hr : Reads h' v d0 bs) (hk : ∀ b o, s.heap.get? b = some o → h'.get? b = some o)
    (p : PG X.K cA Wx (rO X.K) σ' F H Af (.ok (.val d0, env)) Q) : EP X pins σ Q v { s with heap := h', toks := tk } := by
  cases ex : xs[i]? with
  | none => rw [rv.none_of ex] at hv; cases hv
  | some x =>
    obtain ⟨d, ed, rd⟩ := r.atV ex
    obtain ⟨u, eu, ru⟩ := rv.get ex
    rw [hv] at eu; cases eu
    have hpd := plainAll_mem hp d (List.mem_of_getElem? ed)
    obtain ⟨as, q⟩ := rep_reads I (rd.mono S.ex) hpd ru
    have e := SeqAt.plain_unique d d0 v as bs hpd (Reads.keeps hk q) hr
    subst e
    exact ⟨x, H, I.kept hk, ru, p.nowV S rd⟩
theorem c_min (hc : X.calm = true) (hu : X.A.units + 64 < cLine) : CallR X (.builtin "min") (R1c X.K cA Wx .min) := by
  intro pins s σ H xs us Q I rv ⟨x, ex, σ', F, Af, env, d, S, r, p⟩
  subst ex
  obtain ⟨o, eo, p⟩ := p.res_none
  cases d with
  | list ds =>
    cases ds with
    | nil => cases eo
    | cons d ds =>
      simp only [ev1] at eo
      split at eo
      · rename_i hk
        cases eo
        obtain ⟨ha, hp, hd⟩ := alikeB_all hk
        obtain ⟨a, xs, rfl, h, r⟩ := r.lst_inv
        obtain ⟨its, rv', hl, hz⟩ := I.list (SqL.of (S.ex _ _ h))
        obtain ⟨as, hr⟩ := Dp.readsAll I _ _ its ((r.mono S.ex).dp hp) rv'
        rw [Vals.ref1 rv]
        refine W.min_list_data (I.ok.hd hc) hl.isList hr ha (by have := depthAll_le hd; omega) fun i v h' tk bs hv hq hk => ?_
        exact least_core I S rv' r hp (by simpa using hv) hq hk p
      · cases eo
  | _ => cases eo
theorem c_max (hc : X.calm = true) (hu : X.A.units + 64 < cLine) : CallR X (.builtin "max") (R1c X.K cA Wx .max) := by
  intro pins s σ H xs us Q I rv ⟨x, ex, σ', F, Af, env, d, S, r, p⟩
  subst ex
  obtain ⟨o, eo, p⟩ := p.res_none
  cases d with
  | list ds =>
    cases ds with
    | nil => cases eo
    | cons d ds =>
      simp only [ev1] at eo
      split at eo
      · rename_i hk
        cases eo
        obtain ⟨ha, hp, hd⟩ := alikeB_all hk
        obtain ⟨a, xs, rfl, h, r⟩ := r.lst_inv
        obtain ⟨its, rv', hl, hz⟩ := I.list (SqL.of (S.ex _ _ h))
        obtain ⟨as, hr⟩ := Dp.readsAll I _ _ its ((r.mono S.ex).dp hp) rv'
        rw [Vals.ref1 rv]
        refine W.max_list_data (I.ok.hd hc) hl.isList hr ha (by have := depthAll_le hd; omega) fun i v h' tk bs hv hq hk => ?_
        exact least_core I S rv' r hp (by simpa using hv) hq hk p
      · cases eo
  | _ => cases eo
end
end Ev

end
section
set_option autoImplicit false
set_option linter.all false
set_option maxRecDepth 100000
/-! Two arguments. -/
namespace Ev
open PySem L2 PyProof.Rows

def opOf : Op2 → Option Operator
  | .add => some .Add
  | .sub => some .Sub
  | .mul => some .Mult
  | .fdiv => some .FloorDiv
  | .mod => some .Mod
  | .pow => some .Pow
  | _ => none
def cmpOf : Op2 → Option CmpOp
  | .eq => some .Eq
  | .ne => some .NotEq
  | .lt => some .Lt
  | .le => some .LtE
  | .gt => some .Gt
  | .ge => some .GtE
  | .inn => some .In
  | .nin => some .NotIn
  | .is => some .Is
  | .isnt => some .IsNot
  | _ => none
theorem res2 {cA : Nat → Addr} {Wx : WX} {K : PySem.W.Frag} {F H : Hp} {σ : L2.St} {env : Env} {Af : Nat → List Addr} {Q : VK} {o : Option O} (p : PG K cA Wx (rO K) σ F H Af (resO o env) Q) : ∃ r, o = some r ∧ PG K cA Wx (rO K) σ F H Af (.ok (r, env)) Q := by
  cases o with
  | none => exact p.elim
  | some r => exact ⟨r, rfl, p⟩
section
variable {X : Cx} {cA : Nat → Addr} {Wx : WX}
theorem b_add : OpR X (binaryOp .Add) (R2e X.K cA Wx .add) := by
  intro pins s σ H x y v u Q I rx ry ⟨σ', F, Af, env, d, e, S, r1, r2, p⟩
  obtain ⟨o, eo, p⟩ := res2 p
  cases d with
  | int i => cases e with
    | int j => cases eo; cases r1.int_inv; cases r2.int_inv; exact op_add pins s σ H _ _ v u Q I rx ry ⟨i, j, rfl, rfl, p.nowV S (.int _)⟩
    | _ => cases eo
  | list ds => cases e with
    | list es =>
      simp only [ev2] at eo
      split at eo
      · rename_i hz
        cases eo
        obtain ⟨a, xs, rfl, h1, q1⟩ := r1.lst_inv
        obtain ⟨b, ys, rfl, h2, q2⟩ := r2.lst_inv
        exact op_cat pins s σ H _ _ v u Q I rx ry ⟨a, b, xs, ys, rfl, rfl, S.ex _ _ h1, S.ex _ _ h2, by rw [q1.length, q2.length]; exact Nat.le_trans hz most_line, fun q hq => p.newL S (q1.append q2) hq⟩
      · cases eo
    | _ => cases eo
  | tuple ds => cases e with
    | tuple es =>
      simp only [ev2] at eo
      split at eo
      · rename_i hz
        cases eo
        have r1' := r1
        have r2' := r2
        obtain ⟨a, xs, rfl, h1, q1⟩ := r1.tup_inv
        obtain ⟨b, ys, rfl, h2, q2⟩ := r2.tup_inv
        refine op_catA pins s σ H _ _ v u Q I rx ry ⟨a, b, xs, ys, rfl, rfl, ex_t S.ex h1, ex_t S.ex h2, by rw [q1.length, q2.length]; exact Nat.le_trans hz most_line, fun hx => ?_, fun _ hy => ?_, fun _ _ q hq => PG.newT p S (q1.append q2) hq⟩
        · have : ds = [] := List.eq_nil_of_length_eq_zero (by rw [← q1.length, hx]; rfl)
          subst this
          exact p.nowV S r2'
        · have : es = [] := List.eq_nil_of_length_eq_zero (by rw [← q2.length, hy]; rfl)
          subst this
          rw [List.append_nil] at p
          exact p.nowV S r1'
      · cases eo
    | _ => cases eo
  | _ => cases e <;> cases eo
theorem b_sub : OpR X (binaryOp .Sub) (R2e X.K cA Wx .sub) := by
  intro pins s σ H x y v u Q I rx ry ⟨σ', F, Af, env, d, e, S, r1, r2, p⟩
  obtain ⟨o, eo, p⟩ := res2 p
  cases d with
  | int i => cases e with
    | int j => cases eo; cases r1.int_inv; cases r2.int_inv; exact op_sub pins s σ H _ _ v u Q I rx ry ⟨i, j, rfl, rfl, p.nowV S (.int _)⟩
    | _ => cases eo
  | _ => cases e <;> cases eo
theorem rep_all {K : PySem.W.Frag} {F : Hp} {vs : List V} {ds : List D} (r : RepAll K F vs ds) : ∀ n : Nat, RepAll K F (List.replicate n vs).flatten (List.replicate n ds).flatten
  | 0 => .nil
  | n + 1 => by
    rw [List.replicate_succ, List.replicate_succ, List.flatten_cons, List.flatten_cons]
    exact r.append (rep_all r n)
theorem b_mul : OpR X (binaryOp .Mult) (R2e X.K cA Wx .mul) := by
  intro pins s σ H x y v u Q I rx ry ⟨σ', F, Af, env, d, e, S, r1, r2, p⟩
  obtain ⟨o, eo, p⟩ := res2 p
  cases d with
  | int i => cases e with
    | int j =>
      simp only [ev2] at eo
      split at eo
      · rename_i hz
        cases eo; cases r1.int_inv; cases r2.int_inv
        exact op_mulX pins s σ H _ _ v u Q I rx ry ⟨i, j, rfl, rfl, mulx_ok (a := big) (b := big) hz.1 hz.2 (by decide), p.nowV S (.int _)⟩
      · cases eo
    | _ => cases eo
  | list ds => cases e with
    | int j =>
      simp only [ev2] at eo
      split at eo
      · rename_i hz
        cases eo; cases r2.int_inv
        obtain ⟨a, xs, rfl, h1, q1⟩ := r1.lst_inv
        refine op_rep pins s σ H _ _ v u Q I rx ry ⟨a, j, xs, rfl, rfl, S.ex _ _ h1, by omega, by omega, ?_, fun q hq => p.newL S (rep_all q1 _) hq⟩
        rw [q1.length]; exact Nat.le_trans hz.2 most_line
      · cases eo
    | _ => cases eo
  | _ => cases e <;> cases eo
theorem b_fdiv : OpR X (binaryOp .FloorDiv) (R2e X.K cA Wx .fdiv) := by
  intro pins s σ H x y v u Q I rx ry ⟨σ', F, Af, env, d, e, S, r1, r2, p⟩
  obtain ⟨o, eo, p⟩ := res2 p
  cases d with
  | int i => cases e with
    | int j =>
      simp only [ev2] at eo
      split at eo
      · rename_i hz
        cases eo; cases r1.int_inv; cases r2.int_inv
        exact op_fdivW pins s σ H _ _ v u Q I rx ry ⟨i, j, rfl, rfl, wide_div (b := bigD) hz.1 hz.2 (by decide) (by decide), p.nowV S (.int _)⟩
      · cases eo
    | _ => cases eo
  | _ => cases e <;> cases eo
theorem b_mod : OpR X (binaryOp .Mod) (R2e X.K cA Wx .mod) := by
  intro pins s σ H x y v u Q I rx ry ⟨σ', F, Af, env, d, e, S, r1, r2, p⟩
  obtain ⟨o, eo, p⟩ := res2 p
  cases d with
  | int i => cases e with
    | int j =>
      simp only [ev2] at eo
      split at eo
      · rename_i hz
        cases eo; cases r1.int_inv; cases r2.int_inv
        exact op_mod pins s σ H _ _ v u Q I rx ry ⟨i, j, rfl, rfl, hz, p.nowV S (.int _)⟩
      · cases eo
    | _ => cases eo
  | _ => cases e <;> cases eo
theorem b_pow : OpR X (binaryOp .Pow) (R2e X.K cA Wx .pow) := by
  intro pins s σ H x y v u Q I rx ry ⟨σ', F, Af, env, d, e, S, r1, r2, p⟩
  obtain ⟨o, eo, p⟩ := res2 p
  cases d with
  | int i => cases e with
    | int j =>
      simp only [ev2] at eo
      split at eo
      · rename_i hz
        cases eo; cases r1.int_inv; cases r2.int_inv
        exact op_pow pins s σ H _ _ v u Q I rx ry ⟨i, j, rfl, rfl, ⟨hz.1, by omega, by omega⟩, p.nowV S (.int _)⟩
      · cases eo
    | _ => cases eo
  | _ => cases e <;> cases eo
theorem b_op {o : Op2} {op : Operator} (h : opOf o = some op) : OpR X (binaryOp op) (R2e X.K cA Wx o) := by
  cases o <;> cases h
  · exact b_add
  · exact b_sub
  · exact b_mul
  · exact b_fdiv
  · exact b_mod
  · exact b_pow

theorem k_eq (hu : X.A.units + 64 < cLine) : OpR X (compareOp .Eq) (R2e X.K cA Wx .eq) := by
  intro pins s σ H x y v u Q I rx ry ⟨σ', F, Af, env, d, e, S, r1, r2, p⟩
  obtain ⟨o, eo, p⟩ := res2 p
  simp only [ev2] at eo
  split at eo
  · rename_i hz
    cases eo
    simp only [Bool.and_eq_true, decide_eq_true_eq] at hz
    obtain ⟨as, q1⟩ := rep_reads I (r1.mono S.ex) hz.1.1 rx
    obtain ⟨bs, q2⟩ := rep_reads I (r2.mono S.ex) hz.1.2 ry
    exact SeqAt.eq_plain q1 q2 hz.1.1 hz.1.2 (by have := hz.2; omega) ⟨.bl _, H, I, rfl, p.nowV S (.bl _)⟩
  · cases eo
theorem k_ne (hu : X.A.units + 64 < cLine) : OpR X (compareOp .NotEq) (R2e X.K cA Wx .ne) := by
  intro pins s σ H x y v u Q I rx ry ⟨σ', F, Af, env, d, e, S, r1, r2, p⟩
  obtain ⟨o, eo, p⟩ := res2 p
  simp only [ev2] at eo
  split at eo
  · rename_i hz
    cases eo
    simp only [Bool.and_eq_true, decide_eq_true_eq] at hz
    obtain ⟨as, q1⟩ := rep_reads I (r1.mono S.ex) hz.1.1 rx
    obtain ⟨bs, q2⟩ := rep_reads I (r2.mono S.ex) hz.1.2 ry
    exact SeqAt.ne_plain q1 q2 hz.1.1 hz.1.2 (by have := hz.2; omega) ⟨.bl _, H, I, rfl, p.nowV S (.bl _)⟩
  · cases eo
theorem ltOk_all {d e : D} (h : ltOk d e = true) : d.plain = true ∧ e.plain = true ∧ W.alike d e = true ∧ ¬ d = .none ∧ d.depth ≤ 20 := by
  unfold ltOk at h
  simp only [Bool.and_eq_true, decide_eq_true_eq, Bool.not_eq_true'] at h
  obtain ⟨h1, h2, h3, h4, h5⟩ := h
  exact ⟨h1, h2, h3, (fun z => by subst z; cases h4), h5⟩
theorem ev2_lt (d e : D) : (∃ i j, d = .int i ∧ e = .int j) ∨ ev2 .lt d e = if ltOk d e then some (.val (.bool (W.dataLt d e))) else none := by
  cases d <;> first
    | exact .inr rfl
    | (cases e <;> first | exact .inl ⟨_, _, rfl, rfl⟩ | exact .inr rfl)
theorem k_lt (hu : X.A.units + 64 < cLine) : OpR X (compareOp .Lt) (R2e X.K cA Wx .lt) := by
  intro pins s σ H x y v u Q I rx ry ⟨σ', F, Af, env, d, e, S, r1, r2, p⟩
  obtain ⟨o, eo, p⟩ := res2 p
  rcases ev2_lt d e with ⟨i, j, rfl, rfl⟩ | hg
  · cases eo; cases r1.int_inv; cases r2.int_inv; exact op_lt pins s σ H _ _ v u Q I rx ry ⟨i, j, rfl, rfl, p.nowV S (.bl _)⟩
  · rw [hg] at eo
    split at eo
    · rename_i hz
      cases eo
      obtain ⟨h1, h2, h3, h4, h5⟩ := ltOk_all hz
      obtain ⟨as, q1⟩ := rep_reads I (r1.mono S.ex) h1 rx
      obtain ⟨bs, q2⟩ := rep_reads I (r2.mono S.ex) h2 ry
      exact W.lt_data q1 q2 h3 h4 (by omega) ⟨.bl _, H, I, rfl, p.nowV S (.bl _)⟩
    · cases eo
theorem ev2_le (d e : D) : (∃ i j, d = .int i ∧ e = .int j) ∨ ev2 .le d e = if ltOk d e then some (.val (.bool (!W.dataLt e d))) else none := by
  cases d <;> first
    | exact .inr rfl
    | (cases e <;> first | exact .inl ⟨_, _, rfl, rfl⟩ | exact .inr rfl)
theorem k_le (hu : X.A.units + 64 < cLine) : OpR X (compareOp .LtE) (R2e X.K cA Wx .le) := by
  intro pins s σ H x y v u Q I rx ry ⟨σ', F, Af, env, d, e, S, r1, r2, p⟩
  obtain ⟨o, eo, p⟩ := res2 p
  rcases ev2_le d e with ⟨i, j, rfl, rfl⟩ | hg
  · cases eo; cases r1.int_inv; cases r2.int_inv; exact op_le pins s σ H _ _ v u Q I rx ry ⟨i, j, rfl, rfl, p.nowV S (.bl _)⟩
  · rw [hg] at eo
    split at eo
    · rename_i hz
      cases eo
      obtain ⟨h1, h2, h3, h4, h5⟩ := ltOk_all hz
      obtain ⟨as, q1⟩ := rep_reads I (r1.mono S.ex) h1 rx
      obtain ⟨bs, q2⟩ := rep_reads I (r2.mono S.ex) h2 ry
      exact W.le_data q1 q2 h3 h4 (by omega) ⟨.bl _, H, I, rfl, p.nowV S (.bl _)⟩
    · cases eo
theorem ev2_gt (d e : D) : (∃ i j, d = .int i ∧ e = .int j) ∨ ev2 .gt d e = if ltOk d e then some (.val (.bool (W.dataLt e d))) else none := by
  cases d <;> first
    | exact .inr rfl
    | (cases e <;> first | exact .inl ⟨_, _, rfl, rfl⟩ | exact .inr rfl)
theorem k_gt (hu : X.A.units + 64 < cLine) : OpR X (compareOp .Gt) (R2e X.K cA Wx .gt) := by
  intro pins s σ H x y v u Q I rx ry ⟨σ', F, Af, env, d, e, S, r1, r2, p⟩
  obtain ⟨o, eo, p⟩ := res2 p
  rcases ev2_gt d e with ⟨i, j, rfl, rfl⟩ | hg
  · cases eo; cases r1.int_inv; cases r2.int_inv; exact op_gt pins s σ H _ _ v u Q I rx ry ⟨i, j, rfl, rfl, p.nowV S (.bl _)⟩
  · rw [hg] at eo
    split at eo
    · rename_i hz
      cases eo
      obtain ⟨h1, h2, h3, h4, h5⟩ := ltOk_all hz
      obtain ⟨as, q1⟩ := rep_reads I (r1.mono S.ex) h1 rx
      obtain ⟨bs, q2⟩ := rep_reads I (r2.mono S.ex) h2 ry
      exact W.gt_data q1 q2 h3 h4 (by omega) ⟨.bl _, H, I, rfl, p.nowV S (.bl _)⟩
    · cases eo
theorem ev2_ge (d e : D) : (∃ i j, d = .int i ∧ e = .int j) ∨ ev2 .ge d e = if ltOk d e then some (.val (.bool (!W.dataLt d e))) else none := by
  cases d <;> first
    | exact .inr rfl
    | (cases e <;> first | exact .inl ⟨_, _, rfl, rfl⟩ | exact .inr rfl)
theorem k_ge (hu : X.A.units + 64 < cLine) : OpR X (compareOp .GtE) (R2e X.K cA Wx .ge) := by
  intro pins s σ H x y v u Q I rx ry ⟨σ', F, Af, env, d, e, S, r1, r2, p⟩
  obtain ⟨o, eo, p⟩ := res2 p
  rcases ev2_ge d e with ⟨i, j, rfl, rfl⟩ | hg
  · cases eo; cases r1.int_inv; cases r2.int_inv; exact op_ge pins s σ H _ _ v u Q I rx ry ⟨i, j, rfl, rfl, p.nowV S (.bl _)⟩
  · rw [hg] at eo
    split at eo
    · rename_i hz
      cases eo
      obtain ⟨h1, h2, h3, h4, h5⟩ := ltOk_all hz
      obtain ⟨as, q1⟩ := rep_reads I (r1.mono S.ex) h1 rx
      obtain ⟨bs, q2⟩ := rep_reads I (r2.mono S.ex) h2 ry
      exact W.ge_data q1 q2 h3 h4 (by omega) ⟨.bl _, H, I, rfl, p.nowV S (.bl _)⟩
    · cases eo
theorem k_in (hu : X.A.units + 64 < cLine) : OpR X (compareOp .In) (R2e X.K cA Wx .inn) := by
  intro pins s σ H x y v u Q I rx ry ⟨σ', F, Af, env, d, e, S, r1, r2, p⟩
  obtain ⟨o, eo, pp⟩ := res2 p
  clear p
  simp only [ev2] at eo
  split at eo
  · rename_i xs he
    split at eo
    · rename_i hz
      cases eo
      simp only [Bool.and_eq_true, decide_eq_true_eq] at hz
      obtain ⟨as, q1⟩ := rep_reads I (r1.mono S.ex) hz.1.2 rx
      have hd : min (PyData.depthAll xs) d.depth ≤ 20 := Nat.le_trans (Nat.min_le_right _ _) hz.2
      cases e with
      | list es =>
        cases he
        obtain ⟨bs, q2⟩ := rep_reads I (r2.mono S.ex) (show (PyData.list xs).plain = true by rw [PyData.plain]; exact hz.1.1) ry
        exact SeqAt.in_list_data q2 q1 hz.1.1 hz.1.2 (by omega) ⟨.bl _, H, I, rfl, pp.nowV S (.bl _)⟩
      | tuple es =>
        cases he
        obtain ⟨bs, q2⟩ := rep_reads I (r2.mono S.ex) (show (PyData.tuple xs).plain = true by rw [PyData.plain]; exact hz.1.1) ry
        exact SeqAt.in_tuple_data q2 q1 hz.1.1 hz.1.2 (by omega) ⟨.bl _, H, I, rfl, pp.nowV S (.bl _)⟩
      | _ => cases he
    · cases eo
  · cases eo
theorem k_nin (hu : X.A.units + 64 < cLine) : OpR X (compareOp .NotIn) (R2e X.K cA Wx .nin) := by
  intro pins s σ H x y v u Q I rx ry ⟨σ', F, Af, env, d, e, S, r1, r2, p⟩
  obtain ⟨o, eo, pp⟩ := res2 p
  clear p
  simp only [ev2] at eo
  split at eo
  · rename_i xs he
    split at eo
    · rename_i hz
      cases eo
      simp only [Bool.and_eq_true, decide_eq_true_eq] at hz
      obtain ⟨as, q1⟩ := rep_reads I (r1.mono S.ex) hz.1.2 rx
      have hd : min (PyData.depthAll xs) d.depth ≤ 20 := Nat.le_trans (Nat.min_le_right _ _) hz.2
      cases e with
      | list es =>
        cases he
        obtain ⟨bs, q2⟩ := rep_reads I (r2.mono S.ex) (show (PyData.list xs).plain = true by rw [PyData.plain]; exact hz.1.1) ry
        exact SeqAt.notIn_list_data q2 q1 hz.1.1 hz.1.2 (by omega) ⟨.bl _, H, I, rfl, pp.nowV S (.bl _)⟩
      | tuple es =>
        cases he
        obtain ⟨bs, q2⟩ := rep_reads I (r2.mono S.ex) (show (PyData.tuple xs).plain = true by rw [PyData.plain]; exact hz.1.1) ry
        exact SeqAt.notIn_tuple_data q2 q1 hz.1.1 hz.1.2 (by omega) ⟨.bl _, H, I, rfl, pp.nowV S (.bl _)⟩
      | _ => cases he
    · cases eo
  · cases eo
theorem rep_isNone {K : PySem.W.Frag} {F : Hp} {x : V} {d : D} (r : Rep K F x d) : decide (x = .non) = isNone d := by cases r <;> simp [isNone]
theorem k_is : OpR X (compareOp .Is) (R2e X.K cA Wx .is) := by
  intro pins s σ H x y v u Q I rx ry ⟨σ', F, Af, env, d, e, S, r1, r2, p⟩
  obtain ⟨o, eo, p⟩ := res2 p
  cases e with
  | none =>
    cases r2.non_inv
    have eo' : o = .val (.bool (isNone d)) := by cases d <;> cases eo <;> rfl
    subst eo'
    exact op_isN pins s σ H _ _ v u Q I rx ry ⟨rfl, by rw [rep_isNone r1]; exact p.nowV S (.bl _)⟩
  | bool c =>
    cases r2.bl_inv
    cases ry
    cases d with
    | bool b =>
      cases eo; cases r1.bl_inv; cases rx
      exact wpAny_is_plain rfl ⟨.bl _, H, I, by cases b <;> cases c <;> rfl, p.nowV S (.bl _)⟩
    | none =>
      cases eo; cases r1.non_inv; cases rx
      exact wpAny_is_plain rfl ⟨.bl _, H, I, by cases c <;> rfl, p.nowV S (.bl _)⟩
    | _ => cases eo
  | _ => cases d <;> cases eo
theorem k_isnt : OpR X (compareOp .IsNot) (R2e X.K cA Wx .isnt) := by
  intro pins s σ H x y v u Q I rx ry ⟨σ', F, Af, env, d, e, S, r1, r2, p⟩
  obtain ⟨o, eo, p⟩ := res2 p
  cases e with
  | none =>
    cases r2.non_inv
    have eo' : o = .val (.bool (!isNone d)) := by cases d <;> cases eo <;> rfl
    subst eo'
    exact op_notN pins s σ H _ _ v u Q I rx ry ⟨rfl, by rw [rep_isNone r1]; exact p.nowV S (.bl _)⟩
  | bool c =>
    cases r2.bl_inv
    cases ry
    cases d with
    | bool b =>
      cases eo; cases r1.bl_inv; cases rx
      exact wpAny_isNot_plain rfl ⟨.bl _, H, I, by cases b <;> cases c <;> rfl, p.nowV S (.bl _)⟩
    | none =>
      cases eo; cases r1.non_inv; cases rx
      exact wpAny_isNot_plain rfl ⟨.bl _, H, I, by cases c <;> rfl, p.nowV S (.bl _)⟩
    | _ => cases eo
  | _ => cases d <;> cases eo
theorem k_op (hu : X.A.units + 64 < cLine) {o : Op2} {op : CmpOp} (h : cmpOf o = some op) : OpR X (compareOp op) (R2e X.K cA Wx o) := by
  cases o <;> cases h
  · exact k_eq hu
  · exact k_ne hu
  · exact k_lt hu
  · exact k_le hu
  · exact k_gt hu
  · exact k_ge hu
  · exact k_in hu
  · exact k_nin hu
  · exact k_is
  · exact k_isnt

theorem atI_lt {α : Type} {xs : List α} {i : Int} {v : α} (h : atI xs i = some v) : ∃ j, ixN xs.length i = some j ∧ xs[j]? = some v := by
  unfold atI at h
  cases e : ixN xs.length i with
  | none => rw [e] at h; cases h
  | some j => rw [e] at h; exact ⟨j, rfl, h⟩
theorem RepAll.atI {K : PySem.W.Frag} {F : Hp} {vs : List V} {ds : List D} {i : Int} {d : D} (r : RepAll K F vs ds) (h : L2.atI ds i = some d) : ∃ v, L2.atI vs i = some v ∧ Rep K F v d := by
  obtain ⟨j, h1, h2⟩ := atI_lt h
  obtain ⟨v, h3, h4⟩ := r.at h2
  refine ⟨v, ?_, h4⟩
  unfold L2.atI
  rw [r.length, h1]; exact h3
theorem i_idx : IxR X (R2e X.K cA Wx .idx) := by
  intro value slice pins s σ H x y v u Q I rx ry ⟨σ', F, Af, env, d, e, S, r1, r2, p⟩ hs
  obtain ⟨o, eo, p⟩ := res2 p
  cases d with
  | list ds => cases e with
    | int i =>
      simp only [ev2, Option.map_eq_some_iff] at eo
      obtain ⟨z, ez, rfl⟩ := eo
      cases r2.int_inv
      obtain ⟨a, xs, rfl, h1, q1⟩ := r1.lst_inv
      obtain ⟨w, hw, rw'⟩ := q1.atI ez
      exact ix_seq value slice pins s σ H _ _ v u Q I rx ry (.inl ⟨a, xs, i, w, rfl, rfl, SqL.of (S.ex _ _ h1), hw, p.nowV S rw'⟩) hs
    | _ => cases eo
  | tuple ds => cases e with
    | int i =>
      simp only [ev2, Option.map_eq_some_iff] at eo
      obtain ⟨z, ez, rfl⟩ := eo
      cases r2.int_inv
      obtain ⟨a, xs, rfl, h1, q1⟩ := r1.tup_inv
      obtain ⟨w, hw, rw'⟩ := q1.atI ez
      exact ix_seq value slice pins s σ H _ _ v u Q I rx ry (.inr (.inl ⟨a, xs, i, w, rfl, rfl, ex_t S.ex h1, hw, p.nowV S rw'⟩)) hs
    | _ => cases eo
  | _ => cases e <;> cases eo
theorem c_min2 (hc : X.calm = true) : CallR X (.builtin "min") (R2c X.K cA Wx .min2) := by
  intro pins s σ H xs us Q I rv ⟨x, y, ex, σ', F, Af, env, d, e, S, r1, r2, p⟩
  subst ex
  obtain ⟨o, eo, p⟩ := res2 p
  cases d with
  | int i => cases e with
    | int j => cases eo; cases r1.int_inv; cases r2.int_inv; exact call_min2 hc pins s σ H _ us Q I rv ⟨i, j, rfl, p.nowV S (.int _)⟩
    | _ => cases eo
  | _ => cases e <;> cases eo
theorem c_max2 (hc : X.calm = true) : CallR X (.builtin "max") (R2c X.K cA Wx .max2) := by
  intro pins s σ H xs us Q I rv ⟨x, y, ex, σ', F, Af, env, d, e, S, r1, r2, p⟩
  subst ex
  obtain ⟨o, eo, p⟩ := res2 p
  cases d with
  | int i => cases e with
    | int j => cases eo; cases r1.int_inv; cases r2.int_inv; exact call_max2 hc pins s σ H _ us Q I rv ⟨i, j, rfl, p.nowV S (.int _)⟩
    | _ => cases eo
  | _ => cases e <;> cases eo
end
end Ev

end
section
set_option autoImplicit false
set_option linter.all false
set_option maxRecDepth 100000
set_option maxHeartbeats 4000000
/-! set(a list of ints), sorted. -/
namespace Ev
open PySem PySem.Spec PyProof.Rows L2
section
variable {P : Program} {w : World} {A : Around} {E : Value → Shared → Prop} {s : Shared}
set_option maxRecDepth 100000 in
set_option maxHeartbeats 3200000 in
theorem call_set_listI {l : Addr} {items : Array Value} (ns : List Int) {Q : Value → Shared → Prop} (hh : A.handled = none) (hl : s.heap.IsList l items) (hit : IntsAre items.toList ns) (hb : ns.length + 1 < scanBound)
    (h : ∀ (h' : Heap) (tk c : Nat), SetR w h' s.heap.objs.size (fun j => decide (j ∈ ns)) c → c ≤ ns.length → (∀ b o, s.heap.get? b = some o → h'.get? b = some o) → Q (.ref s.heap.objs.size) { s with heap := h', toks := tk }) :
    wpAny (model P w) A (call (.type "set") [.ref l]) Q E s := by
  have hisz : items.size = ns.length := by
    have q := IntsAre.length hit
    rw [Array.length_toList] at q
    exact q
  obtain ⟨c, tl, hmro⟩ := F.called_set.mro
  have hmade := F.called_set.made
  have hsub := F.called_set.sub
  refine wpAny_call (codeAny_of_tree ?_)
  show wpAny _ _ (callAny (.type "set") _) _ _ _
  refine wpAny_pure ⟨Code.quiet_builtin _ (by decide +kernel), codeAny_builtin F.entry_type_call ?_⟩
  rw [Around.under_plain (weight_type_call_type "set" [.ref l] []) rfl]
  have h1 := F.called_set.notType
  have h2 := F.called_set.canCreate
  have hct := F.typeCall_set_1 (.ref l)
  repeat (any_goals (first | assumption | wp_step))

  refine codeAny_mono (code_set_led1 (.ref l) (E := E) (Q₁ := fun obj s₁ => obj = .ref s.heap.objs.size ∧ s₁ = { s with heap := s.heap.push { cls := .type "set", dict := none, data := .set #[] 0 (.fresh 0 0 (!w.params.followText "set-order")) } }) ⟨rfl, rfl⟩) fun r s₁ hr => ?_
  cases r with
  | error e => exact hr
  | ok fl =>
    cases fl with
    | ret obj =>
      obtain ⟨rfl, rfl⟩ := hr
      have hS : (s.heap.push { cls := .type "set", dict := none, data := .set #[] 0 (.fresh 0 0 (!w.params.followText "set-order")) }).get? s.heap.objs.size = some { cls := .type "set", dict := none, data := .set #[] 0 (.fresh 0 0 (!w.params.followText "set-order")) } := Heap.get?_push_size _ rfl
      have hT : Shared.TypeIs { s with heap := s.heap.push { cls := .type "set", dict := none, data := .set #[] 0 (.fresh 0 0 (!w.params.followText "set-order")) } } (.ref s.heap.objs.size) "set" := ⟨_, hS, rfl⟩
      have hli := F.called_set.init.lookup
      have hbi := F.called_set.init.bind (.ref s.heap.objs.size)
      repeat (any_goals (first | assumption | wp_step))

      refine codeAny_mono (codeAny_call_builtin (R := wants (fun r s₂ => r = .none ∧ ∃ h' tk c, s₂ = { s with heap := h', toks := tk } ∧ SetR w h' s.heap.objs.size (fun j => decide (j ∈ ns)) c ∧ c ≤ ns.length ∧
          (∀ b o, s.heap.get? b = some o → h'.get? b = some o)) E) F.called_set.init.plain F.entry_set_init (check_set_init_1 hT ?_)) fun r₂ s₂ hr₂ => ?_
      · obtain ⟨ol, hol, hcl, nl, hdl⟩ := hl
        obtain ⟨ocls, odict, odata, oslots⟩ := ol
        simp only at hcl hdl
        subst hcl; subst hdl
        have hol' : (s.heap.push { cls := .type "set", dict := none, data := .set #[] 0 (.fresh 0 0 (!w.params.followText "set-order")) }).get? l = some { cls := .type "list", dict := odict, data := .seq items nl, slots := oslots } := Heap.get?_push_of_some _ hol
        have hsls := F.sub_list_set
        have hslf := F.sub_list_frozenset
        have hne : (Value.type "list" == Value.type "dict") = false := by decide
        have hl1 : (s.heap.push { cls := .type "set", dict := none, data := .set #[] 0 (.fresh 0 0 (!w.params.followText "set-order")) }).IsList l items := ⟨_, hol', rfl, nl, rfl⟩
        unfold Builtin.«set.__init__» noKeywords Builtin.Frozenset.updateFrom
        generalize hPI : pyIter = PI
        wp_walk
        subst hPI

        refine wpAny_pyIter_list hl1 ?_
        refine wpAny_bind (wpAny_runValue ?_)
        have hlS : l < s.heap.objs.size := Heap.lt_size hol
        have hh3 : A.in1.in1.in1.handled = none := by simp [hh]
        have hz1 : (s.heap.push { cls := .type "set", dict := none, data := .set #[] 0 (.fresh 0 0 (!w.params.followText "set-order")) }).objs.size = s.heap.objs.size + 1 := Heap.size_push ..
        have hneI : l ≠ (s.heap.push { cls := .type "set", dict := none, data := .set #[] 0 (.fresh 0 0 (!w.params.followText "set-order")) }).objs.size := by
          rw [Heap.size_push]; exact Nat.ne_of_lt (Nat.lt_succ_of_lt hlS)
        have hSf : s.heap.objs.size ∉ [(s.heap.push { cls := .type "set", dict := none, data := .set #[] 0 (.fresh 0 0 (!w.params.followText "set-order")) }).objs.size, l] := by
          rw [Heap.size_push]; simp only [List.mem_cons, List.mem_singleton, List.not_mem_nil, or_false, not_or]
          exact ⟨Nat.ne_of_lt (Nat.lt_succ_self _), Nat.ne_of_gt hlS⟩
        have hval : ∀ (i : Nat) (v : Value), items[i]? = some v → ∃ k t, ns[i]? = some k ∧ v = .int k t := fun i v hv => by
          have hi : i < ns.length := by rw [← hisz]; exact (Array.getElem?_eq_some_iff.mp hv).1
          obtain ⟨t, e⟩ := PyProof.Rows.IntsAre.int_at hit i v (by rw [Array.getElem?_toList]; exact hv)
          refine ⟨ns[i], t, List.getElem?_eq_getElem hi, ?_⟩
          rw [e, List.getD_eq_getElem?_getD, List.getElem?_eq_getElem hi] <;> rfl
        refine set_update_ints ((Walks.list hh3 _ l hneI items).toS) s.heap.objs.size
          hSf ns hisz hb hval (items.size - 0) 0 _ (by omega) (Nat.zero_le _)
          ⟨⟨_, Heap.get?_push_size _ rfl, rfl, rfl⟩, (hl1.push _)⟩ ?hS0 ?hR
        case hS0 =>
          have hget : ((s.heap.push { cls := .type "set", dict := none, data := .set #[] 0 (.fresh 0 0 (!w.params.followText "set-order")) }).push { cls := .type "list_iterator", data := .fields #[.ref l, .int 0 0] }).get? s.heap.objs.size
              = some { cls := .type "set", dict := none, data := .set #[] 0 (.fresh 0 0 (!w.params.followText "set-order")) } := Heap.get?_push_of_some _ hS
          exact ⟨0, Nat.le_refl 0, setR_new_at hget⟩
        case hR =>
          intro s' c' hm hc' hS'
          obtain ⟨h', g2, d', tk', os'⟩ := s'
          have eg : g2 = s.gens := hm.gens
          have ed : d' = s.drawn := hm.drawn
          have eo : os' = s.os := hm.os
          subst eg; subst ed; subst eo
          show wpAny _ _ _ _ _ _
          refine wpAny_pure ?_
          show wpAny _ _ (ret Value.none) _ _ _
          rw [hisz] at hc'
          refine wpAny_pure ⟨rfl, h', tk', c', rfl, hS', hc', fun b o e => ?_⟩
          have hb0 : b < s.heap.objs.size := Heap.lt_size e
          have hb1 : b ≠ s.heap.objs.size := Nat.ne_of_lt hb0
          have hb2 : b ≠ (s.heap.push { cls := .type "set", dict := none, data := .set #[] 0 (.fresh 0 0 (!w.params.followText "set-order")) }).objs.size := by
            rw [Heap.size_push]; exact Nat.ne_of_lt (Nat.lt_succ_of_lt hb0)
          exact hm.heap b o (by simp only [List.mem_cons, List.mem_singleton, List.not_mem_nil, or_false, not_or]; exact ⟨hb1, hb2⟩) (Heap.get?_push_of_some _ (Heap.get?_push_of_some _ e))

      · cases r₂ with
        | error e => exact hr₂
        | ok fl₂ =>
          cases fl₂ with
          | ret r =>
            obtain ⟨rfl, h', tk, c', rfl, hS', hc', hk'⟩ := hr₂
            repeat (any_goals (first | assumption | wp_step))
            exact h _ _ _ hS' hc' hk'
          | _ => exact hr₂.elim
    | _ => exact hr.elim

set_option maxRecDepth 100000 in
set_option maxHeartbeats 3200000 in
theorem call_set_tupI {l : Addr} {items : Array Value} (ns : List Int) {Q : Value → Shared → Prop} (hh : A.handled = none) (hl : s.heap.IsTuple l items) (hit : IntsAre items.toList ns) (hb : ns.length + 1 < scanBound)
    (h : ∀ (h' : Heap) (tk c : Nat), SetR w h' s.heap.objs.size (fun j => decide (j ∈ ns)) c → c ≤ ns.length → (∀ b o, s.heap.get? b = some o → h'.get? b = some o) → Q (.ref s.heap.objs.size) { s with heap := h', toks := tk }) :
    wpAny (model P w) A (call (.type "set") [.ref l]) Q E s := by
  have hisz : items.size = ns.length := by
    have q := IntsAre.length hit
    rw [Array.length_toList] at q
    exact q
  obtain ⟨c, tl, hmro⟩ := F.called_set.mro
  have hmade := F.called_set.made
  have hsub := F.called_set.sub
  refine wpAny_call (codeAny_of_tree ?_)
  show wpAny _ _ (callAny (.type "set") _) _ _ _
  refine wpAny_pure ⟨Code.quiet_builtin _ (by decide +kernel), codeAny_builtin F.entry_type_call ?_⟩
  rw [Around.under_plain (weight_type_call_type "set" [.ref l] []) rfl]
  have h1 := F.called_set.notType
  have h2 := F.called_set.canCreate
  have hct := F.typeCall_set_1 (.ref l)
  repeat (any_goals (first | assumption | wp_step))

  refine codeAny_mono (code_set_led1 (.ref l) (E := E) (Q₁ := fun obj s₁ => obj = .ref s.heap.objs.size ∧ s₁ = { s with heap := s.heap.push { cls := .type "set", dict := none, data := .set #[] 0 (.fresh 0 0 (!w.params.followText "set-order")) } }) ⟨rfl, rfl⟩) fun r s₁ hr => ?_
  cases r with
  | error e => exact hr
  | ok fl =>
    cases fl with
    | ret obj =>
      obtain ⟨rfl, rfl⟩ := hr
      have hS : (s.heap.push { cls := .type "set", dict := none, data := .set #[] 0 (.fresh 0 0 (!w.params.followText "set-order")) }).get? s.heap.objs.size = some { cls := .type "set", dict := none, data := .set #[] 0 (.fresh 0 0 (!w.params.followText "set-order")) } := Heap.get?_push_size _ rfl
      have hT : Shared.TypeIs { s with heap := s.heap.push { cls := .type "set", dict := none, data := .set #[] 0 (.fresh 0 0 (!w.params.followText "set-order")) } } (.ref s.heap.objs.size) "set" := ⟨_, hS, rfl⟩
      have hli := F.called_set.init.lookup
      have hbi := F.called_set.init.bind (.ref s.heap.objs.size)
      repeat (any_goals (first | assumption | wp_step))

      refine codeAny_mono (codeAny_call_builtin (R := wants (fun r s₂ => r = .none ∧ ∃ h' tk c, s₂ = { s with heap := h', toks := tk } ∧ SetR w h' s.heap.objs.size (fun j => decide (j ∈ ns)) c ∧ c ≤ ns.length ∧
          (∀ b o, s.heap.get? b = some o → h'.get? b = some o)) E) F.called_set.init.plain F.entry_set_init (check_set_init_1 hT ?_)) fun r₂ s₂ hr₂ => ?_
      · obtain ⟨ol, hol, hcl, nl, hdl⟩ := hl
        obtain ⟨ocls, odict, odata, oslots⟩ := ol
        simp only at hcl hdl
        subst hcl; subst hdl
        have hol' : (s.heap.push { cls := .type "set", dict := none, data := .set #[] 0 (.fresh 0 0 (!w.params.followText "set-order")) }).get? l = some { cls := .type "tuple", dict := odict, data := .seq items nl, slots := oslots } := Heap.get?_push_of_some _ hol
        have hsls := F.sub_tuple_set
        have hslf := F.sub_tuple_frozenset
        have hne : (Value.type "tuple" == Value.type "dict") = false := by decide
        have hl1 : (s.heap.push { cls := .type "set", dict := none, data := .set #[] 0 (.fresh 0 0 (!w.params.followText "set-order")) }).IsTuple l items := ⟨_, hol', rfl, nl, rfl⟩
        unfold Builtin.«set.__init__» noKeywords Builtin.Frozenset.updateFrom
        generalize hPI : pyIter = PI
        wp_walk
        subst hPI

        refine wpAny_pyIter_tuple hl1 ?_
        refine wpAny_bind (wpAny_runValue ?_)
        have hlS : l < s.heap.objs.size := Heap.lt_size hol
        have hh3 : A.in1.in1.in1.handled = none := by simp [hh]
        have hz1 : (s.heap.push { cls := .type "set", dict := none, data := .set #[] 0 (.fresh 0 0 (!w.params.followText "set-order")) }).objs.size = s.heap.objs.size + 1 := Heap.size_push ..
        have hneI : l ≠ (s.heap.push { cls := .type "set", dict := none, data := .set #[] 0 (.fresh 0 0 (!w.params.followText "set-order")) }).objs.size := by
          rw [Heap.size_push]; exact Nat.ne_of_lt (Nat.lt_succ_of_lt hlS)
        have hSf : s.heap.objs.size ∉ [(s.heap.push { cls := .type "set", dict := none, data := .set #[] 0 (.fresh 0 0 (!w.params.followText "set-order")) }).objs.size, l] := by
          rw [Heap.size_push]; simp only [List.mem_cons, List.mem_singleton, List.not_mem_nil, or_false, not_or]
          exact ⟨Nat.ne_of_lt (Nat.lt_succ_self _), Nat.ne_of_gt hlS⟩
        have hval : ∀ (i : Nat) (v : Value), items[i]? = some v → ∃ k t, ns[i]? = some k ∧ v = .int k t := fun i v hv => by
          have hi : i < ns.length := by rw [← hisz]; exact (Array.getElem?_eq_some_iff.mp hv).1
          obtain ⟨t, e⟩ := PyProof.Rows.IntsAre.int_at hit i v (by rw [Array.getElem?_toList]; exact hv)
          refine ⟨ns[i], t, List.getElem?_eq_getElem hi, ?_⟩
          rw [e, List.getD_eq_getElem?_getD, List.getElem?_eq_getElem hi] <;> rfl
        refine set_update_ints ((Walks.tuple hh3 _ l hneI items).toS) s.heap.objs.size
          hSf ns hisz hb hval (items.size - 0) 0 _ (by omega) (Nat.zero_le _)
          ⟨⟨_, Heap.get?_push_size _ rfl, rfl, rfl⟩, (hl1.push _)⟩ ?hS0 ?hR
        case hS0 =>
          have hget : ((s.heap.push { cls := .type "set", dict := none, data := .set #[] 0 (.fresh 0 0 (!w.params.followText "set-order")) }).push { cls := .type "tuple_iterator", data := .fields #[.ref l, .int 0 0] }).get? s.heap.objs.size
              = some { cls := .type "set", dict := none, data := .set #[] 0 (.fresh 0 0 (!w.params.followText "set-order")) } := Heap.get?_push_of_some _ hS
          exact ⟨0, Nat.le_refl 0, setR_new_at hget⟩
        case hR =>
          intro s' c' hm hc' hS'
          obtain ⟨h', g2, d', tk', os'⟩ := s'
          have eg : g2 = s.gens := hm.gens
          have ed : d' = s.drawn := hm.drawn
          have eo : os' = s.os := hm.os
          subst eg; subst ed; subst eo
          show wpAny _ _ _ _ _ _
          refine wpAny_pure ?_
          show wpAny _ _ (ret Value.none) _ _ _
          rw [hisz] at hc'
          refine wpAny_pure ⟨rfl, h', tk', c', rfl, hS', hc', fun b o e => ?_⟩
          have hb0 : b < s.heap.objs.size := Heap.lt_size e
          have hb1 : b ≠ s.heap.objs.size := Nat.ne_of_lt hb0
          have hb2 : b ≠ (s.heap.push { cls := .type "set", dict := none, data := .set #[] 0 (.fresh 0 0 (!w.params.followText "set-order")) }).objs.size := by
            rw [Heap.size_push]; exact Nat.ne_of_lt (Nat.lt_succ_of_lt hb0)
          exact hm.heap b o (by simp only [List.mem_cons, List.mem_singleton, List.not_mem_nil, or_false, not_or]; exact ⟨hb1, hb2⟩) (Heap.get?_push_of_some _ (Heap.get?_push_of_some _ e))

      · cases r₂ with
        | error e => exact hr₂
        | ok fl₂ =>
          cases fl₂ with
          | ret r =>
            obtain ⟨rfl, h', tk, c', rfl, hS', hc', hk'⟩ := hr₂
            repeat (any_goals (first | assumption | wp_step))
            exact h _ _ _ hS' hc' hk'
          | _ => exact hr₂.elim
    | _ => exact hr.elim

end
end Ev

end
section
set_option autoImplicit false
set_option linter.all false
set_option maxRecDepth 100000
/-! A def that is called while an error is handled; one that is asked about the error that a clause has caught: return [isinstance(e, A), ..]. -/
namespace Ev
open PySem PySem.Spec L2 L2H PyProof.Rows
/-- what a def promises while the error p is handled -/
structure HotFn (P : Program) (w : World) (K : PySem.W.Frag) (mg : Str → Option Value) (base : Heap) (Y : CXT) (p : Addr × Obj) (k : Nat) (f : Addr) (fd : FuncData) (ps : List Str) (sp : Sp) : Prop where
  ar : ∀ vs H Q E, sp vs H Q E → vs.length = ps.length
  go : ∀ (A : Around) (up : List PySem.Env) (s : Shared) (H : Hp) (gs : Args) (us : List Value) (vs : List V) (Q : VK) (E : XK),
    RoomH k A → Hot1 A p → PinOk up H s p → Env0 P w K mg base A up s H → BindsTo s fd gs (ps.zip us) → Vals vs us → sp vs H Q E →
    codeAny (model P w) A (.call (.ref f) gs) (CR Y up P w H s Q E) s
section
variable {P : Program} {w : World} {K : PySem.W.Frag} {mg : Str → Option Value} {base : Heap} {Y : CXT} {p : Addr × Obj} {k : Nat} {f : Addr} {fd : FuncData} {ps N : List Str} {sp : Sp} {y qual : Str} {params : Arguments} {body : List Stmt} {scope : Scope} {dvs : List V} {kws : List (Str × V)}
theorem hotFn_of (D : L2.FunD K y qual params body scope dvs kws f fd) (S : FnScope N ps scope) (ar : ∀ vs H Q E, sp vs H Q E → vs.length = ps.length)
    (hbd : ∀ (cdv : Value) (A : Around) (up : List PySem.Env) (s : Shared) (H : Hp) (vs : List V) (Q : VK) (E : XK), Hot1 A p → sp vs H Q E →
      ∃ t, PSs (cxH Y P w K mg base N qual scope f cdv A up s H E p) body t ∧ t { nx := fun _ H2 => Q .non H2, rt := Q } (L2.start N vs) H) :
    HotFn P w K mg base Y p (k + 1) f fd ps sp := by
  obtain ⟨oc, od, dV, kV, doc, pm, an, cdv, ct, osl, rfl, lk, hcd, _, _⟩ := D.ex
  refine ⟨ar, fun A up s H gs us vs Q E rm ht pk z0 hbi rv hs => ?_⟩
  have hl := ar _ _ _ _ hs
  have KH : K.In s.heap := z0.mod.kin.keeps fun b o z => (z0.bs b o z).1
  have NL : s.heap.NoLimit := z0.mod.nolimit.keeps fun b o z => (z0.bs b o z).1
  have hk : ∀ q ∈ ps.zip us, scope.names.lookup q.1 = some .local ∨ (scope.names.lookup q.1 = some .cell ∧ ((cellsFrom (s.heap.objs.size + 1) scope.names []).lookup q.1).isSome = true) := by
    rintro ⟨n, v⟩ hq
    rcases S.par n (List.of_mem_zip hq).1 with g | g
    · exact .inl g
    · exact .inr ⟨g, PySem.W.cellsFrom_some _ _ _ (.inl g)⟩
  refine codeAny_call_function rm.depth (KH _ _ lk) rfl S.co S.gen rfl (PySem.W.codeRec_of KH hcd) (hbi _ _ _ _ ?_)
  refine wpAny_newFunctionEnv_cells S.kind hk fun env ee s1 hx => ?_
  cases ee
  refine ⟨NL.keeps hx.toInCall.keep, codeAny_func ?_⟩
  obtain ⟨t, h1, h2⟩ := hbd cdv A up s H vs Q E ht hs
  have J0 := inv_startH (CX := Y) (P := P) (w := w) (E := E) S pk z0 hl rv hx
  refine wpAny_mono (h1.run [] s1 (L2.start N vs) H _ J0 h2) (fun fl s2 hend => ?_) fun _ _ z => z
  cases fl with
  | ret u =>
    obtain ⟨v, _, H2, J, r, q⟩ := hend
    exact ⟨v, H2, J.os, J.bare, J.base, J.hok, r, q⟩
  | next =>
    obtain ⟨_, H2, J, q⟩ := hend
    exact ⟨V.non, H2, J.os, J.bare, J.base, J.hok, rfl, q⟩
  | brk => obtain ⟨_, _, _, z⟩ := hend; exact z.elim
  | cont => obtain ⟨_, _, _, z⟩ := hend; exact z.elim
end
section
variable {X : Cx} {Y : CXT} {k : Nat} {f : Addr} {fd : FuncData} {ps : List Str} {sp : Sp} {E : L2.St → XK} {x : Str} {q pos : Pos} {e : Expr} {es : List Expr} {t : TA} {p : Addr × Obj}
/-- such a def is called -/
theorem pe_hot (F : HotFn X.prog X.w X.K X.mg X.base Y p k f fd ps sp) (rm : RoomH k X.A) (ht : Hot1 X.A p) (hp : p ∈ X.pn) (hg : Gl X x) (hm : X.mg x = some (.ref f)) (hk : PySem.W.keepIn X.K (.ref f) = true) (hb : Binds X.K fd ps []) (hx : ∀ σ, PassesAt Y X σ (E σ))
    (ha : PA X (e :: es) t) (hd : (x == ("__debug__" : Str)) = false) (he : starEach (e :: es) X.env = (false, eval e X.env) :: starEach es X.env) (hl : (backTo pos (starEach es X.env)).any (·.1) = false) :
    PE X (.Call (.Name x q) (e :: es) [] pos) (tCallS sp E t) := by
  refine ⟨fun pins s σ H Q I h => wpAny_Call_Name_kw (ld_glob I hg hm ?_ hd)⟩
  refine PySem.W.callWith_K (h₀ := X.base) I.ok.mod.kin hk (thn (ha.run pos pins s σ H _ I h) fun us s1 ⟨vs, H1, I1, r, h2⟩ => ⟨I1.kIn, ?_⟩) he hl
  have hlen : us.length = ps.length := by rw [← r.length]; exact F.ar _ _ _ _ h2
  have b := hb s1 us I1.kIn (by rw [List.append_nil]; exact hlen)
  rw [List.append_nil] at b
  have P1 := I1.pin p (List.mem_append_left _ hp)
  have pk : PinOk X.stack H1 s1 p := ⟨P1.1, P1.2.1, fun hm => (List.mem_cons.mp (I1.stkSub p.1 hm)).elim P1.2.2.1 P1.2.2.2.1, P1.2.2.2.2⟩
  refine wpAny_call (codeAny_mono (F.go X.A X.stack s1 H1 ⟨us, []⟩ us vs Q (E σ) rm ht pk I1.env0 b r h2) fun g s2 hq => ?_)
  cases g with
  | error z => exact hx σ pins H1 s1 z s2 I1 hq
  | ok fl =>
    cases fl with
    | ret u => exact I1.after hq
    | next => exact hq.elim
    | brk => exact hq.elim
    | cont => exact hq.elim
/-- isinstance of the error -/
theorem call_isP {D : Addr} (hp : p ∈ X.pn) (EC : L2.ExcC X.K D) (hc : p.2.cls = .ref D) (hn : p.2.dict = none) (hf : ∃ vs, p.2.data = .fields vs) : CallR X (.builtin "isinstance") (L2.rIsE X.K D p.1) := by
  intro pins s σ H xs us Q I r h
  obtain ⟨c, cv, b, rfl, hcv, z, q⟩ := h
  cases r with
  | cons r1 r2 =>
    cases r2 with
    | cons r3 r4 =>
      cases r4
      cases r1
      cases hcv _ r3
      have hg := (I.pin p (List.mem_append_left _ hp)).1
      obtain ⟨vs, hv⟩ := hf
      have J : PySem.W.InstAt s.heap p.1 p.2 D none := by
        obtain ⟨pa, oc, od, oda, osl⟩ := p
        dsimp only at hc hn hv hg ⊢
        subst hc hn hv
        exact ⟨hg, rfl, rfl, trivial⟩
      exact PySem.W.kia_one (PySem.W.handS_kitx_exc EC.hg EC.hk EC.hs EC.hd EC.ha EC.hn EC.ht EC.hm) I.kIn J z (fun w => nomatch w) fun tk => ⟨.bl b, H, I.kept (t' := tk) fun _ _ w => w, rfl, q⟩
end

def spFlg (a : Addr) (bs : List Bool) : Sp := fun vs H Q _ => vs = [V.ref a] ∧ ∀ q, H q = none → Q (.ref q) (upd H q (.lst (bs.map V.bl)))
end Ev

end
section
set_option autoImplicit false
set_option linter.all false
/-! Whether a term of the evaluator says what a piece of the text says. -/
namespace Ev
open PySem L2

structure Names where
  fn : List Str
  cn : List Str
  ex : List Str
  bl : List Str
  fl : List Str
  rp : Bool

def visB (sc : Scope) (x : Str) : Bool := match sc.names.lookup x with | some .local => true | some .cell => true | some .free => true | _ => false
def locB (sc : Scope) (x : Str) : Bool := match sc.names.lookup x with | some .local => true | some .cell => true | _ => false
def gloB (sc : Scope) (x : Str) : Bool := match sc.names.lookup x with | some .globalImplicit => true | _ => false
def okN (x : Str) : Bool := !(x == ("__debug__" : Str)) && !(x == ("__classdict__" : Str)) && !(x == ("__name__" : Str))
/-- x is the built-in s -/
def isBl (nm : Names) (sc : Scope) (x s : Str) : Bool := decide (x = s) && (gloB sc x && decide (x ∈ nm.bl))
def isGl (nm : List Str) (sc : Scope) (i : Nat) (x : Str) : Bool := okN x && (gloB sc x && decide (nm[i]? = some x))
def isVr (N : List Str) (sc : Scope) (i : Nat) (x : Str) : Bool := okN x && (visB sc x && decide (N[i]? = some x))
def isLc (N : List Str) (sc : Scope) (i : Nat) (x : Str) : Bool := locB sc x && decide (N[i]? = some x)

/-- built-ins of one argument, by name -/
def name1 : Op1 → Option Str
  | .len => some "len" | .all => some "all" | .any => some "any" | .sum => some "sum" | .abs => some "abs" | .int => some "int"
  | .list => some "list" | .tuple => some "tuple" | .sorted => some "sorted" | .min => some "min" | .max => some "max"
  | _ => none
def name2 : Op2 → Option Str
  | .min2 => some "min" | .max2 => some "max"
  | _ => none
def noStar : Expr → Bool
  | .Starred _ _ => false
  | _ => true

/-! a name, or names in a pair of round brackets -/
mutual
def chkT (N : List Str) (sc : Scope) : Tgt → Expr → Bool
  | .nm i, a => match a with
    | .Name x _ => isLc N sc i x
    | _ => false
  | .tup ts, a => match a with
    | .Tuple as _ _ => chkTs N sc ts as
    | _ => false
def chkTs (N : List Str) (sc : Scope) : List Tgt → List Expr → Bool
  | [], [] => true
  | t :: ts, a :: as => chkT N sc t a && chkTs N sc ts as
  | _, _ => false
end
def ownOf (N : List Str) (t : Tgt) : List (Str × Nat) := (tslots t).map fun i => (N.getD i "", i)

section
variable (nm : Names) (N : List Str) (chk : Scope → E → Expr → Bool)
def chkL (sc : Scope) : List E → List Expr → Bool
  | [], [] => true
  | .star e :: es, a :: as => (match a with | .Starred b _ => chk sc e b | _ => false) && chkL sc es as
  | e :: es, a :: as => noStar a && (chk sc e a && chkL sc es as)
  | _, _ => false
def chkA (sc : Scope) : List E → List Expr → Bool
  | [], [] => true
  | .lend i :: es, a :: as => (match a with | .Name x _ => isVr N sc i x | _ => false) && chkA sc es as
  | e :: es, a :: as => noStar a && (chk sc e a && chkA sc es as)
  | _, _ => false
def chkI (sc : Scope) : I → Expr → Bool
  | .scr i, a => match a with
    | .Name x _ => isVr N sc i x
    | _ => false
  | .range e, a => match a with
    | .Call (.Name f _) [b] [] _ => isBl nm sc f "range" && (noStar b && chk sc e b)
    | _ => false
  | .range2 e g, a => match a with
    | .Call (.Name f _) [b, c] [] _ => isBl nm sc f "range" && (noStar b && (noStar c && (chk sc e b && chk sc g c)))
    | _ => false
  | .range3 e g c, a => match a with
    | .Call (.Name f _) [b, d, .Constant (.int c') _ _] [] _ => isBl nm sc f "range" && (decide (c = c') && (noStar b && (noStar d && (chk sc e b && chk sc g d))))
    | _ => false
  | .rangeE e g k, a => match a with
    | .Call (.Name f _) [b, c, d] [] _ => isBl nm sc f "range" && (noStar b && (noStar c && (noStar d && (chk sc e b && (chk sc g c && chk sc k d)))))
    | _ => false
  | .zip e g, a => match a with
    | .Call (.Name f _) [b, c] [] _ => isBl nm sc f "zip" && (noStar b && (noStar c && (chk sc e b && chk sc g c)))
    | _ => false
  | .enum e, a => match a with
    | .Call (.Name f _) [b] [] _ => isBl nm sc f "enumerate" && (noStar b && chk sc e b)
    | _ => false
  | .seq e, a => noStar a && chk sc e a
  | _, _ => false
def chkO (sc : Scope) : Option E → Option Expr → Bool
  | none, none => true
  | some e, some a => noStar a && chk sc e a
  | _, _ => false
/-- the scope of a comprehension's block, as it runs -/
abbrev blkSc (scope sc : Scope) : Scope := relS scope sc
def isTup : Tgt → Bool
  | .tup _ => true
  | _ => false
def needsTup : I → Bool
  | .zip _ _ => true
  | .enum _ => true
  | .items _ => true
  | _ => false
def plainIt : Expr → Bool
  | .Set _ _ _ => false
  | _ => true
def chkFs (fn : List Str) (sc : Scope) : List Nat → List Expr → Bool
  | [], [] => true
  | f :: fs, .Name x _ :: r => isGl fn sc f x && chkFs fn sc fs r
  | _, _ => false
def chkE1 (sc : Scope) (e : E) (a : Expr) : Bool :=
  match e with
  | .none => (match a with | .Constant .none _ _ => true | _ => false)
  | .bl b => (match a with | .Constant (.bool c) _ _ => b == c | _ => false)
  | .int i => (match a with | .Constant (.int j) _ _ => decide (i = j) | _ => false)
  | .str s => (match a with | .Constant (.str t) _ _ => decide (s = t) | _ => false)
  | .var i => (match a with | .Name x _ => isVr N sc i x | _ => false)
  | .glb i => (match a with | .Name x _ => isGl nm.cn sc i x | _ => false)
  | .tup es => (match a with | .Tuple as _ _ => chkL chk sc es as | _ => false)
  | .lst es => (match a with | .List as _ => chkL chk sc es as | _ => false)
  | .op1 (.isT t) x => (match a with
    | .Call (.Name f _) [y, .Name ty _] [] _ => isBl nm sc f "isinstance" && (isBl nm sc ty (tyName t) && (noStar y && chk sc x y))
    | _ => false)
  | .op1 .neg x => (match a with | .UnaryOp .USub y _ => chk sc x y | _ => false)
  | .op1 .listRev x => (match a with
    | .Call (.Name f _) [.Call (.Name g _) [y] [] _] [] _ => isBl nm sc f "list" && (isBl nm sc g "reversed" && (noStar y && chk sc x y))
    | _ => false)
  | .op1 .sortedSet x => (match a with
    | .Call (.Name f _) [.Call (.Name g _) [y] [] _] [] _ => isBl nm sc f "sorted" && (isBl nm sc g "set" && (noStar y && chk sc x y))
    | _ => false)
  | .op1 .listRange x => (match a with
    | .Call (.Name f _) [.Call (.Name g _) [y] [] _] [] _ => isBl nm sc f "list" && (isBl nm sc g "range" && (noStar y && chk sc x y))
    | _ => false)
  | .op1 .repr x => (match a with
    | .Call (.Name f _) [y] [] _ => nm.rp && (isBl nm sc f "repr" && (noStar y && chk sc x y))
    | _ => false)
  | .op1 .rev x => (match a with
    | .Subscript y (.Slice none none (some (.UnaryOp .USub (.Constant (.int j) _ _) _)) _) _ => decide (j = 1) && chk sc x y
    | _ => false)
  | .op1 o x => (match a with
    | .Call (.Name f _) [y] [] _ => (match name1 o with | some s => isBl nm sc f s | none => false) && (noStar y && chk sc x y)
    | _ => false)
  | .op2 .idx x y => (match a with
    | .Subscript b c _ => (match c with | .Slice _ _ _ _ => false | _ => true) && (chk sc x b && chk sc y c)
    | _ => false)
  | .op2 .listRange2 x y => (match a with
    | .Call (.Name f _) [.Call (.Name g _) [b, c] [] _] [] _ => isBl nm sc f "list" && (isBl nm sc g "range" && (noStar b && (noStar c && (chk sc x b && chk sc y c))))
    | _ => false)
  | .op2 o x y => (match a with
    | .BinOp b op c _ => decide (opOf o = some op) && (chk sc x b && chk sc y c)
    | .Compare b [op] [c] _ => decide (cmpOf o = some op) && (plainIt c && (chk sc x b && chk sc y c))
    | .Call (.Name f _) [b, c] [] _ => (match name2 o with | some s => isBl nm sc f s | none => false) && (noStar b && (noStar c && (chk sc x b && chk sc y c)))
    | _ => false)
  | .not x => (match a with | .UnaryOp .Not y _ => chk sc x y | _ => false)
  | .and x y => (match a with | .BoolOp .And (b :: c :: r) p => chk sc x b && chk sc y (.BoolOp .And (c :: r) p) | _ => false)
  | .or x y => (match a with | .BoolOp .Or (b :: c :: r) p => chk sc x b && chk sc y (.BoolOp .Or (c :: r) p) | _ => false)
  | .ite c x y => (match a with | .IfExp t b d _ => chk sc c t && (chk sc x b && chk sc y d) | _ => false)
  | .chain o1 o2 x y z => (match a with
    | .Compare b [p1, p2] [c, d] _ => decide (cmpOf o1 = some p1) && (decide (cmpOf o2 = some p2) && (plainIt d && (chk sc x b && (chk sc y c && chk sc z d))))
    | _ => false)
  | .slice x lo hi => (match a with
    | .Subscript b (.Slice l h none _) _ => chk sc x b && (chkO chk sc lo l && chkO chk sc hi h)
    | _ => false)
  | .rng3 t x y z => (match a with
    | .Call (.Name f _) [.Call (.Name g _) [b, c, d] [] _] [] _ => isBl nm sc f (if t then "tuple" else "list") && (isBl nm sc g "range" && (noStar b && (noStar c && (noStar d && (chk sc x b && (chk sc y c && chk sc z d))))))
    | .Call (.Name f _) [.Call (.Name g _) [c] [] _] [] _ => (match x, z with
      | .int i, .int j => decide (t = true) && (decide (i = 0) && (decide (j = 1) && (isBl nm sc f "tuple" && (isBl nm sc g "range" && (noStar c && chk sc y c)))))
      | _, _ => false)
    | _ => false)
  | .call f es => (match a with
    | .Call (.Name g _) (b :: as) [] _ => isGl nm.fn sc f g && chkA N chk sc es (b :: as)
    | .Call (.Name g _) [] [] _ => isGl nm.fn sc f g && es.isEmpty
    | _ => false)
  | .callS f x => (match a with
    | .Call (.Name g _) [.Starred b _] [] _ => isGl nm.fn sc f g && chk sc x b
    | _ => false)
  | .sel fs ix es => (match a with
    | .Call (.Subscript (.List els _) c _) (b :: as) [] _ => chkFs nm.fn sc fs els && ((match c with | .Slice _ _ _ _ => false | _ => true) && (decide (fs.length ≤ 1000) && (chk sc ix c && chkA N chk sc es (b :: as))))
    | _ => false)
  | .pop i => (match a with
    | .Call (.Attribute (.Name x _) m ap) [] [] p => decide (m = "pop") && (isVr N sc i x && (ap.endLine == p.line))
    | _ => false)
  | .lenScr i => (match a with
    | .Call (.Name f _) [.Name x _] [] _ => isBl nm sc f "len" && isVr N sc i x
    | _ => false)
  | .ixScr i y => (match a with
    | .Subscript (.Name x _) c _ => (match c with | .Slice _ _ _ _ => false | _ => true) && (isVr N sc i x && chk sc y c)
    | _ => false)
  | .move i => (match a with | .Name x _ => isVr N sc i x | _ => false)
  | .snap x => chk sc x a
  | .comp elt t it c => (match a with
    | .ListComp b [⟨tg, i, ifs, k⟩] scope _ => decide (k = 0) && (blkC N sc scope (ownOf N t) && (plainIt i && (chkI nm N chk sc it i && ((!needsTup it || isTup t) && (chkT N scope t tg &&
        (decide ((tslots t).Nodup) && (chk (blkSc scope sc) elt b && (match c, ifs with
          | none, [] => true
          | some c, [d] => chk (blkSc scope sc) c d
          | _, _ => false))))))))
    | _ => false)
  | .sortedKeys elt t it c => (match a with
    | .Call (.Name f _) [.DictComp b (.Constant (.bool _) _ _) [⟨tg, i, ifs, k⟩] scope _] [] _ => isBl nm sc f "sorted" && (decide (k = 0) && (blkC N sc scope (ownOf N t) && (plainIt i && (chkI nm N chk sc it i && ((!needsTup it || isTup t) && (chkT N scope t tg &&
        (decide ((tslots t).Nodup) && (chk (blkSc scope sc) elt b && (match c, ifs with
          | none, [] => true
          | some c, [d] => chk (blkSc scope sc) c d
          | _, _ => false)))))))))
    | _ => false)
  | _ => false
end

def chkE (nm : Names) (N : List Str) : Nat → Scope → E → Expr → Bool
  | 0, _, _, _ => false
  | n + 1, sc, e, a => match a with
    | .BoolOp _ [v] _ => chkE nm N n sc e v
    | _ => chkE1 nm N (chkE nm N n) sc e a

/-! statements -/
def swB (sc : Scope) (tg value : Expr) : Bool := match tg, value with
  | .Name t pos, .ListComp _ _ s p => decide (sc.names.lookup t = some .local) && (pos.line == p.line) && !(s.names.any (fun (n, k) => n == t && (k == .local || k == .cell)))
  | _, _ => false
def okV : Expr → Bool
  | .SetComp _ _ _ _ => false
  | .DictComp _ _ _ _ _ => false
  | _ => true
def noComp : Expr → Bool
  | .ListComp _ _ _ _ => false
  | .SetComp _ _ _ _ => false
  | .DictComp _ _ _ _ _ => false
  | _ => true
def nameAt (sc : Scope) (line : Nat) : Expr → Option Str
  | .Name id pos => if sc.names.lookup id == some .local && pos.line == line then some id else none
  | _ => none
def swN (sc : Scope) (tg value : Expr) : Bool := match tg, value with
  | .Tuple ts _ _, .Tuple vs _ _ => !(ts.length == 2 || ts.length == 3) || (vs.length != ts.length || ((ts.filterMap (nameAt sc ((ts.head?.map (·.pos.line)).getD 0))).length != ts.length || vs.all (foldedForSure 8)))
  | .List _ _, .Tuple _ _ _ => false
  | _, _ => true
def parB (N : List Str) (sc : Scope) (is : List Nat) (ts vs : List Expr) : Bool := match is, ts, vs with
  | [i, j], [.Name x px, .Name y py], [a, b] => isLc N sc i x && isLc N sc j y && decide (i ≠ j) && decide (sc.names.lookup x = some .local) && decide (sc.names.lookup y = some .local) && (py.line == px.line) && decide (x ≠ y) &&
      !([a, b].all (foldedForSure 8)) && !([a, b].all (constantsAlone 8))
  | [i, j, l], [.Name x px, .Name y py, .Name z pz], [a, b, c] => isLc N sc i x && isLc N sc j y && isLc N sc l z && decide (i ≠ j) && decide (i ≠ l) && decide (j ≠ l) && decide (sc.names.lookup x = some .local) && decide (sc.names.lookup y = some .local) &&
      decide (sc.names.lookup z = some .local) && (py.line == px.line) && (pz.line == px.line) && decide (x ≠ y) && decide (x ≠ z) && decide (y ≠ z) && !([a, b, c].all (foldedForSure 8)) && !([a, b, c].all (constantsAlone 8))
  | _, _, _ => false
def augOp : Op2 → Option Operator
  | .add => some .Add
  | .sub => some .Sub
  | _ => none
def chkPP (chk : Scope → E → Expr → Bool) (sc : Scope) : List E → List Expr → Bool
  | [], [] => true
  | e :: es, a :: as => noStar a && (chk sc e a && chkPP chk sc es as)
  | _, _ => false
def chkAt : E → Expr → Bool
  | .none, .Constant .none _ _ => true
  | .bl b, .Constant (.bool c) _ _ => b == c
  | .int i, .Constant (.int j) _ _ => decide (i = j)
  | .str s, .Constant (.str t) _ _ => decide (s = t)
  | _, _ => false
def chkAts : List E → List Expr → Bool
  | [], [] => true
  | e :: es, a :: as => chkAt e a && chkAts es as
  | _, _ => false
def chkC : E → Expr → Bool
  | .tup es, .Tuple as _ _ => decide (es.length ≤ 1000) && chkAts es as
  | .tup _, _ => false
  | e, a => chkAt e a
/-- except X as e: return f(e) -/
def chkHA (nm : Names) (N : List Str) (sc : Scope) : List (Nat × Option Nat × List S) → List ExceptHandler → Bool
  | [(k, some i, [.ret (.flg g j)])], [.ExceptHandler (some (.Name x _)) (some n) [.Return (some (.Call (.Name f _) [.Name m _] [] _)) _] _] =>
    isGl nm.ex sc k x && (isGl nm.fl sc g f && (decide (m = n) && (decide (i = j) && (okN n && (decide (N[i]? = some n) && decide (sc.names.lookup n = some .local))))))
  | _, _ => false
def chkH (ex : List Str) (sc : Scope) : List (Nat × Option Nat × List S) → List ExceptHandler → Bool
  | [], [] => true
  | (k, none, [.ret e]) :: r, .ExceptHandler (some (.Name x _)) none [.Return (some a) _] _ :: r' => isGl ex sc k x && (chkC e a && chkH ex sc r r')
  | _, _ => false
section
variable (nm : Names) (N : List Str) (chk : Scope → E → Expr → Bool) (blk : List S → List Stmt → Bool)
def chkS1 (sc : Scope) (s : S) (st : Stmt) : Bool :=
  match s with
  | .asg t e => (match st with
    | .Assign [tg] a _ => chkT N sc t tg && (swN sc tg a && (okV a && chk sc e a))
    | _ => false)
  | .asgO i e => (match st with
    | .Assign [tg] a _ => chkT N sc (.nm i) tg && (swN sc tg a && (okV a && chk sc e a))
    | _ => false)
  | .par is _ es => (match st with
    | .Assign [.Tuple ts _ _] (.Tuple as _ _) _ => parB N sc is ts as && chkPP chk sc es as
    | _ => false)
  | .setIx i ix e => (match st with
    | .Assign [.Subscript (.Name x _) c _] a _ => (match c with | .Slice _ _ _ _ => false | _ => true) && (isVr N sc i x && (chk sc ix c && (noComp a && chk sc e a)))
    | _ => false)
  | .aug i o e => (match st with
    | .AugAssign (.Name x _) op a _ => isLc N sc i x && (decide (augOp o = some op) && chk sc e a)
    | _ => false)
  | .app i e => (match st with
    | .Expr (.Call (.Attribute (.Name x _) m ap) [a] [] cp) _ => decide (m = "append") && (isVr N sc i x && (noStar a && ((ap.endLine == cp.line) && chk sc e a)))
    | _ => false)
  | .expr e => (match st with
    | .Expr a _ => noComp a && chk sc e a
    | _ => false)
  | .ifS c a b => (match st with
    | .If t x y _ => chk sc c t && (blk a x && blk b y)
    | _ => false)
  | .forS t it b => (match st with
    | .For tg i body [] _ => chkI nm N chk sc it i && ((!needsTup it || isTup t) && (chkT N sc t tg && (plainIt i && blk b body)))
    | _ => false)
  | .whileS c b => (match st with
    | .While t body [] _ => chk sc c t && blk b body
    | _ => false)
  | .ret e => (match st with
    | .Return (some a) _ => chk sc e a
    | .Return none _ => (match e with | .none => true | _ => false)
    | _ => false)
  | .retO e => (match st with
    | .Return (some a) _ => chk sc e a
    | _ => false)
  | .brk => (match st with | .Break _ => true | _ => false)
  | .cont => (match st with | .Continue _ => true | _ => false)
  | .pass => (match st with | .Pass _ => true | _ => false)
  | .raise c => (match st with
    | .Raise (some (.Call (.Name x _) [.Constant (.str _) _ _] [] _)) none _ => isGl nm.ex sc c x
    | _ => false)
  | .tryS b hs => (match st with
    | .Try body (h :: r) [] [] _ => blk b body && (chkH nm.ex sc hs (h :: r) || chkHA nm N sc hs (h :: r))
    | _ => false)
  | _ => false
def chkSs (one : S → Stmt → Bool) : List S → List Stmt → Bool
  | [], [] => true
  | .frz _ :: ss, sts => chkSs one ss sts
  | s :: ss, st :: sts => one s st && chkSs one ss sts
  | _, _ => false
end
def chkB (nm : Names) (N : List Str) (sc : Scope) : Nat → List S → List Stmt → Bool
  | 0, _, _ => false
  | n + 1, ss, sts => chkSs (chkS1 nm N (chkE nm N 60) (chkB nm N sc n) sc) ss sts
end Ev

end
section
set_option autoImplicit false
set_option linter.all false
set_option maxRecDepth 100000
/-! Expressions: the machine does what the evaluator says. -/
namespace Ev
open PySem L2 PyProof.Rows

/-- what a def promises: run by n -/
def spF (K : PySem.W.Frag) (cA : Nat → Addr) (T : Tab) (n : Nat) (f : Nat) : Sp := fun vs H Q E => ∃ (F : Hp) (Af : Nat → List Addr) (os : List O) (d : FDef), T.fs[f]? = some d ∧ vs.length = d.np ∧
  SR K F H (vs.map some) (os.map some) Af ∧ (∀ j, os.length ≤ j → Af j = []) ∧ PG K cA (fun cls x _ H => E cls x H) (rO K) (vs.map some) F H Af (callF T (exN T n) f os) Q

section
variable (nm : Names) (T : Tab) (cA fA : Nat → Addr)
/-- what stands at a place of the text -/
structure At (n : Nat) (W : WX) (X : Cx) : Prop where
  nd : X.N.Nodup
  calm : X.calm = true
  room : Room n X.A
  tk : L2N.Takes X W
  blt : ∀ x ∈ nm.bl, X.mg x = none
  cst : ∀ (i : Nat) (x : Str), nm.cn[i]? = some x → ∃ (u : Value) (v : V) (d : D), X.mg x = some u ∧ RelV v u ∧ T.cs[i]? = some d ∧ Rep X.K (fun _ => none) v d
  fns : ∀ j, j < n → ∀ (i : Nat) (x : Str), nm.fn[i]? = some x → ∃ fd ps, X.mg x = some (.ref (fA i)) ∧ PySem.W.keepIn X.K (.ref (fA i)) = true ∧ Binds X.K fd ps [] ∧
    FnOk X.prog X.w X.K X.mg X.base (L2N.CX X.prog X.w) (j + 1) (fA i) fd ps (spF X.K cA T j i)
  wσ : ∀ c d σ σ' H, W c d σ H → W c d σ' H
  exn : ∀ (c : Nat) (x : Str), nm.ex[c]? = some x → X.mg x = some (.ref (cA c)) ∧ PySem.W.excIn X.K (cA c) [.type "ValueError", .type "Exception", .type "BaseException", .type "object"] "ValueError.__new__" = true ∧ PySem.W.keepIn X.K (.ref (cA c)) = true ∧ L2.Raises X (.ref (cA c))
  exm : ∀ c k, c < T.nx → k < T.nx → PySem.W.exmOne X.K (.ref (cA c)) (.ref (cA k)) = some (T.sub c k)
  flg : ∀ (g : Nat) (x : Str), nm.fl[g]? = some x → ∃ f fd ps, X.mg x = some (.ref f) ∧ PySem.W.keepIn X.K (.ref f) = true ∧ Binds X.K fd ps [] ∧ ∀ (c : Nat) (p : Addr × Obj), c < T.nx → p.2.cls = .ref (cA c) → p.2.dict = none → (∃ vs, p.2.data = .fields vs) →
    HotFn X.prog X.w X.K X.mg X.base (L2N.CX X.prog X.w) p 1 f fd ps (spFlg p.1 (T.fl g c))
  gd : nm.rp = true → X.A.guards = some []
end

section
variable {nm : Names} {T : Tab} {cA fA : Nat → Addr} {n : Nat} {W : WX} {X : Cx}
theorem At.hu (h : At nm T cA fA n W X) : X.A.units + 64 < cLine := h.room.units
theorem At.down {k : Nat} (h : At nm T cA fA n W X) (hk : k ≤ n) : At nm T cA fA k W X :=
  ⟨h.nd, h.calm, h.room.mono hk, h.tk, h.blt, h.cst, fun j hj => h.fns j (Nat.lt_of_lt_of_le hj hk), h.wσ, h.exn, h.exm, h.flg, h.gd⟩

theorem At.tr (h : At nm T cA fA n W X) {W' : WX} {pn : List (Addr × Obj)} {xe : Value → Shared → Prop} (tk : L2N.Takes (X.tr pn xe) W') (ww : ∀ c d σ σ' H, W' c d σ H → W' c d σ' H) : At nm T cA fA n W' (X.tr pn xe) :=
  ⟨h.nd, h.calm, h.room, tk, h.blt, h.cst, h.fns, ww, h.exn, h.exm, h.flg, h.gd⟩

/-! names -/
theorem okN_spec {x : Str} (h : okN x = true) : (x == ("__debug__" : Str)) = false ∧ (x == ("__classdict__" : Str)) = false ∧ x ≠ ("__name__" : Str) := by
  unfold okN at h
  simp only [Bool.and_eq_true, Bool.not_eq_true'] at h
  exact ⟨h.1.1, h.1.2, fun e => by rw [e] at h; simp at h⟩
theorem vis_spec {sc : Scope} {x : Str} (h : visB sc x = true) : Vis sc x := by
  unfold visB at h
  split at h
  · exact .inl ‹_›
  · exact .inr (.inl ‹_›)
  · exact .inr (.inr ‹_›)
  · cases h
theorem loc_spec {sc : Scope} {x : Str} (h : locB sc x = true) : Loc sc x := by
  unfold locB at h
  split at h
  · exact .inl ‹_›
  · exact .inr ‹_›
  · cases h
theorem glo_spec {x : Str} (h : gloB X.env.scope x = true) : Gl X x := by
  unfold gloB at h
  split at h
  · rename_i e; exact e
  · cases h
theorem isBl_spec {x s : Str} (h : isBl nm X.env.scope x s = true) : x = s ∧ Gl X x ∧ x ∈ nm.bl := by
  unfold isBl at h
  simp only [Bool.and_eq_true, decide_eq_true_eq] at h
  exact ⟨h.1, glo_spec h.2.1, h.2.2⟩
theorem isVr_spec {i : Nat} {x : Str} (h : isVr X.N X.env.scope i x = true) : X.N[i]? = some x ∧ Vis X.env.scope x ∧ (x == ("__debug__" : Str)) = false ∧ (x == ("__classdict__" : Str)) = false := by
  unfold isVr at h
  simp only [Bool.and_eq_true, decide_eq_true_eq] at h
  exact ⟨h.2.2, vis_spec h.2.1, (okN_spec h.1).1, (okN_spec h.1).2.1⟩
theorem isGl_spec {l : List Str} {i : Nat} {x : Str} (h : isGl l X.env.scope i x = true) : l[i]? = some x ∧ Gl X x ∧ (x == ("__debug__" : Str)) = false := by
  unfold isGl at h
  simp only [Bool.and_eq_true, decide_eq_true_eq] at h
  exact ⟨h.2.2, glo_spec h.2.1, (okN_spec h.1).1⟩
theorem star1 {e : Expr} (h : noStar e = true) (es : List Expr) (env : PySem.Env) : starEach (e :: es) env = (false, eval e env) :: starEach es env := by
  cases e <;> first | rfl | cases h

/-! values that stand -/
abbrev TO (X : Cx) (cA : Nat → Addr) (W : WX) (r : Env → Res (O × Env)) : TE := TG X.K cA W (rO X.K) r
abbrev TD (X : Cx) (cA : Nat → Addr) (W : WX) (r : Env → Res (D × Env)) : TE := TG X.K cA W (rD X.K) r
abbrev TT' (X : Cx) (cA : Nat → Addr) (W : WX) (r : Env → Res (Bool × Env)) : TT := TG X.K cA W rB r

section
variable {ev : E → Env → Res (O × Env)} {exs : List S → Env → Res (Fl × Env)}
theorem _root_.L2.PE.toD {e : E} {a : Expr} (h : PE X a (TO X cA W (ev e))) : PE X a (TD X cA W (evD ev e)) := h.mono fun _ _ _ q => TG.freeze q
theorem e_con {d : D} {v : V} {a : Expr} (h : PE X a (tC v)) (r : ∀ F, Rep X.K F v d) : PE X a (TO X cA W fun env => .ok (.val d, env)) :=
  h.mono fun σ H Q ⟨F, Af, env, s, p⟩ => p.nowV s (r F)
theorem e_var (hX : At nm T cA fA n W X) {i : Nat} {x : Str} {pos : Pos} (h : isVr X.N X.env.scope i x = true) : PE X (.Name x pos) (TO X cA W (stepE T ev exs (.var i))) := by
  obtain ⟨h1, h2, h3, h4⟩ := isVr_spec h
  refine (pe_var h1 h2 h3 h4).mono fun σ H Q ⟨F, Af, env, s, p⟩ => ?_
  rw [stepE_var] at p
  split at p
  · rename_i d e
    obtain ⟨v, e1, r⟩ := s.rep e
    exact ⟨v, e1, p.nowV s r⟩
  · rename_i c e
    obtain ⟨v, e1, r⟩ := s.at_ i _ (join_some e)
    cases r
  · exact p.elim
theorem e_glb (hX : At nm T cA fA n W X) {i : Nat} {x : Str} {pos : Pos} (h : isGl nm.cn X.env.scope i x = true) : PE X (.Name x pos) (TO X cA W (stepE T ev exs (.glb i))) := by
  obtain ⟨h1, h2, h3⟩ := isGl_spec h
  obtain ⟨u, v, d, m1, m2, m3, m4⟩ := hX.cst i x h1
  refine (pe_glob h2 m1 m2 h3).mono fun σ H Q ⟨F, Af, env, s, p⟩ => ?_
  rw [stepE_glb, m3] at p
  exact p.nowV s (m4.mono fun a o e => by cases e)
theorem e_move (hX : At nm T cA fA n W X) {i : Nat} {x : Str} {pos : Pos} (h : isVr X.N X.env.scope i x = true) : PE X (.Name x pos) (TO X cA W (stepE T ev exs (.move i))) := by
  obtain ⟨h1, h2, h3, h4⟩ := isVr_spec h
  refine (pe_var h1 h2 h3 h4).mono fun σ H Q ⟨F, Af, env, s, p⟩ => ?_
  rw [stepE_move] at p
  split at p
  · rename_i o e
    obtain ⟨v, e1, r⟩ := s.at_ i _ (join_some e)
    refine ⟨v, e1, p v F H (fun j => if j = i then [] else Af j) (Af i) ⟨s.ex, by rw [List.length_set]; exact s.len, fun j u e => ?_, fun j => ?_, fun j k a h1 h2 => ?_, fun j a h1 => ?_, fun j a h1 => ?_⟩
      ⟨Ex.refl _, fun _ _ h _ => h, fun _ h => h, fun _ h => .inl h, fun a hj => ?_, fun a h => .inl ⟨i, h⟩⟩ r (s.nd i) fun a ha => ⟨s.un i a ha, fun hj => ?_⟩⟩
    · by_cases hj : j = i
      · subst hj; rw [List.getElem?_set_self'] at e; cases q : env[j]? <;> rw [q] at e <;> simp at e
      · rw [List.getElem?_set_ne (Ne.symm hj)] at e
        show ∃ v, _ ∧ RO _ _ _ _ _ (if j = i then [] else Af j)
        rw [if_neg hj]; exact s.at_ j u e
    · show (if j = i then [] else Af j).Nodup
      split
      · exact .nil
      · exact s.nd j
    · have h1 : a ∈ (if j = i then [] else Af j) := h1
      have h2 : a ∈ (if k = i then [] else Af k) := h2
      split at h1 <;> split at h2
      · cases h1
      · cases h1
      · cases h2
      · exact s.dj _ _ a h1 h2
    · have h1 : a ∈ (if j = i then [] else Af j) := h1
      split at h1
      · cases h1
      · exact s.un j a h1
    · have h1 : a ∈ (if j = i then [] else Af j) := h1
      split at h1
      · cases h1
      · exact s.th j a h1
    · obtain ⟨j, h⟩ := hj
      have h : a ∈ (if j = i then [] else Af j) := h
      split at h
      · cases h
      · exact .inl ⟨j, h⟩
    · obtain ⟨j, h⟩ := hj
      have h : a ∈ (if j = i then [] else Af j) := h
      split at h
      · cases h
      · rename_i hj; exact hj (s.dj _ _ a h ha)
  · exact p.elim

/-! one and two arguments -/
theorem e_op1c (hX : At nm T cA fA n W X) {o : Op1} {f : Str} {p0 pos : Pos} {y : Expr} {x : E} {id : String} (hc : CallR X (.builtin id) (R1c X.K cA W o)) (hb : bootBuiltins f = some (.builtin id)) (h : Gl X f ∧ f ∈ nm.bl) (hn : f ≠ ("__name__" : Str) := by decide) (hdb : (f == ("__debug__" : Str)) = false := by decide)
    (hs : noStar y = true) (hy : PE X y (TO X cA W (ev x))) : PE X (.Call (.Name f p0) [y] [] pos) (TO X cA W (stepE T ev exs (.op1 o x))) := by
  refine (pe_callB hc h.1 (hX.blt f h.2) hb (pa_cons hy.toD pa_nil (star1 hs _ _)) hn hdb (star1 hs _ _) rfl).mono fun σ H Q h => ?_
  refine TG.bind (rep := rD X.K) (r := evD ev x) (k := fun d env => match ev1 o d with | some r => .ok (r, env) | none => .stuck) h fun d env1 v F1 H1 Af1 C s1 r1 nd un q => ?_
  exact ⟨v, rfl, σ, F1, Af1, env1, d, s1, r1.2, q⟩
theorem e_op1t (hX : At nm T cA fA n W X) {o : Op1} {f : Str} {p0 pos : Pos} {y : Expr} {x : E} {id : String} (hc : CallR X (.type id) (R1c X.K cA W o)) (hb : bootBuiltins f = some (.type id)) (h : Gl X f ∧ f ∈ nm.bl) (hn : f ≠ ("__name__" : Str) := by decide) (hdb : (f == ("__debug__" : Str)) = false := by decide)
    (hs : noStar y = true) (hy : PE X y (TO X cA W (ev x))) : PE X (.Call (.Name f p0) [y] [] pos) (TO X cA W (stepE T ev exs (.op1 o x))) := by
  refine (pe_callTy hc h.1 (hX.blt f h.2) hb (pa_cons hy.toD pa_nil (star1 hs _ _)) hn hdb (star1 hs _ _) rfl).mono fun σ H Q h => ?_
  refine TG.bind (rep := rD X.K) (r := evD ev x) (k := fun d env => match ev1 o d with | some r => .ok (r, env) | none => .stuck) h fun d env1 v F1 H1 Af1 C s1 r1 nd un q => ?_
  exact ⟨v, rfl, σ, F1, Af1, env1, d, s1, r1.2, q⟩
theorem bindK2 {o : Op2} {x y : E} : (fun env => stepE T ev exs (.op2 o x y) env) = fun env => (evD ev x env).bind fun p => (evD ev y p.2).bind fun q => resO (ev2 o p.1 q.1) q.2 := by
  funext env
  show stepE T ev exs (.op2 o x y) env = _
  unfold stepE resO
  rfl
theorem tOp2 {o : Op2} {x y : E} {σ : L2.St} {H : Hp} {Q : VK} (h : TO X cA W (stepE T ev exs (.op2 o x y)) σ H Q) : tOp (R2e X.K cA W o) (TD X cA W (evD ev x)) (TD X cA W (evD ev y)) σ H Q := by
  have h' : TO X cA W (fun env => (evD ev x env).bind fun p => (evD ev y p.2).bind fun q => resO (ev2 o p.1 q.1) q.2) σ H Q := by rw [← bindK2]; exact h
  refine TG.bind (rep := rD X.K) (r := evD ev x) (k := fun d env => (evD ev y env).bind fun q => resO (ev2 o d q.1) q.2) h' fun d env1 v F1 H1 Af1 C s1 r1 nd un q => ?_
  refine PG.tg s1 (PG.bind (k := fun e env => resO (ev2 o d e) env) q fun e env2 w F2 H2 Af2 C2 _ s2 t2 r2 nd2 un2 q2 => ?_)
  exact ⟨σ, F2, Af2, env2, d, e, s2, r1.2.mono t2.ex, r2.2, q2⟩
theorem e_bin (hX : At nm T cA fA n W X) {o : Op2} {op : Operator} {x y : E} {b c : Expr} {pos : Pos} (ho : opOf o = some op) (hb : PE X b (TO X cA W (ev x))) (hc : PE X c (TO X cA W (ev y))) : PE X (.BinOp b op c pos) (TO X cA W (stepE T ev exs (.op2 o x y))) :=
  (pe_op (b_op ho) hb.toD hc.toD).mono fun _ _ _ h => tOp2 h
theorem plain_mark {op : CmpOp} {c : Expr} (h : plainIt c = true) : behindInMarks op c = false := by cases c <;> first | rfl | cases h
theorem e_cmp (hX : At nm T cA fA n W X) {o : Op2} {op : CmpOp} {x y : E} {b c : Expr} {pos : Pos} (ho : cmpOf o = some op) (hm : plainIt c = true) (hb : PE X b (TO X cA W (ev x))) (hc : PE X c (TO X cA W (ev y))) : PE X (.Compare b [op] [c] pos) (TO X cA W (stepE T ev exs (.op2 o x y))) :=
  (pe_cmpR (k_op hX.hu ho) hb.toD hc.toD (plain_mark hm)).mono fun _ _ _ h => tOp2 h
theorem e_idx (hX : At nm T cA fA n W X) {x y : E} {b c : Expr} {pos : Pos} (hs : (match c with | .Slice _ _ _ _ => false | _ => true) = true) (hb : PE X b (TO X cA W (ev x))) (hc : PE X c (TO X cA W (ev y))) : PE X (.Subscript b c pos) (TO X cA W (stepE T ev exs (.op2 .idx x y))) :=
  (pe_ix i_idx hb.toD hc.toD (by cases c <;> first | (intro _ _; rfl) | cases hs)).mono fun _ _ _ h => tOp2 h
theorem e_c2 (hX : At nm T cA fA n W X) {o : Op2} {f : Str} {p0 pos : Pos} {b c : Expr} {x y : E} {id : String} (hc : CallR X (.builtin id) (R2c X.K cA W o)) (hb : bootBuiltins f = some (.builtin id)) (h : Gl X f ∧ f ∈ nm.bl) (hn : f ≠ ("__name__" : Str) := by decide) (hdb : (f == ("__debug__" : Str)) = false := by decide)
    (hs : noStar b = true) (hs2 : noStar c = true) (hx : PE X b (TO X cA W (ev x))) (hy : PE X c (TO X cA W (ev y))) : PE X (.Call (.Name f p0) [b, c] [] pos) (TO X cA W (stepE T ev exs (.op2 o x y))) := by
  refine (pe_callB hc h.1 (hX.blt f h.2) hb (pa_cons hx.toD (pa_cons hy.toD pa_nil (star1 hs2 _ _)) (star1 hs _ _)) hn hdb (star1 hs _ _) (by rw [star1 hs2]; rfl)).mono fun σ H Q h => ?_
  exact TG.imp (tOp2 h) fun v H1 q => TG.imp q fun w H2 q2 => ⟨_, _, rfl, q2⟩
theorem e_neg (hX : At nm T cA fA n W X) {x : E} {b : Expr} {pos : Pos} (hb : PE X b (TO X cA W (ev x))) : PE X (.UnaryOp .USub b pos) (TO X cA W (stepE T ev exs (.op1 .neg x))) := by
  refine (pe_un un_neg hb.toD).mono fun σ H Q h => ?_
  refine TG.bind (rep := rD X.K) (r := evD ev x) (k := fun d env => resO (ev1 .neg d) env) h fun d env1 v F1 H1 Af1 C s1 r1 nd un q => ?_
  obtain ⟨o, eo, p⟩ := res2 q
  cases d with
  | int i => cases eo; cases r1.2.int_inv; exact ⟨i, rfl, p.nowV s1 (.int _)⟩
  | _ => cases eo
theorem e_isT (hX : At nm T cA fA n W X) {t : Ty} {f ty : Str} {p0 p1 pos : Pos} {y : Expr} {x : E} (hf : f = "isinstance") (h : Gl X f ∧ f ∈ nm.bl) (ht : ty = tyName t) (h2 : Gl X ty ∧ ty ∈ nm.bl) (hs : noStar y = true) (hy : PE X y (TO X cA W (ev x))) :
    PE X (.Call (.Name f p0) [y, .Name ty p1] [] pos) (TO X cA W (stepE T ev exs (.op1 (.isT t) x))) := by
  subst hf ht
  have hty : PE X (.Name (tyName t : Str) p1) (tC (.ty (tyName t))) := by
    refine pe_bltn (u := .type (tyName t)) h2.1 (hX.blt _ h2.2) ?_ rfl ?_ ?_ <;> cases t <;> decide +kernel
  refine (pe_callB (c_isT (cA := cA) (W := W) t) h.1 (hX.blt _ h.2) (by decide +kernel) (pa_cons hy.toD (pa_cons hty pa_nil rfl) (star1 hs _ _)) (by decide) (by decide) (star1 hs _ _) rfl).mono fun σ H Q h => ?_
  refine TG.bind (rep := rD X.K) (r := evD ev x) (k := fun d env => resO (ev1 (.isT t) d) env) h fun d env1 v F1 H1 Af1 C s1 r1 nd un q => ?_
  exact ⟨v, rfl, σ, F1, Af1, env1, d, s1, r1.2, q⟩
end
end
end Ev

end
section
set_option autoImplicit false
set_option linter.all false
set_option maxRecDepth 100000
/-! The def that tells of which classes an error is. -/
namespace Ev
open PySem PySem.Spec L2 L2H PyProof.Rows
/-! the def's body -/
/-- what is told of one class -/
def flgOne (cl : List Str) (sc : Scope) (bl : List Str) (e : Str) (j : Nat) : Expr → Bool
  | .Call (.Name f _) [.Name v _, .Name c _] [] _ => decide (f = "isinstance") && (gloB sc f && (decide (f ∈ bl) && (decide (v = e) && (okN c && (gloB sc c && decide (cl[j]? = some c))))))
  | _ => false
def flgAll (cl : List Str) (sc : Scope) (bl : List Str) (e : Str) : List Nat → List Expr → Bool
  | [], [] => true
  | j :: js, a :: as => flgOne cl sc bl e j a && flgAll cl sc bl e js as
  | _, _ => false
def flgBody (cl : List Str) (sc : Scope) (bl : List Str) (e : Str) (js : List Nat) : List Stmt → Bool
  | [.Return (some (.List as _)) _] => okN e && (locB sc e && flgAll cl sc bl e js as)
  | _ => false
/-- the errors' classes, asked by isinstance -/
structure ClsOk (K : PySem.W.Frag) (mg : Str → Option Value) (cA : Nat → Addr) (nx : Nat) (cl : List Str) (isx : Nat → Nat → Bool) : Prop where
  exc : ∀ c, c < nx → L2.ExcC K (cA c)
  nam : ∀ (j : Nat) (x : Str), cl[j]? = some x → ∃ a, mg x = some (.ref a) ∧ ∀ c, c < nx → PySem.W.kitOne K (.ref (cA c)) (.ref a) = some (isx c j)
section
variable {P : Program} {w : World} {K : PySem.W.Frag} {mg : Str → Option Value} {base : Heap} {p : Addr × Obj} {X : Cx} {cA : Nat → Addr} {nx : Nat} {cl bl : List Str} {isx : Nat → Nat → Bool} {e : Str} {sc : Scope}
theorem flg_one (h : ClsOk X.K X.mg cA nx cl isx) (hbl : ∀ x ∈ bl, X.mg x = none) (hN : X.N[0]? = some e) (hp : p ∈ X.pn) {c : Nat} (hc : c < nx) (h1 : p.2.cls = .ref (cA c)) (h2 : p.2.dict = none) (h3 : ∃ vs, p.2.data = .fields vs) {j : Nat} {a : Expr} (hk : flgOne cl X.env.scope bl e j a = true) (hl : locB X.env.scope e = true) (ho : okN e = true) :
    PE X a (fun σ H Q => σ[0]? = some (some (V.ref p.1)) ∧ Q (.bl (isx c j)) H) ∧ noStar a = true := by
  unfold flgOne at hk
  split at hk
  · rename_i f fp v vp cn cp kp
    simp only [Bool.and_eq_true, decide_eq_true_eq] at hk
    obtain ⟨rfl, k1, k2, rfl, k3, k4, k5⟩ := hk
    obtain ⟨ca, m1, m2⟩ := h.nam j cn k5
    have ov := okN_spec ho
    have oc := okN_spec k3
    refine ⟨(pe_callB (call_isP hp (h.exc c hc) h1 h2 h3) (glo_spec k1) (hbl _ k2) (by decide +kernel) (pa_cons (pe_var hN (vis_spec (by unfold visB; unfold locB at hl; revert hl; cases X.env.scope.names.lookup v with | none => exact id | some z => cases z <;> simp)) ov.1 ov.2.1) (pa_cons (pe_glob (v := V.ref ca) (glo_spec k4) m1 rfl oc.1) pa_nil rfl) rfl) (by decide) (by decide) rfl rfl).mono fun σ H Q q => ?_, rfl⟩
    exact ⟨_, q.1, .ref ca, .ref ca, isx c j, rfl, fun u r => r, m2 c hc, q.2⟩
  · cases hk
theorem flg_all (h : ClsOk X.K X.mg cA nx cl isx) (hbl : ∀ x ∈ bl, X.mg x = none) (hN : X.N[0]? = some e) (hp : p ∈ X.pn) {c : Nat} (hc : c < nx) (h1 : p.2.cls = .ref (cA c)) (h2 : p.2.dict = none) (h3 : ∃ vs, p.2.data = .fields vs) (hl : locB X.env.scope e = true) (ho : okN e = true) :
    ∀ {js : List Nat} {as : List Expr}, flgAll cl X.env.scope bl e js as = true → PA X as (fun σ H Q => σ[0]? = some (some (V.ref p.1)) ∧ Q ((js.map (isx c)).map V.bl) H)
  | [], [], _ => pa_nil.mono fun σ H Q q => q.2
  | [], _ :: _, z => by cases z
  | _ :: _, [], z => by cases z
  | j :: js, a :: as, z => by
    have z : (flgOne cl X.env.scope bl e j a && flgAll cl X.env.scope bl e js as) = true := z
    rw [Bool.and_eq_true] at z
    obtain ⟨g1, g2⟩ := flg_one h hbl hN hp hc h1 h2 h3 z.1 hl ho
    exact (pa_cons g1 (flg_all h hbl hN hp hc h1 h2 h3 hl ho z.2) (star1 g2 _ _)).mono fun σ H Q q => ⟨q.1, q.1, q.2⟩
/-- the def, asked about the error that a clause has caught -/
theorem flg_fn {f : Addr} {fd : FuncData} {N : List Str} {y qual : Str} {params : Arguments} {body : List Stmt} {dvs : List V} {kws : List (Str × V)} (D : L2.FunD K y qual params body sc dvs kws f fd) (S : FnScope N [e] sc) (h : ClsOk K mg cA nx cl isx) (hbl : ∀ x ∈ bl, mg x = none) {js : List Nat} (hj : js.length ≤ 1000)
    (hk : flgBody cl sc bl e js body = true) {c : Nat} (hc : c < nx) (h1 : p.2.cls = .ref (cA c)) (h2 : p.2.dict = none) (h3 : ∃ vs, p.2.data = .fields vs) : HotFn P w K mg base (L2N.CX P w) p 1 f fd [e] (spFlg p.1 (js.map (isx c))) := by
  have hN : N[0]? = some e := by
    have := S.pre
    cases N with
    | nil => cases this
    | cons x r => simp at this; rw [this]; rfl
  refine hotFn_of D S (fun vs H Q E ⟨z, _⟩ => by rw [z]; rfl) fun cdv A up s H vs Q E ht ⟨hv, hq⟩ => ?_
  subst hv
  unfold flgBody at hk
  split at hk
  · rename_i as lp rp
    simp only [Bool.and_eq_true] at hk
    obtain ⟨k1, k2, k3⟩ := hk
    refine ⟨_, pss_cons (ps_ret (pe_lst (flg_all (X := cxH (L2N.CX P w) P w K mg base N qual sc f cdv A up s H E p) h hbl hN List.mem_cons_self hc h1 h2 h3 k2 k1 k3))) pss_nil, ?_⟩
    refine ⟨?_, ?_, fun q hq0 => hq q hq0⟩
    · unfold L2.start
      simp
    · rw [List.length_map, List.length_map]
      have : (1000 : Nat) ≤ sizeLine := by decide
      omega
  · cases hk
end
/-- what the checks say of such a def -/
def FlgOk (K : PySem.W.Frag) (mg : Str → Option Value) (cA : Nat → Addr) (nm : Names) (T : Tab) (g : Nat) (x : Str) : Prop :=
  ∃ (f : Addr) (fd : FuncData) (e : Str) (N : List Str) (y qual : Str) (params : Arguments) (body : List Stmt) (sc : Scope) (dvs : List V) (kws : List (Str × V)) (js : List Nat) (cl : List Str) (isx : Nat → Nat → Bool),
    mg x = some (.ref f) ∧ PySem.W.keepIn K (.ref f) = true ∧ Binds K fd [e] [] ∧ L2.FunD K y qual params body sc dvs kws f fd ∧ FnScope N [e] sc ∧ ClsOk K mg cA T.nx cl isx ∧ js.length ≤ 1000 ∧ flgBody cl sc nm.bl e js body = true ∧ ∀ c, T.fl g c = js.map (isx c)
theorem flg_at {P : Program} {w : World} {K : PySem.W.Frag} {mg : Str → Option Value} {base : Heap} {cA : Nat → Addr} {nm : Names} {T : Tab} {g : Nat} {x : Str} (hbl : ∀ y ∈ nm.bl, mg y = none) (h : FlgOk K mg cA nm T g x) :
    ∃ f fd ps, mg x = some (.ref f) ∧ PySem.W.keepIn K (.ref f) = true ∧ Binds K fd ps [] ∧ ∀ (c : Nat) (p : Addr × Obj), c < T.nx → p.2.cls = .ref (cA c) → p.2.dict = none → (∃ vs, p.2.data = .fields vs) →
      HotFn P w K mg base (L2N.CX P w) p 1 f fd ps (spFlg p.1 (T.fl g c)) := by
  obtain ⟨f, fd, e, N, y, qual, params, body, sc, dvs, kws, js, cl, isx, h1, h2, h3, h4, h5, h6, h7, h8, h9⟩ := h
  refine ⟨f, fd, [e], h1, h2, h3, fun c p hc q1 q2 q3 => ?_⟩
  rw [h9 c]
  exact flg_fn h4 h5 h6 hbl h7 h8 hc q1 q2 q3
end Ev

end
section
set_option autoImplicit false
set_option linter.all false
set_option maxRecDepth 100000
/-! Expressions: displays, tests, slices. -/
namespace Ev
open PySem L2 PyProof.Rows

section
variable {nm : Names} {T : Tab} {cA fA : Nat → Addr} {n : Nat} {W : WX} {X : Cx} {ev : E → Env → Res (O × Env)} {exs : List S → Env → Res (Fl × Env)}

def isStar : E → Bool
  | .star _ => true
  | _ => false
def isLend : E → Bool
  | .lend _ => true
  | _ => false
theorem evDs_cons {e : E} (h : isStar e = false) (es : List E) (env : Env) : evDs ev (e :: es) env = (evD ev e env).bind fun p => (evDs ev es p.2).bind fun q => .ok (p.1 :: q.1, q.2) := by
  cases e <;> first | rfl | cases h
theorem chkL_cons {chk : Scope → E → Expr → Bool} {sc : Scope} {e : E} (h : isStar e = false) (es : List E) (a : Expr) (as : List Expr) : chkL chk sc (e :: es) (a :: as) = (noStar a && (chk sc e a && chkL chk sc es as)) := by
  cases e <;> first | rfl | cases h
theorem evArgs_cons {e : E} (h : isLend e = false) (es : List E) (env : Env) : evArgs ev (e :: es) env = (evD ev e env).bind fun p => (evArgs ev es p.2).bind fun q => .ok ((none, p.1) :: q.1, q.2) := by
  cases e <;> first | rfl | cases h
theorem chkA_cons {N : List Str} {chk : Scope → E → Expr → Bool} {sc : Scope} {e : E} (h : isLend e = false) (es : List E) (a : Expr) (as : List Expr) : chkA N chk sc (e :: es) (a :: as) = (noStar a && (chk sc e a && chkA N chk sc es as)) := by
  cases e <;> first | rfl | cases h

/-- a list of expressions -/
abbrev TL' (X : Cx) (cA : Nat → Addr) (W : WX) (r : Env → Res (List D × Env)) : TA := TG X.K cA W (rL X.K) r
theorem a_list (hX : At nm T cA fA n W X) {chk : Scope → E → Expr → Bool} (HE : ∀ e a, chk X.env.scope e a = true → PE X a (TO X cA W (ev e))) : ∀ (es : List E) (as : List Expr), chkL chk X.env.scope es as = true → PA X as (TL' X cA W (evDs ev es))
  | [], [], _ => pa_nil.mono fun σ H Q ⟨F, Af, env, s, p⟩ => PG.now p s ⟨rfl, .nil⟩
  | [], _ :: _, h => by cases h
  | e :: es, [], h => by cases e <;> cases h
  | e :: es, a :: as, h => by
    by_cases hs : isStar e = true
    · cases e with
      | star e =>
        cases a with
        | Starred b p =>
          have h' : (chk X.env.scope e b && chkL chk X.env.scope es as) = true := h
          rw [Bool.and_eq_true] at h'
          refine (StX.pa_star (HE e b h'.1).toD (a_list hX HE es as h'.2) rfl).mono fun σ H Q h => ?_
          refine TG.bind (rep := rD X.K) (r := evD ev e) (k := fun d env => match seq? d with | some xs => (evDs ev es env).bind fun q => .ok (xs ++ q.1, q.2) | none => .stuck) h fun d env1 v F1 H1 Af1 C s1 r1 nd un q => ?_
          have key : ∀ {a : Addr} {xs : List V} {ds : List D}, v = .ref a → (SqT X.K H1 a xs ∨ SqL X.K H1 a xs) → RepAll X.K F1 xs ds → seq? d = some ds → (∃ p xs, v = V.ref p ∧ (SqT X.K H1 p xs ∨ SqL X.K H1 p xs) ∧ TL' X cA W (evDs ev es) σ H1 fun ys H2 => Q (xs ++ ys) H2) := by
            intro a xs ds ev' hh r e'
            simp only [e'] at q
            refine ⟨a, xs, ev', hh, PG.tg s1 (PG.bind (k := fun ys env => .ok (ds ++ ys, env)) q fun ys env2 vs F2 H2 Af2 C2 _ s2 t2 r2 nd2 un2 q2 => ?_)⟩
            exact PG.now q2 s2 ⟨rfl, (r.mono t2.ex).append r2.2⟩
          cases d with
          | list ds =>
            obtain ⟨a, xs, e1, e2, e3⟩ := r1.2.lst_inv
            exact key e1 (.inr (SqL.of (s1.ex _ _ e2))) e3 rfl
          | tuple ds =>
            obtain ⟨a, xs, e1, e2, e3⟩ := r1.2.tup_inv
            exact key e1 (.inl (ex_t s1.ex e2)) e3 rfl
          | _ => exact q.elim
        | _ => cases h
      | _ => cases hs
    · have hs : isStar e = false := by simpa using hs
      rw [chkL_cons hs] at h
      simp only [Bool.and_eq_true] at h
      refine (pa_cons (HE e a h.2.1).toD (a_list hX HE es as h.2.2) (star1 h.1 _ _)).mono fun σ H Q h => ?_
      have h' : TL' X cA W (fun env => (evD ev e env).bind fun p => (evDs ev es p.2).bind fun q => .ok (p.1 :: q.1, q.2)) σ H Q := by
        rw [show evDs ev (e :: es) = _ from funext (evDs_cons hs es)] at h; exact h
      refine TG.bind (rep := rD X.K) (r := evD ev e) (k := fun d env => (evDs ev es env).bind fun q => .ok (d :: q.1, q.2)) h' fun d env1 v F1 H1 Af1 C s1 r1 nd un q => ?_
      refine PG.tg s1 (PG.bind (k := fun ys env => .ok (d :: ys, env)) q fun ys env2 vs F2 H2 Af2 C2 _ s2 t2 r2 nd2 un2 q2 => ?_)
      exact PG.now q2 s2 ⟨rfl, .cons (r1.2.mono t2.ex) r2.2⟩
theorem e_tup (hX : At nm T cA fA n W X) {es : List E} {as : List Expr} {k : Nat} {pos : Pos} (h : PA X as (TL' X cA W (evDs ev es))) : PE X (.Tuple as k pos) (TO X cA W (stepE T ev exs (.tup es))) := by
  refine (pe_tup h).mono fun σ H Q h => ?_
  refine TG.bind (rep := rL X.K) (r := evDs ev es) (k := fun ds env => if ds.length ≤ most then .ok (O.val (.tuple ds), env) else .stuck) h fun ds env1 vs F1 H1 Af1 C s1 r1 nd un q => ?_
  by_cases hz : ds.length ≤ most
  · rw [if_pos hz] at q
    exact ⟨by rw [r1.2.length]; exact Nat.le_trans hz most_line, fun p hp => q.newT s1 r1.2 hp⟩
  · rw [if_neg hz] at q; exact q.elim
theorem e_lst (hX : At nm T cA fA n W X) {es : List E} {as : List Expr} {pos : Pos} (h : PA X as (TL' X cA W (evDs ev es))) : PE X (.List as pos) (TO X cA W (stepE T ev exs (.lst es))) := by
  refine (pe_lst h).mono fun σ H Q h => ?_
  refine TG.bind (rep := rL X.K) (r := evDs ev es) (k := fun ds env => if ds.length ≤ most then .ok (O.lst (ds.map O.val), env) else .stuck) h fun ds env1 vs F1 H1 Af1 C s1 r1 nd un q => ?_
  by_cases hz : ds.length ≤ most
  · rw [if_pos hz] at q
    exact ⟨by rw [r1.2.length]; exact Nat.le_trans hz most_line, fun p hp => q.newL s1 r1.2 hp⟩
  · rw [if_neg hz] at q; exact q.elim

/-! tests -/
theorem rep_empty {K : PySem.W.Frag} {F : Hp} {vs : List V} {ds : List D} (r : RepAll K F vs ds) : (!ds.isEmpty) = !vs.isEmpty := by cases r <;> rfl
theorem truth_tru {K : PySem.W.Frag} {F H : Hp} {x : V} {d : D} {b : Bool} (r : Rep K F x d) (e : Ex F H) (h : truth d = some b) : TruV K x H b := by
  cases d with
  | none => cases r.non_inv; cases h; rfl
  | bool c => cases r.bl_inv; cases h; rfl
  | int i => cases r.int_inv; cases h; rfl
  | str z =>
    cases r.str_inv
    unfold truth at h
    by_cases hz : z.length ≤ most
    · simp only [hz, if_true, Option.some.injEq] at h
      refine ⟨Nat.le_trans hz most_line, ?_⟩
      rw [← h, Bool.eq_iff_iff]
      simp only [bne_iff_ne, ne_eq]
      exact ⟨fun h z => h (by exact_mod_cast z), fun h z => h (by exact_mod_cast z)⟩
    · simp only [hz, if_false] at h; cases h
  | list ds => obtain ⟨a, xs, rfl, e2, e3⟩ := r.lst_inv; cases h; exact .inl ⟨_, SqL.of (e _ _ e2), rep_empty e3⟩
  | tuple ds => obtain ⟨a, xs, rfl, e2, e3⟩ := r.tup_inv; cases h; exact .inr (.inl ⟨_, ex_t e e2, rep_empty e3⟩)
  | dict ds =>
    obtain ⟨a, kvs, rfl, e2, e3⟩ := r.dict_inv
    cases h
    refine .inr (.inr ⟨_, e _ _ e2, ?_⟩)
    cases e3 <;> rfl
def dflT : Expr → Bool
  | .UnaryOp .Not _ _ => false
  | .BoolOp _ _ _ => false
  | .IfExp _ _ _ _ => false
  | .Compare _ _ _ _ => false
  | _ => true
theorem t_dfl (hX : At nm T cA fA n W X) {e : E} {a : Expr} (hd : dflT a = true) (h : PE X a (TO X cA W (ev e))) : PT X a (TT' X cA W (truthE ev e)) := by
  have he : ∀ whole, isTrue a X.env whole = (do let v ← whole; standAt a.pos; holding [v] (truthy v)) := by
    intro whole
    cases a with
    | UnaryOp op b p => cases op <;> first | rfl | cases hd
    | _ => first | rfl | cases hd
  refine (pt_truth h.toD he).mono fun σ H Q h => ?_
  refine TG.bind (rep := rD X.K) (r := evD ev e) (k := fun d env => match truth d with | some b => .ok (b, env) | none => .stuck) h fun d env1 v F1 H1 Af1 C s1 r1 nd un q => ?_
  cases ht : truth d with
  | none => rw [ht] at q; exact q.elim
  | some b =>
    rw [ht] at q
    exact ⟨b, truth_tru r1.2 s1.ex ht, PG.now q s1 ⟨rfl, rfl⟩⟩

/-- what gives a truth value, as a test -/
theorem TG.test {K : PySem.W.Frag} {r : Env → Res (O × Env)} {σ : L2.St} {H : Hp} {Q : Bool → Hp → Prop} (hb : ∀ env o env', r env = .ok (o, env') → ∃ b, o = .val (.bool b))
    (h : TG K cA W rB (fun env => ((r env).bind fzD).bind fun p => match truth p.1 with | some b => .ok (b, p.2) | none => .stuck) σ H Q) : TG K cA W (rO K) r σ H (fun x H' => ∃ k, x = .bl k ∧ Q k H') := by
  obtain ⟨F, Af, env, s, p⟩ := h
  refine ⟨F, Af, env, s, ?_⟩
  cases e : r env with
  | stuck => simp only [e] at p; exact p
  | err c => simp only [e] at p; exact p
  | ok z =>
    obtain ⟨o, env'⟩ := z
    obtain ⟨b, rfl⟩ := hb env o env' e
    simp only [e] at p
    intro v F' H' Af' C s' t r' nd un
    obtain ⟨r1, rfl⟩ := RO.val_inv r'
    cases r1.bl_inv
    exact ⟨b, rfl, p b F' H' Af' [] s' t ⟨rfl, rfl⟩ .nil fun _ z => nomatch z⟩
theorem cmp_bool {o : Op2} {op : CmpOp} (h : cmpOf o = some op) {d e : D} {r : O} (hr : ev2 o d e = some r) : ∃ b, r = .val (.bool b) := by
  cases o <;> cases h
  · simp only [ev2] at hr; split at hr <;> cases hr; exact ⟨_, rfl⟩
  · simp only [ev2] at hr; split at hr <;> cases hr; exact ⟨_, rfl⟩
  · rcases ev2_lt d e with ⟨i, j, rfl, rfl⟩ | hg
    · cases hr; exact ⟨_, rfl⟩
    · rw [hg] at hr
      split at hr <;> cases hr; exact ⟨_, rfl⟩
  · rcases ev2_le d e with ⟨i, j, rfl, rfl⟩ | hg
    · cases hr; exact ⟨_, rfl⟩
    · rw [hg] at hr
      split at hr <;> cases hr; exact ⟨_, rfl⟩
  · rcases ev2_gt d e with ⟨i, j, rfl, rfl⟩ | hg
    · cases hr; exact ⟨_, rfl⟩
    · rw [hg] at hr
      split at hr <;> cases hr; exact ⟨_, rfl⟩
  · rcases ev2_ge d e with ⟨i, j, rfl, rfl⟩ | hg
    · cases hr; exact ⟨_, rfl⟩
    · rw [hg] at hr
      split at hr <;> cases hr; exact ⟨_, rfl⟩
  · simp only [ev2] at hr; split at hr
    · split at hr <;> cases hr; exact ⟨_, rfl⟩
    · cases hr
  · simp only [ev2] at hr; split at hr
    · split at hr <;> cases hr; exact ⟨_, rfl⟩
    · cases hr
  · cases d <;> cases e <;> cases hr <;> exact ⟨_, rfl⟩
  · cases d <;> cases e <;> cases hr <;> exact ⟨_, rfl⟩
theorem Res.bind_ok {α β : Type} {r : Res α} {f : α → Res β} {b : β} (h : r.bind f = .ok b) : ∃ a, r = .ok a ∧ f a = .ok b := by
  cases r with
  | ok a => exact ⟨a, rfl, h⟩
  | err c => cases h
  | stuck => cases h
theorem resO_ok {o : Option O} {env : Env} {p : O × Env} (h : resO o env = .ok p) : o = some p.1 ∧ p.2 = env := by
  cases o with
  | none => cases h
  | some r => cases h; exact ⟨rfl, rfl⟩
theorem truthE_ok' (e : E) (env : Env) : truthE ev e env = (evD ev e env).bind fun p => match truth p.1 with | some b => .ok (b, p.2) | none => .stuck := rfl
theorem truthE_eq (e : E) (env : Env) : truthE ev e env = ((ev e env).bind fzD).bind fun p => match truth p.1 with | some b => .ok (b, p.2) | none => .stuck := rfl
theorem t_cmp (hX : At nm T cA fA n W X) {o : Op2} {op : CmpOp} {x y : E} {b c : Expr} {pos : Pos} (ho : cmpOf o = some op) (hm : plainIt c = true) (hb : PE X b (TO X cA W (ev x))) (hc : PE X c (TO X cA W (ev y))) : PT X (.Compare b [op] [c] pos) (TT' X cA W (truthE (stepE T ev exs) (.op2 o x y))) := by
  refine (pt_cmpR (k_op (cA := cA) (Wx := W) hX.hu ho) hb.toD hc.toD (plain_mark hm)).mono fun σ H Q h => ?_
  refine tOp2 (TG.test (fun env r env' e => ?_) h)
  rw [show stepE T ev exs (.op2 o x y) env = _ from congrFun bindK2 env] at e
  obtain ⟨p, _, e⟩ := Res.bind_ok e
  obtain ⟨q, _, e⟩ := Res.bind_ok e
  exact cmp_bool ho (resO_ok e).1
theorem e_not (hX : At nm T cA fA n W X) {x : E} {b : Expr} {pos : Pos} (hb : PE X b (TO X cA W (ev x))) : PE X (.UnaryOp .Not b pos) (TO X cA W (stepE T ev exs (.not x))) := by
  refine (pe_notT hb.toD).mono fun σ H Q h => ?_
  have h' : TO X cA W (fun env => (evD ev x env).bind fun p => match truth p.1 with | some b => .ok (O.val (.bool (!b)), p.2) | none => .stuck) σ H Q := by
    refine (show (fun env => (evD ev x env).bind fun p => match truth p.1 with | some b => .ok (O.val (.bool (!b)), p.2) | none => .stuck) = stepE T ev exs (.not x) from ?_) ▸ h
    funext env
    show _ = (truthE ev x env).bind _
    unfold truthE
    cases evD ev x env with
    | ok p => simp only [Res.bind]; cases truth p.1 <;> rfl
    | err c => rfl
    | stuck => rfl
  refine TG.bind (rep := rD X.K) (r := evD ev x) (k := fun d env => match truth d with | some b => .ok (O.val (.bool (!b)), env) | none => .stuck) h' fun d env1 v F1 H1 Af1 C s1 r1 nd un q => ?_
  cases ht : truth d with
  | none => rw [ht] at q; exact q.elim
  | some b => rw [ht] at q; exact ⟨b, truth_tru r1.2 s1.ex ht, q.nowV s1 (.bl _)⟩
theorem t_not (hX : At nm T cA fA n W X) {x : E} {b : Expr} {pos : Pos} (hb : PT X b (TT' X cA W (truthE ev x))) : PT X (.UnaryOp .Not b pos) (TT' X cA W (truthE (stepE T ev exs) (.not x))) := by
  refine (pt_not hb).mono fun σ H Q h => ?_
  have h' : TT' X cA W (fun env => (truthE ev x env).bind fun p => .ok (!p.1, p.2)) σ H Q := by
    refine (show truthE (stepE T ev exs) (.not x) = fun env => (truthE ev x env).bind fun p => .ok (!p.1, p.2) from ?_) ▸ h
    funext env
    rw [truthE_eq, stepE_not]
    cases truthE ev x env <;> rfl
  refine TG.bind (rep := rB) (r := truthE ev x) (k := fun b env => .ok (!b, env)) h' fun d env1 v F1 H1 Af1 C s1 r1 nd un q => ?_
  rw [r1.2]; exact PG.now q s1 ⟨rfl, rfl⟩
theorem e_and (hX : At nm T cA fA n W X) {x y : E} {b c : Expr} {r : List Expr} {pos : Pos} (hb : PE X b (TO X cA W (ev x))) (hc : PE X (.BoolOp .And (c :: r) pos) (TO X cA W (ev y))) : PE X (.BoolOp .And (b :: c :: r) pos) (TO X cA W (stepE T ev exs (.and x y))) := by
  refine (pe_and hb.toD hc).mono fun σ H Q h => ?_
  refine TG.bind (rep := rD X.K) (r := evD ev x) (k := fun d env => match d with | .bool true => ev y env | .bool false => .ok (O.val (.bool false), env) | _ => .stuck) h fun d env1 v F1 H1 Af1 C s1 r1 nd un q => ?_
  cases d with
  | bool k =>
    cases r1.2.bl_inv
    refine ⟨k, rfl, ?_⟩
    cases k with
    | true => exact PG.tg s1 q
    | false => exact q.nowV s1 (.bl _)
  | _ => exact q.elim
theorem e_or (hX : At nm T cA fA n W X) {x y : E} {b c : Expr} {r : List Expr} {pos : Pos} (hb : PE X b (TO X cA W (ev x))) (hc : PE X (.BoolOp .Or (c :: r) pos) (TO X cA W (ev y))) : PE X (.BoolOp .Or (b :: c :: r) pos) (TO X cA W (stepE T ev exs (.or x y))) := by
  refine (pe_or hb.toD hc).mono fun σ H Q h => ?_
  refine TG.bind (rep := rD X.K) (r := evD ev x) (k := fun d env => match d with | .bool true => .ok (O.val (.bool true), env) | .bool false => ev y env | _ => .stuck) h fun d env1 v F1 H1 Af1 C s1 r1 nd un q => ?_
  cases d with
  | bool k =>
    cases r1.2.bl_inv
    refine ⟨k, rfl, ?_⟩
    cases k with
    | true => exact q.nowV s1 (.bl _)
    | false => exact PG.tg s1 q
  | _ => exact q.elim
theorem w_and (hX : At nm T cA fA n W X) {x y : E} {b c : Expr} {r : List Expr} {pos : Pos} (hb : PT X b (TT' X cA W (truthE ev x))) (hc : PW X (.BoolOp .And (c :: r) pos) (TT' X cA W (truthE ev y))) : PW X (.BoolOp .And (b :: c :: r) pos) (TT' X cA W (truthE (stepE T ev exs) (.and x y))) := by
  refine (pw_and hb hc).mono fun σ H Q h => ?_
  obtain ⟨F, Af, env, s, p⟩ := h
  refine ⟨F, Af, env, s, ?_⟩
  rw [truthE_eq, stepE_and] at p
  rw [truthE_ok']
  cases e : evD ev x env with
  | stuck => rw [e] at p; exact p
  | err c => rw [e] at p; exact p
  | ok z =>
    obtain ⟨d, env'⟩ := z
    rw [e] at p
    cases d with
    | bool k =>
      cases k with
      | true => exact fun v F' H' Af' C s' t r nd un => by obtain rfl : v = true := r.2; exact PG.tg s' (PG.step t p)
      | false => exact fun v F' H' Af' C s' t r nd un => by obtain rfl : v = false := r.2; exact p false F' H' Af' C s' t r nd un
    | _ => exact p.elim
theorem w_or (hX : At nm T cA fA n W X) {x y : E} {b c : Expr} {r : List Expr} {pos : Pos} (hb : PT X b (TT' X cA W (truthE ev x))) (hc : PW X (.BoolOp .Or (c :: r) pos) (TT' X cA W (truthE ev y))) : PW X (.BoolOp .Or (b :: c :: r) pos) (TT' X cA W (truthE (stepE T ev exs) (.or x y))) := by
  refine (pw_or hb hc).mono fun σ H Q h => ?_
  obtain ⟨F, Af, env, s, p⟩ := h
  refine ⟨F, Af, env, s, ?_⟩
  rw [truthE_eq, stepE_or] at p
  rw [truthE_ok']
  cases e : evD ev x env with
  | stuck => rw [e] at p; exact p
  | err c => rw [e] at p; exact p
  | ok z =>
    obtain ⟨d, env'⟩ := z
    rw [e] at p
    cases d with
    | bool k =>
      cases k with
      | true => exact fun v F' H' Af' C s' t r nd un => by obtain rfl : v = true := r.2; exact p true F' H' Af' C s' t r nd un
      | false => exact fun v F' H' Af' C s' t r nd un => by obtain rfl : v = false := r.2; exact PG.tg s' (PG.step t p)
    | _ => exact p.elim
theorem e_ite (hX : At nm T cA fA n W X) {c x y : E} {t b d : Expr} {pos : Pos} (hc : PT X t (TT' X cA W (truthE ev c))) (hb : PE X b (TO X cA W (ev x))) (hd : PE X d (TO X cA W (ev y))) : PE X (.IfExp t b d pos) (TO X cA W (stepE T ev exs (.ite c x y))) := by
  refine (pe_ifExp hc hb hd).mono fun σ H Q h => ?_
  refine TG.bind (rep := rB) (r := truthE ev c) (k := fun k env => if k then ev x env else ev y env) h fun d env1 v F1 H1 Af1 C s1 r1 nd un q => ?_
  obtain rfl : v = d := r1.2
  cases v with
  | true => exact PG.tg s1 q
  | false => exact PG.tg s1 q
theorem tChain2 {o1 o2 : Op2} {x y z : E} {p1 : CmpOp} (ho : cmpOf o1 = some p1) {σ : L2.St} {H : Hp} {Q : VK} (h : TO X cA W (stepE T ev exs (.chain o1 o2 x y z)) σ H Q) : tChain (R2e X.K cA W o1) (R2e X.K cA W o2) (TD X cA W (evD ev x)) (TD X cA W (evD ev y)) (TD X cA W (evD ev z)) σ H Q := by
  refine TG.bind (rep := rD X.K) (r := evD ev x) (k := fun d env => (evD ev y env).bind fun q => match ev2 o1 d q.1 with
    | some (.val (.bool true)) => (evD ev z q.2).bind fun r => match ev2 o2 q.1 r.1 with
      | some o => .ok (o, r.2)
      | none => .stuck
    | some (.val (.bool false)) => .ok (O.val (.bool false), q.2)
    | _ => .stuck) h fun d env1 v F1 H1 Af1 C s1 r1 nd un q => ?_
  refine PG.tg s1 (PG.bind (k := fun e env => match ev2 o1 d e with
    | some (.val (.bool true)) => (evD ev z env).bind fun r => match ev2 o2 e r.1 with
      | some o => .ok (o, r.2)
      | none => .stuck
    | some (.val (.bool false)) => .ok (O.val (.bool false), env)
    | _ => .stuck) q fun e env2 w F2 H2 Af2 C2 _ s2 t2 r2 nd2 un2 q2 => ?_)
  refine ⟨σ, F2, Af2, env2, d, e, s2, r1.2.mono t2.ex, r2.2, ?_⟩
  cases e1 : ev2 o1 d e with
  | none => rw [e1] at q2; exact q2.elim
  | some o =>
    obtain ⟨b, rfl⟩ := cmp_bool ho e1
    rw [e1] at q2
    intro v3 F3 H3 Af3 C3 s3 t3 r3 nd3 un3
    obtain ⟨r4, rfl⟩ := RO.val_inv r3
    cases r4.bl_inv
    refine ⟨b, rfl, ?_⟩
    cases b with
    | false => exact PG.nowV (PG.step t3 q2) s3 (.bl _)
    | true =>
      refine PG.tg s3 (PG.bind (k := fun g env => resO (ev2 o2 e g) env) (PG.step t3 q2) fun g env4 u F4 H4 Af4 C4 _ s4 t4 r5 nd4 un4 q4 => ?_)
      exact ⟨σ, F4, Af4, env4, e, g, s4, (r2.2.mono t3.ex).mono t4.ex, r5.2, q4⟩
theorem e_chain (hX : At nm T cA fA n W X) {o1 o2 : Op2} {p1 p2 : CmpOp} {x y z : E} {b c d : Expr} {pos : Pos} (h1 : cmpOf o1 = some p1) (h2 : cmpOf o2 = some p2) (hm : plainIt d = true) (hb : PE X b (TO X cA W (ev x))) (hc : PE X c (TO X cA W (ev y))) (hd : PE X d (TO X cA W (ev z))) :
    PE X (.Compare b [p1, p2] [c, d] pos) (TO X cA W (stepE T ev exs (.chain o1 o2 x y z))) :=
  (pe_chain (k_op (cA := cA) (Wx := W) hX.hu h1) (k_op (cA := cA) (Wx := W) hX.hu h2) hb.toD hc.toD hd.toD (plain_mark hm)).mono fun _ _ _ h => tChain2 h1 h
theorem t_chain (hX : At nm T cA fA n W X) {o1 o2 : Op2} {p1 p2 : CmpOp} {x y z : E} {b c d : Expr} {pos : Pos} (h1 : cmpOf o1 = some p1) (h2 : cmpOf o2 = some p2) (hm : plainIt d = true) (hb : PE X b (TO X cA W (ev x))) (hc : PE X c (TO X cA W (ev y))) (hd : PE X d (TO X cA W (ev z))) :
    PT X (.Compare b [p1, p2] [c, d] pos) (TT' X cA W (truthE (stepE T ev exs) (.chain o1 o2 x y z))) := by
  refine (pt_chain (k_op (cA := cA) (Wx := W) hX.hu h1) (k_op (cA := cA) (Wx := W) hX.hu h2) hb.toD hc.toD hd.toD (plain_mark hm)).mono fun σ H Q h => tChain2 h1 (TG.test (fun env r env' e => ?_) h)
  rw [stepE_chain] at e
  obtain ⟨p, _, e⟩ := Res.bind_ok e
  obtain ⟨q, _, e⟩ := Res.bind_ok e
  split at e
  · obtain ⟨g, _, e⟩ := Res.bind_ok e
    split at e
    · rename_i o eo; cases e; exact cmp_bool h2 eo
    · cases e
  · cases e; exact ⟨_, rfl⟩
  · cases e
end
end Ev

end
section
set_option autoImplicit false
set_option linter.all false
set_option maxRecDepth 100000
/-! Expressions: parts of lists and tuples, ranges as lists. -/
namespace HT
open PySem PySem.Spec PyProof.Rows
section
variable {prog : Program} {w : World} {A : Around} {E : Value → Shared → Prop} {s : Shared}
theorem adjust_back (n : Nat) : Builtin.Slice.sliceAdjust none none (-1) (n : Int) = ((n : Int) - 1, -1) := rfl
theorem places_back (n : Nat) : Builtin.Slice.slicePlaces ((n : Int) - 1) (-1) (-1) = n := by
  unfold Builtin.Slice.slicePlaces
  have h1 : ¬ ((-1 : Int) > 0) := by omega
  have h2 : (- -1 : Int) = 1 := rfl
  simp only [h1, if_false, h2, Int.ediv_one]
  split <;> omega
theorem pick_back (xs : Array Value) : ((List.range xs.size).filterMap fun (m : Nat) => xs[(((xs.size : Nat) : Int) - 1 + (m : Int) * -1).toNat]?).toArray = xs.toList.reverse.toArray := by
  have e : ((List.range xs.size).filterMap fun (m : Nat) => xs[(((xs.size : Nat) : Int) - 1 + (m : Int) * -1).toNat]?) = ((List.range xs.size).map fun k => xs.size - 1 - k).filterMap (xs[·]?) := by
    rw [List.filterMap_map]
    congr 1
    funext m
    have : ((((xs.size : Nat) : Int) - 1 + (m : Int) * -1)).toNat = xs.size - 1 - m := by omega
    rw [this]
    rfl
  rw [e, PySem.W.krv_range, List.filterMap_reverse, PySem.W.krv_all]
theorem sliceApplied_back {sl : Addr} {vk : Value} {n : Nat} {Q : Int × Int × Nat → Shared → Prop} (hs : s.heap.IsSliceOf sl .none .none vk) (pk : IsPart vk (some (-1)))
    (h : Q (((n : Nat) : Int) - 1, -1, n) s) : wpAny (model prog w) A (Builtin.Slice.sliceApplied (.ref sl) (pure (n : Int))) Q E s := by
  obtain ⟨os, hos, hcs, hds⟩ := id hs
  unfold Builtin.Slice.sliceApplied Builtin.Slice.sliceFields
  refine wpAny_bind (wpAny_bind (wpAny_field hos hds (x := .none) rfl (wpAny_bind (wpAny_field hos hds (x := .none) rfl (wpAny_bind (wpAny_field hos hds (x := vk) rfl (wpAny_pure ?_)))))))
  refine wpAny_bind (slicePart_ pk ?_)
  show wpAny _ _ (if ((-1 : Int) == 0) = true then _ else _) _ _ s
  rw [if_neg (by decide)]
  refine wpAny_bind (slicePart_none (wpAny_bind (slicePart_none (wpAny_bind (wpAny_pure ?_)))))
  show wpAny _ _ (match Builtin.Slice.sliceAdjust none none (-1) (n : Int) with | (lo, hi) => pure (lo, (-1 : Int), Builtin.Slice.slicePlaces lo hi (-1))) _ _ s
  rw [adjust_back n]
  show wpAny _ _ (pure (((n : Nat) : Int) - 1, (-1 : Int), Builtin.Slice.slicePlaces (((n : Nat) : Int) - 1) (-1) (-1))) _ _ s
  rw [places_back]
  exact wpAny_pure h
theorem getItem_tuple_back {t sl : Addr} {items : Array Value} {vk : Value} {Q : Value → Shared → Prop} (ht : IsTup s.heap t items) (hs : s.heap.IsSliceOf sl .none .none vk) (pk : IsPart vk (some (-1)))
    (h : Q (.ref s.heap.objs.size) { s with heap := s.heap.push { cls := .type "tuple", data := .seq items.toList.reverse.toArray } })
    (hsz : items.size ≤ sizeLine) : wpAny (model prog w) A (getItem (.ref t) (.ref sl)) Q E s := by
  have htake : sizeOk (.seq items.toList.reverse.toArray) := by
    show items.toList.reverse.toArray.size ≤ sizeLine
    rw [List.size_toArray, List.length_reverse, Array.length_toList]
    exact hsz
  obtain ⟨os, hos, hcs, hds⟩ := id hs
  have hTs : s.TypeIs (.ref sl) "slice" := ⟨os, hos, hcs⟩
  unfold getItem
  try with_reducible refine wpAny_holding ?_
  first | refine wpAny_bind (wpAny_pure ?_) | skip
  refine wpAny_bind (wpAny_sequenceKey ht.typeIs (by decide) ?_)
  refine wpAny_bind (wpAny_callSpecial?_slot (name := Str.ofString "__getitem__") ht.typeIs PyProof.Rows.slot_tuple_getitem
    (wpAny_call_entry PyProof.Rows.slot_tuple_getitem ht.typeIs entry_tuple_getitem ?_ (args_tuple_getitem _ _)))
  show wpAny _ _ (Builtin.Tuple.tupleItemsOf (.ref t) >>= _) _ _ s
  refine wpAny_bind (tupleItemsOf_ ht ?_)
  refine wpAny_bind (wpAny_typeOf hTs ?_)
  rw [if_pos (by decide)]
  refine wpAny_bind (sliceApplied_back hs pk ?_)
  have hno : ¬ (((((items.size : Nat) : Int) - 1) == 0 && (-1 : Int) == 1 && items.size == items.size) = true) := by simp
  show wpAny _ _ (if ((((items.size : Nat) : Int) - 1) == 0 && (-1 : Int) == 1 && items.size == items.size) = true then _ else _) _ _ s
  rw [if_neg hno, pick_back]
  first
    | exact wpAny_bind (m := Builtin.Tuple.tupleExact _) (wpAny_newObj_type (wpAny_pure ⟨_, rfl, wpAny_pure h⟩) htake)
    | exact wpAny_bind (m := Builtin.Tuple.tupleExact _) (wpAny_newObj_type (wpAny_bind (wpAny_pure (wpAny_pure ⟨_, rfl, wpAny_pure h⟩))) htake)
    | exact wpAny_bind (wpAny_bind (m := Builtin.Tuple.tupleExact _) (wpAny_newObj_type (wpAny_pure (wpAny_pure ⟨_, rfl, wpAny_pure h⟩)) htake))
    | exact wpAny_bind (wpAny_bind (m := Builtin.Tuple.tupleExact _) (wpAny_newObj_type (wpAny_pure ⟨_, rfl, wpAny_pure h⟩) htake))
end
end HT
namespace Ev
open PySem L2 PyProof.Rows

theorem _root_.L2.PO.mono {X : Cx} {e : Option Expr} {t t' : L2.TO} (h : PO X e t) (m : ∀ σ H Q, t' σ H Q → t σ H Q) : PO X e t' := ⟨fun pins s σ H Q I q => h.run pins s σ H Q I (m σ H Q q)⟩
theorem _root_.L2.SlR.mono {X : Cx} {r r' : V → Option Int → Option Int → Hp → VK → Prop} (h : L2.SlR X r) (m : ∀ x lo hi H Q, r' x lo hi H Q → r x lo hi H Q) : L2.SlR X r' := fun pins s σ H x v vl vu lo hi sl Q I rx hs pl pu q => h pins s σ H x v vl vu lo hi sl Q I rx hs pl pu (m x lo hi H Q q)
def rI : Rp (Option Int) (Option Int) := fun _ _ x y C => C = [] ∧ x = y
section
variable {nm : Names} {T : Tab} {cA fA : Nat → Addr} {n : Nat} {W : WX} {X : Cx} {ev : E → Env → Res (O × Env)} {exs : List S → Env → Res (Fl × Env)}
abbrev TP (X : Cx) (cA : Nat → Addr) (W : WX) (r : Env → Res (Option Int × Env)) : L2.TO := TG X.K cA W rI r
theorem o_none : PO X none (TP X cA W (optI ev none)) := po_none.mono fun σ H Q ⟨F, Af, env, s, p⟩ => PG.now p s ⟨rfl, rfl⟩
theorem o_some {e : E} {a : Expr} (h : PE X a (TO X cA W (ev e))) : PO X (some a) (TP X cA W (optI ev (some e))) := by
  refine (po_some h.toD).mono fun σ H Q h => ?_
  refine TG.bind (rep := rD X.K) (r := evD ev e) (k := fun d env => match d with | .int i => .ok (some i, env) | _ => .stuck) h fun d env1 v F1 H1 Af1 C s1 r1 nd un q => ?_
  cases d with
  | int i => cases r1.2.int_inv; exact ⟨i, rfl, PG.now q s1 ⟨rfl, rfl⟩⟩
  | _ => exact q.elim
theorem rep_cut {K : PySem.W.Frag} {F : Hp} {vs : List V} {ds : List D} (r : RepAll K F vs ds) (lo hi : Option Int) : RepAll K F (cutV vs lo hi) (cutD ds lo hi) := by
  unfold cutV cutD
  rw [r.length]
  exact (r.drop _).take _
theorem cut_all {ds : List D} {lo hi : Option Int} (h : HT.sIx ds.length 0 lo = 0 ∧ HT.sIx ds.length ds.length hi = ds.length) : cutD ds lo hi = ds := by
  unfold cutD
  rw [h.1, h.2, List.drop_zero, Nat.sub_zero, List.take_length]
def rSlE (K : PySem.W.Frag) (cA : Nat → Addr) (W : WX) : V → Option Int → Option Int → Hp → VK → Prop := fun x lo hi H Q => ∃ (σ : L2.St) (F : Hp) (Af : Nat → List Addr) (env : Env) (d : D), SR K F H σ env Af ∧ Rep K F x d ∧ PG K cA W (rO K) σ F H Af (resO (slice1 d lo hi) env) Q
theorem sl_E : L2.SlR X (rSlE X.K cA W) := by
  refine L2.SlR.mono (L2.SlR.or sl_list sl_tupA) fun x lo hi H Q ⟨σ, F, Af, env, d, S, r, p⟩ => ?_
  cases d with
  | list ds =>
    obtain ⟨a, xs, rfl, e2, e3⟩ := r.lst_inv
    exact .inl ⟨a, xs, rfl, SqL.of (S.ex _ _ e2), fun q hq => PG.newL p S (rep_cut e3 lo hi) hq⟩
  | tuple ds =>
    obtain ⟨a, xs, rfl, e2, e3⟩ := r.tup_inv
    refine .inr ⟨a, xs, rfl, ex_t S.ex e2, fun h => ?_, fun _ q hq => PG.newT p S (rep_cut e3 lo hi) hq⟩
    rw [e3.length] at h
    have p' : PG X.K cA W (rO X.K) σ F H Af (.ok (O.val (.tuple (cutD ds lo hi)), env)) Q := p
    rw [cut_all h] at p'
    exact p'.nowV S r
  | _ => exact p.elim
theorem e_slice (hX : At nm T cA fA n W X) {x : E} {lo hi : Option E} {a : Expr} {l u : Option Expr} {p2 pos : Pos} (ha : PE X a (TO X cA W (ev x))) (hl : PO X l (TP X cA W (optI ev lo))) (hu : PO X u (TP X cA W (optI ev hi))) :
    PE X (.Subscript a (.Slice l u none p2) pos) (TO X cA W (stepE T ev exs (.slice x lo hi))) := by
  refine (pe_slice (sl_E (cA := cA) (W := W)) ha.toD hl hu).mono fun σ H Q h => ?_
  have h' : TO X cA W (fun env => (evD ev x env).bind fun p => (optI ev lo p.2).bind fun q => (optI ev hi q.2).bind fun r => resO (slice1 p.1 q.1 r.1) r.2) σ H Q := h
  refine TG.bind (rep := rD X.K) (r := evD ev x) (k := fun d env => (optI ev lo env).bind fun q => (optI ev hi q.2).bind fun r => resO (slice1 d q.1 r.1) r.2) h' fun d env1 v F1 H1 Af1 C s1 r1 nd un q => ?_
  refine PG.tg s1 (PG.bind (rep := rI) (k := fun i env => (optI ev hi env).bind fun r => resO (slice1 d i r.1) r.2) q fun i env2 j F2 H2 Af2 C2 _ s2 t2 r2 nd2 un2 q2 => ?_)
  refine PG.tg s2 (PG.bind (rep := rI) (k := fun i' env => resO (slice1 d i i') env) q2 fun i' env3 j' F3 H3 Af3 C3 _ s3 t3 r3 nd3 un3 q3 => ?_)
  obtain rfl : j = i := r2.2
  obtain rfl : j' = i' := r3.2
  exact ⟨σ, F3, Af3, env3, d, s3, (r1.2.mono t2.ex).mono t3.ex, q3⟩

/-- x[::-1] -/
def tBack (K : PySem.W.Frag) (te : TE) : TE := fun σ H Q => te σ H fun x H1 => (∃ a xs, x = .ref a ∧ SqL K H1 a xs ∧ ∀ p, H1 p = none → Q (.ref p) (upd H1 p (.lst xs.reverse))) ∨ (∃ a xs, x = .ref a ∧ SqT K H1 a xs ∧ ∀ p, H1 p = none → Q (.ref p) (upd H1 p (.tup xs.reverse)))
theorem _root_.L2.Vals.reverse' {xs : List V} {us : List Value} (r : Vals xs us) : Vals xs.reverse us.reverse := r.reverse
theorem pe_back {e : Expr} {te : TE} {p1 p2 p3 pos : Pos} {kd : Nat} (he : PE X e te) : PE X (.Subscript e (.Slice none none (some (.UnaryOp .USub (.Constant (.int 1) kd p1) p2)) p3) pos) (tBack X.K te) := by
  refine ⟨fun pins s σ H Q I h => ?_⟩
  refine Subscript_ (thn (he.run pins s σ H _ I h) fun v s1 ⟨x, H1, I1, r1, q1⟩ => ?_)
  refine wpAny_Slice ?_
  rw [evalPart_none]
  refine wpAny_pure ?_
  refine wpAny_pure ?_
  have hp : PO X (some (.UnaryOp .USub (.Constant (.int 1) kd p1) p2)) (tPart (tUn _ (tC (.int 1)))) := po_some (pe_un un_neg pe_int)
  refine thn (hp.run pins s1 σ H1 (fun o H' => o = some (-1) ∧ H' = H1) I1 ⟨1, rfl, -1, rfl, rfl, rfl⟩) fun vk s2 ⟨o, H2, I2, pk, eo, eh⟩ => ?_
  subst eo eh
  have I4 : Inv X pins σ H2 { s2 with heap := s2.heap.push { cls := .type "slice", data := .fields #[.none, .none, vk] } } := I2.kept (t' := s2.toks) fun b ob q => Heap.get?_push_of_some _ q
  rcases q1 with ⟨a, xs, rfl, hs, q⟩ | ⟨a, xs, rfl, hs, q⟩
  · cases r1
    obtain ⟨its, r, ht, hz⟩ := I4.list hs
    refine tail_any (ops := [.ref a, .ref s2.heap.objs.size]) ht.isList.typeIs slot_list_getitem.lookup ?_ (by with_unfolding_all rfl)
    refine wpAny_getItem_list_slice ht.isList (Heap.IsSliceOf.new ..) .none .none pk (by decide) ?_ (by rw [List.size_toArray, ← r.length]; exact hz)
    rw [PySem.W.krv_pick, show its.toArray.toList.reverse.toArray = its.reverse.toArray from rfl]
    refine ⟨.ref _, _, I4.laid (t' := s2.toks) (o := .lst xs.reverse) (fun b ob q => Heap.get?_push_of_some _ q) (Nat.le_refl _) ?_, rfl, q _ (I4.hok.fresh (Nat.le_refl _))⟩
    exact ⟨by rw [List.length_reverse]; exact hz, _, 0, r.reverse, Heap.get?_push_size _ rfl⟩
  · cases r1
    obtain ⟨its, r, ht, hz⟩ := I4.tuple hs
    refine tail_any (ops := [.ref a, .ref s2.heap.objs.size]) ht.typeIs PyProof.Rows.slot_tuple_getitem.lookup ?_ (by with_unfolding_all rfl)
    refine HT.getItem_tuple_back ht (Heap.IsSliceOf.new ..) pk ?_ (by rw [List.size_toArray, ← r.length]; exact hz)
    rw [show its.toArray.toList.reverse.toArray = its.reverse.toArray from rfl]
    refine ⟨.ref _, _, I4.laid (t' := s2.toks) (o := .tup xs.reverse) (fun b ob q => Heap.get?_push_of_some _ q) (Nat.le_refl _) ?_, rfl, q _ (I4.hok.fresh (Nat.le_refl _))⟩
    exact ⟨by rw [List.length_reverse]; exact hz, _, r.reverse, IsTup.new _ _⟩
theorem e_rev (hX : At nm T cA fA n W X) {x : E} {a : Expr} {p1 p2 p3 pos : Pos} {kd : Nat} (ha : PE X a (TO X cA W (ev x))) : PE X (.Subscript a (.Slice none none (some (.UnaryOp .USub (.Constant (.int 1) kd p1) p2)) p3) pos) (TO X cA W (stepE T ev exs (.op1 .rev x))) := by
  refine (pe_back ha.toD).mono fun σ H Q h => ?_
  refine TG.bind (rep := rD X.K) (r := evD ev x) (k := fun d env => resO (ev1 .rev d) env) h fun d env1 v F1 H1 Af1 C s1 r1 nd un q => ?_
  cases d with
  | list ds =>
    obtain ⟨a, xs, rfl, e2, e3⟩ := r1.2.lst_inv
    exact .inl ⟨a, xs, rfl, SqL.of (s1.ex _ _ e2), fun p hp => PG.newL q s1 e3.reverse hp⟩
  | tuple ds =>
    obtain ⟨a, xs, rfl, e2, e3⟩ := r1.2.tup_inv
    exact .inr ⟨a, xs, rfl, ex_t s1.ex e2, fun p hp => PG.newT q s1 e3.reverse hp⟩
  | _ => exact q.elim

/-! list(range(..)) -/
theorem okRange_spec {i : Int} (h : okRange i = true) : -(2 ^ 62) ≤ i ∧ i < 2 ^ 62 := by
  unfold okRange at h
  simp only [Bool.and_eq_true, decide_eq_true_eq] at h
  omega
theorem rep_rangeD {K : PySem.W.Frag} {F : Hp} (a b : Int) : RepAll K F (rgV a b) (rangeD a b) := by
  unfold rgV rangeD
  induction List.range (b - a).toNat with
  | nil => exact .nil
  | cons x r ih => exact .cons (.int _) ih
theorem e_listRange (hX : At nm T cA fA n W X) {x : E} {b : Expr} {f g : Str} {p0 p1 p2 pos : Pos} (hf : f = "list") (h : Gl X f ∧ f ∈ nm.bl) (hg : g = "range") (h2 : Gl X g ∧ g ∈ nm.bl) (hs : noStar b = true) (hb : PE X b (TO X cA W (ev x))) :
    PE X (.Call (.Name f p0) [.Call (.Name g p1) [b] [] p2] [] pos) (TO X cA W (stepE T ev exs (.op1 .listRange x))) := by
  subst hf hg
  refine (pe_listRg hX.calm h.1 (hX.blt _ h.2) (prg_1 h2.1 (hX.blt _ h2.2) hb.toD (star1 hs _ _))).mono fun σ H Q h => ?_
  refine TG.bind (rep := rD X.K) (r := evD ev x) (k := fun d env => resO (ev1 .listRange d) env) h fun d env1 v F1 H1 Af1 C s1 r1 nd un q => ?_
  cases d with
  | int j =>
    cases r1.2.int_inv
    simp only [ev1] at q
    split at q
    · rename_i hj
      rw [Bool.and_eq_true, decide_eq_true_eq] at hj
      have := okRange_spec hj.1
      have hm : j ≤ 1000000 := hj.2
      exact ⟨j, rfl, ⟨by omega, by omega, by omega, by omega, by omega⟩, fun p hp => PG.newL q s1 (rep_rangeD 0 j) hp⟩
    · exact q.elim
  | _ => exact q.elim
theorem e_listRange2 (hX : At nm T cA fA n W X) {x y : E} {b c : Expr} {f g : Str} {p0 p1 p2 pos : Pos} (hf : f = "list") (h : Gl X f ∧ f ∈ nm.bl) (hg : g = "range") (h2 : Gl X g ∧ g ∈ nm.bl) (hs : noStar b = true) (hs2 : noStar c = true) (hb : PE X b (TO X cA W (ev x))) (hc : PE X c (TO X cA W (ev y))) :
    PE X (.Call (.Name f p0) [.Call (.Name g p1) [b, c] [] p2] [] pos) (TO X cA W (stepE T ev exs (.op2 .listRange2 x y))) := by
  subst hf hg
  refine (pe_listRg hX.calm h.1 (hX.blt _ h.2) (prg_2 h2.1 (hX.blt _ h2.2) hb.toD hc.toD (star1 hs _ _) (star1 hs2 _ _) (by rw [star1 hs2]; rfl))).mono fun σ H Q h => ?_
  refine TG.imp (tOp2 h) fun v H1 q => TG.imp q fun w H2 q2 => ?_
  obtain ⟨σ', F, Af, env, d, e, s1, r1, r2, q⟩ := q2
  obtain ⟨o, eo, q⟩ := res2 q
  cases d with
  | int i =>
    cases e with
    | int j =>
      cases r1.int_inv
      cases r2.int_inv
      simp only [ev2] at eo
      split at eo
      · rename_i hj
        cases eo
        simp only [Bool.and_eq_true, decide_eq_true_eq] at hj
        have := okRange_spec hj.1.1
        have := okRange_spec hj.1.2
        have hm : j - i ≤ 1000000 := hj.2
        exact ⟨i, j, rfl, rfl, ⟨by omega, by omega, by omega, by omega, by omega⟩, fun p hp => PG.newL q s1 (rep_rangeD i j) hp⟩
      · cases eo
    | _ => cases eo
  | _ => cases e <;> cases eo
end
end Ev

end
section
set_option autoImplicit false
set_option linter.all false
set_option maxRecDepth 100000
/-! list(reversed(a list)) -/
namespace Ev
open PySem PySem.Spec PyProof.Rows RT
section
variable {prog : Program} {w : World} {A : Around} {E : Value → Shared → Prop} {s : Shared}
theorem init_rev {R : Result → Shared → Prop} {it l : Addr} {items : Array Value} (hh : A.handled = none) (hit : s.heap.IsRevIter it l ((items.size : Int) - 1)) (hl : s.heap.IsList l items) (hne : l ≠ it) (hn : items.size ≤ sizeLine)
    (S : Addr) (hSi : S ≠ it) (hSl : S ≠ l) (hS : s.heap.get? S = some { cls := .type "list", data := .seq #[] })
    (hR : ∀ h' tk acc' c', (∀ b o, b ≠ S → b ≠ it → s.heap.get? b = some o → h'.get? b = some o) → h'.get? S = some { cls := .type "list", dict := none, data := .seq acc' c', slots := #[] } →
      ItemsOf (fun i v => items[items.size - 1 - i]? = some v) acc' items.size → R (.ok (.ret .none)) { s with heap := h', toks := tk }) :
    wpAny (model prog w) A.in1 (Builtin.«list.__init__» ⟨[.ref S, .ref it], []⟩)
      (fun fin s' => match fin with | .done f => R (.ok f) s' | .again c' => c'.quiet = true ∧ codeAny (model prog w) A c' R s') (fun e s' => R (.error e) s') s := by
  show wpAny _ _ (do let old ← Builtin.List.listItems (.ref S); Builtin.List.listUpdate (.ref S) (fun _ => #[]); letGo old.toList.reverse; Builtin.List.listExtendWith (.ref S) (.ref it) .none) _ _ s
  refine wpAny_bind ?_
  unfold Builtin.List.listItems
  refine wpAny_bind (wpAny_seqItems hS rfl (wpAny_pure ?_))
  show wpAny _ _ (updateSeq S (fun _ => #[]) >>= fun _ => letGo (#[] : Array Value).toList.reverse >>= fun _ => Builtin.List.listExtendWith (.ref S) (.ref it) .none) _ _ s
  refine wpAny_bind (wpAny_updateSeq hS rfl ?_)
  have hS₂ := Heap.get?_update_self (Obj.mapSeq (fun _ => (#[] : Array Value))) hS rfl
  have oth : ∀ b o, b ≠ S → s.heap.get? b = some o → (s.heap.update S (Obj.mapSeq (fun _ => (#[] : Array Value)))).get? b = some o :=
    fun b o hb e => (Heap.get?_update_other _ _ (Ne.symm hb)).trans e
  refine wpAny_bind (wpAny_letGo ?_)
  have hit1 : (s.heap.update S (Obj.mapSeq (fun _ => (#[] : Array Value)))).IsRevIter it l ((items.size : Int) - 1) := hit.at fun o e => oth it o (Ne.symm hSi) e
  have hl1 : (s.heap.update S (Obj.mapSeq (fun _ => (#[] : Array Value)))).IsList l items := hl.at fun o e => oth l o (Ne.symm hSl) e
  have W := (Walks.listRev (prog := prog) (w := w) (A := A.in1) hh it l hne items).toS
  have hSf : S ∉ [it, l] := by simp only [List.mem_cons, List.not_mem_nil, or_false, not_or]; exact ⟨hSi, hSl⟩
  have hT : ({ s with heap := s.heap.update S (Obj.mapSeq (fun _ => (#[] : Array Value))) } : Shared).TypeIs (.ref it) "list_reverseiterator" := Heap.IsRevIter.typeIs (s := { s with heap := s.heap.update S (Obj.mapSeq (fun _ => (#[] : Array Value))) }) hit1
  have h1 : Builtin.List.listSameRef (.ref S) (.ref it) = false := by simp [Builtin.List.listSameRef, hSi]
  unfold Builtin.List.listExtendWith
  refine wpAny_bind (wpAny_typeOf hT ?_)
  rw [if_neg (by rw [h1]; decide)]
  refine wpAny_bind (wpAny_pyIter_revIter (s := { s with heap := s.heap.update S (Obj.mapSeq (fun _ => (#[] : Array Value))) }) hit1 ?_)
  refine wpAny_bind (wpAny_holding ?_)
  unfold Builtin.List.listLengthHint
  refine wpAny_bind (wpAny_specialOf hT nolen_lri ?_)
  show wpAny _ A.in1 (specialOf (Value.ref it) (Str.ofString "__length_hint__") >>= _) _ _ _
  refine wpAny_bind (wpAny_specialOf hT hint_lri ?_)
  generalize hid : ("list_reverseiterator.__length_hint__" : String) = id0
  wp_delta
  rw [show splitId id0 = some ("list_reverseiterator", "__length_hint__") from by subst hid; decide +kernel]
  subst hid
  refine wpAny_bind (wpAny_isInstance (b := true) hT (by rw [isSubtype_type]; kernel_rfl) ?_)
  refine wpAny_pure ?_
  rw [if_neg (by decide)]
  have e0 : ((items.size : Nat) : Int) - 1 - ((0 : Nat) : Int) = (items.size : Int) - 1 := by omega
  refine wpAny_pure ⟨plainId_quiet F.plain_extend_loop _, codeAny_extend_loopS W hn _ hSf _ items.size 0 _ _ _ rfl (Nat.zero_le _) ⟨Nat.zero_le _, by rw [e0]; exact hit1, hl1⟩ hS₂ (ItemsOf.nil _) fun s' acc' c' hm hS' hacc => ?_⟩
  rw [Moved.eq_with hm]
  refine hR s'.heap s'.toks acc' c' (fun b o hb hb2 e => hm.heap b o (fun hmem => ?_) (oth b o hb e)) hS' hacc
  rcases List.mem_cons.mp hmem with e' | hmem
  · exact hb e'
  · exact hb2 (List.mem_singleton.mp hmem)
theorem call_list_rev {it l : Addr} {items : Array Value} {Q : Value → Shared → Prop} (hh : A.handled = none) (hit : s.heap.IsRevIter it l ((items.size : Int) - 1)) (hl : s.heap.IsList l items) (hne : l ≠ it) (hn : items.size ≤ sizeLine)
    (hQ : ∀ h' tk acc' c', (∀ b o, b ≠ it → s.heap.get? b = some o → h'.get? b = some o) → h'.get? s.heap.objs.size = some { cls := .type "list", dict := none, data := .seq acc' c', slots := #[] } →
      ItemsOf (fun i v => items[items.size - 1 - i]? = some v) acc' items.size → Q (.ref s.heap.objs.size) { s with heap := h', toks := tk }) :
    wpAny (model prog w) A (call (.type "list") [.ref it]) Q E s := by
  refine callType_codes (Q₁ := fun obj s₁ => obj = .ref s.heap.objs.size ∧ s₁ = { s with heap := s.heap.push { cls := .type "list", data := .seq #[] } }) PySem.F.called_list (PySem.F.typeCall_list_1 _) PySem.F.entry_list_init
    (code_list_new _ ⟨rfl, rfl⟩) fun obj s₁ h₁ => ?_
  obtain ⟨rfl, rfl⟩ := h₁
  have hS : (s.heap.push { cls := .type "list", data := .seq #[] }).get? s.heap.objs.size = some { cls := .type "list", data := .seq #[] } := Heap.get?_push_size _ rfl
  obtain ⟨oi, hoi, _⟩ := id hit
  obtain ⟨ol, hol, _⟩ := id hl
  refine ⟨⟨_, hS, rfl⟩, PySem.F.args_list_init_2 _ _, init_rev (A := A.in1) hh (hit.at fun o e => Heap.get?_push_of_some _ e) (hl.push _) hne hn _ (Nat.ne_of_gt (Heap.lt_size hoi)) (Nat.ne_of_gt (Heap.lt_size hol)) hS fun h' tk acc' c' hk hS' hacc => ?_⟩
  exact ⟨rfl, hQ h' tk acc' c' (fun b o hb e => hk b o (Nat.ne_of_lt (Heap.lt_size e)) hb (Heap.get?_push_of_some _ e)) hS' hacc⟩
end
open L2
section
variable {X : Cx}
/-- list(reversed(x)), x a list: a new list -/
def tLstRev (K : PySem.W.Frag) (te : TE) : TE := fun σ H Q => te σ H fun v H1 => ∃ (a : Addr) (xs : List V), v = .ref a ∧ SqL K H1 a xs ∧ ∀ q, H1 q = none → Q (.ref q) (upd H1 q (.lst xs.reverse))
theorem pe_lstRev {e : Expr} {te : TE} {p p2 pos pos2 : Pos} (hc : X.calm = true) (hg : Gl X "list") (hm : X.mg "list" = none) (hg2 : Gl X "reversed") (hm2 : X.mg "reversed" = none) (he : PE X e te)
    (hs : starEach [e] X.env = (false, eval e X.env) :: starEach [] X.env)
    (hs2 : starEach [.Call (.Name "reversed" p2) [e] [] pos2] X.env = (false, eval (.Call (.Name "reversed" p2) [e] [] pos2) X.env) :: starEach [] X.env := by rfl) :
    PE X (.Call (.Name "list" p) [.Call (.Name "reversed" p2) [e] [] pos2] [] pos) (tLstRev X.K te) := by
  refine ⟨fun pins s σ H Q I h => ?_⟩
  refine Call_ (ld_blt I hg hm boot_list (PyProof.Rows.callWith_type1 (args_cons (Call_ (ld_blt I hg2 hm2 PyProof.Rows.boot_reversed (PyProof.Rows.callWith_type1 (args_cons (thn (he.run pins s σ H _ I h) fun u s1 ⟨v, H1, I1, r1, q1⟩ => args_nil ?_) hs) hs rfl))) hs2) hs2 rfl))
  obtain ⟨a, xs, ev, hq, q⟩ := q1
  subst ev
  obtain rfl : u = Value.ref a := r1
  obtain ⟨its, rv, p', hz⟩ := I1.list hq
  refine call_reversed_list p'.isList (args_nil ?_)
  have k0 : ∀ b o, s1.heap.get? b = some o → (s1.heap.push (revObj a ((its.toArray.size : Int) - 1))).get? b = some o := fun b o e => Heap.get?_push_of_some _ e
  have I2 : L2.Inv X pins σ H1 { s1 with heap := s1.heap.push (revObj a ((its.toArray.size : Int) - 1)) } := I1.kept (t' := s1.toks) k0
  obtain ⟨f0, f1, f2, f3, f4, f5⟩ := I1.fpOk (H' := H1) (b := s1.heap.objs.size) (Nat.le_refl _) (I1.hok.fresh (Nat.le_refl _))
  have hl := p'.isList
  obtain ⟨ol, hol, _⟩ := id hl
  have hne : a ≠ s1.heap.objs.size := Nat.ne_of_lt (Heap.lt_size hol)
  have hn : its.toArray.size ≤ sizeLine := by rw [List.size_toArray, ← rv.length]; exact hz
  refine call_list_rev (s := { s1 with heap := s1.heap.push (revObj a ((its.toArray.size : Int) - 1)) }) (I1.ok.hd hc) ⟨_, Heap.get?_push_size _ rfl, rfl, rfl⟩ (hl.push _) hne hn fun h' tk acc c' hk hS hi => ?_
  have hfr : H1 (s1.heap.push (revObj a ((its.toArray.size : Int) - 1))).objs.size = none := I2.hok.fresh (Nat.le_refl _)
  refine ⟨.ref _, upd H1 (s1.heap.push (revObj a ((its.toArray.size : Int) - 1))).objs.size (.lst xs.reverse), I1.laid (t' := tk) (fun b o e => hk b o (Nat.ne_of_lt (Heap.lt_size e)) (k0 b o e)) (Nat.le_of_lt (Heap.lt_size (Heap.get?_push_size _ rfl))) (show ObjOk X.prog X.w _ _ _ (.lst xs.reverse) from ⟨by rw [List.length_reverse]; exact hz, acc.toList, c', vals_rev rv hi, ?_⟩), rfl, q _ hfr⟩
  rw [Array.toArray_toList]
  exact hS
end
section
variable {nm : Names} {T : Tab} {cA fA : Nat → Addr} {n : Nat} {W : WX} {X : Cx} {ev : E → Env → Res (O × Env)} {exs : List S → Env → Res (Fl × Env)}
theorem e_listRev (hX : At nm T cA fA n W X) {x : E} {b : Expr} {f g : Str} {p0 p1 p2 pos : Pos} (hf : f = "list") (h : Gl X f ∧ f ∈ nm.bl) (hg : g = "reversed") (h2 : Gl X g ∧ g ∈ nm.bl) (hs : noStar b = true) (hb : PE X b (TO X cA W (ev x))) :
    PE X (.Call (.Name f p0) [.Call (.Name g p1) [b] [] p2] [] pos) (TO X cA W (stepE T ev exs (.op1 .listRev x))) := by
  subst hf hg
  refine (pe_lstRev hX.calm h.1 (hX.blt _ h.2) h2.1 (hX.blt _ h2.2) hb.toD (star1 hs _ _)).mono fun σ H Q h => ?_
  refine TG.bind (rep := rD X.K) (r := evD ev x) (k := fun d env => resO (ev1 .listRev d) env) h fun d env1 v F1 H1 Af1 C s1 r1 nd un q => ?_
  cases d with
  | list ds =>
    obtain ⟨a, xs, rfl, e2, e3⟩ := r1.2.lst_inv
    exact ⟨a, xs, rfl, SqL.of (s1.ex _ _ e2), fun p hp => PG.newL q s1 e3.reverse hp⟩
  | _ => exact q.elim
end
end Ev

end
section
set_option autoImplicit false
set_option linter.all false
set_option maxRecDepth 100000
/-! What changes a state: own lists written, slots set, things frozen. -/
namespace Ev
open PySem L2 PyProof.Rows

section
variable {K : PySem.W.Frag} {F F' H H' : Hp} {σ : L2.St} {env env' : Env} {Af Af' : Nat → List Addr}
theorem getElem_set {α : Type} {l : List α} {i j : Nat} {a b : α} (h : (l.set i a)[j]? = some b) : (j = i ∧ i < l.length ∧ b = a) ∨ (j ≠ i ∧ l[j]? = some b) := by
  by_cases e : j = i
  · subst e
    rw [List.getElem?_set_self'] at h
    cases q : l[j]? with
    | none => rw [q] at h; simp at h
    | some u =>
      rw [q] at h
      have : j < l.length := by
        rcases Nat.lt_or_ge j l.length with k | k
        · exact k
        · rw [List.getElem?_eq_none k] at q; cases q
      exact .inl ⟨rfl, this, by simpa using h.symm⟩
  · rw [List.getElem?_set_ne (Ne.symm e)] at h
    exact .inr ⟨e, h⟩

/-- the own list of a slot, written -/
theorem SR.setL (s : SR K F H σ env Af) {i : Nat} {a : Addr} {os os' : List O} {vs vs' : List V} {C : List Addr} (e : (env[i]?).join = some (.lst os)) (ev : σ[i]? = some (some (.ref a))) (h : H a = some (.lst vs)) (ha : Af i = a :: C)
    (r : ROs K F H vs' os' C) : SR K F (upd H a (.lst vs')) σ (setO env i (.lst os')) Af := by
  have hi : a ∈ Af i := by rw [ha]; exact List.mem_cons_self
  have hnd := s.nd i
  rw [ha] at hnd
  have hna : a ∉ C := (List.nodup_cons.mp hnd).1
  refine ⟨fun b o q => ?_, by unfold setO; rw [List.length_set]; exact s.len, fun j o q => ?_, s.nd, s.dj, s.un, fun j b hb => ?_⟩
  · rw [upd_ne]
    · exact s.ex b o q
    · intro z; subst z; rw [s.un i b hi] at q; cases q
  · rcases getElem_set q with ⟨rfl, _, q⟩ | ⟨hj, q⟩
    · cases q
      refine ⟨.ref a, ev, ?_⟩
      rw [ha]
      exact .lst upd_same (r.mono (Ex.refl _) fun b hb => upd_ne fun z => hna (z ▸ hb))
    · obtain ⟨v, h1, h2⟩ := s.at_ j o q
      exact ⟨v, h1, h2.mono (Ex.refl _) fun b hb => upd_ne fun z => hj (s.dj j i a (z ▸ hb) hi)⟩
  · unfold upd
    split
    · exact fun z => nomatch z
    · exact s.th j b hb
theorem Stp.setL {i : Nat} {a : Addr} {o : HO} (hi : a ∈ Af i) : Stp F H Af F (upd H a o) Af [] :=
  ⟨Ex.refl _, fun b u h n => by
    rw [upd_ne]
    · exact h
    · intro z; subst z; exact n ⟨i, hi⟩, fun b h => by
    unfold upd; split
    · exact fun z => nomatch z
    · exact h, fun a h => .inl h, fun a h => .inl h, fun a h => nomatch h⟩
theorem SR.own (s : SR K F H σ env Af) {i : Nat} {os : List O} (e : (env[i]?).join = some (.lst os)) : ∃ a vs C, σ[i]? = some (some (.ref a)) ∧ H a = some (.lst vs) ∧ Af i = a :: C ∧ ROs K F H vs os C := by
  obtain ⟨v, h1, h2⟩ := s.at_ i _ (join_some e)
  generalize hC : Af i = C0 at h2
  cases h2 with
  | lst h r => exact ⟨_, _, _, h1, h, rfl, r⟩
theorem ROs.append_val {vs : List V} {os : List O} {C : List Addr} {v : V} {d : D} (r : Rep K F v d) : ROs K F H vs os C → ROs K F H (vs ++ [v]) (os ++ [.val d]) C := by
  intro h
  induction os generalizing vs C with
  | nil => cases h; exact .cons (C := []) (C' := []) (.val r) .nil
  | cons o os ih => cases h with | cons h1 h2 => exact .cons h1 (ih h2)
theorem ROs.last_val : ∀ {os : List O} {vs : List V} {C : List Addr} {d : D}, ROs K F H vs os C → os.getLast? = some (.val d) → ∃ v, vs[vs.length - 1]? = some v ∧ Rep K F v d ∧ ROs K F H vs.dropLast os.dropLast C
  | [], _, _, _, .nil, e => by cases e
  | [o], _, _, d, .cons h .nil, e => by
    cases e
    obtain ⟨r, rfl⟩ := RO.val_inv h
    exact ⟨_, rfl, r, .nil⟩
  | o :: o2 :: os, _, _, d, .cons (vs := vs) h r, e => by
    obtain ⟨w, h1, h2, h3⟩ := ROs.last_val r (by simpa using e)
    cases r with
    | cons h' r' => exact ⟨w, by simpa using h1, h2, .cons h h3⟩
theorem ROs.all_val : ∀ {os : List O} {vs : List V} {C : List Addr}, ROs K F H vs os C → allVal os = true → C = [] ∧ ∃ ds, os = ds.map .val ∧ RepAll K F vs ds
  | [], _, _, .nil, _ => ⟨rfl, [], rfl, .nil⟩
  | o :: os, _, _, .cons h r, e => by
    cases o with
    | val d =>
      have e : allVal os = true := e
      obtain ⟨rfl, ds, rfl, q⟩ := ROs.all_val r e
      obtain ⟨r', rfl⟩ := RO.val_inv h
      exact ⟨rfl, d :: ds, rfl, .cons r' q⟩
    | _ => cases e
theorem RepAll.set : ∀ {vs : List V} {ds : List D} {v : V} {d : D} (k : Nat), RepAll K F vs ds → Rep K F v d → RepAll K F (vs.set k v) (ds.set k d)
  | _, _, _, _, _, .nil, _ => .nil
  | _, _, _, _, 0, .cons _ r, h => .cons h r
  | _, _, _, _, k + 1, .cons h' r, h => .cons h' (RepAll.set k r h)
theorem ROs.length : ∀ {os : List O} {vs : List V} {C : List Addr}, ROs K F H vs os C → vs.length = os.length
  | _, _, _, .nil => rfl
  | _, _, _, .cons _ r => by rw [List.length_cons, List.length_cons, ROs.length r]

/-! a snapshot -/
def OwnE (Af : Nat → List Addr) (env : Env) (a : Addr) : Prop := ∃ i, a ∈ Af i ∧ ∃ o, env[i]? = some (some o)
open Classical in
/-- everything that is owned, frozen too -/
noncomputable def frzH (F H : Hp) (Af : Nat → List Addr) (env : Env) : Hp := fun a => if OwnE Af env a then H a else F a
open Classical in
noncomputable def unfH (F : Hp) (Af : Nat → List Addr) : Hp := fun a => if Own Af a then none else F a
theorem SR.frzEx (s : SR K F H σ env Af) : Ex F (frzH F H Af env) := fun a o e => by
  unfold frzH
  rw [if_neg]
  · exact e
  · rintro ⟨i, h, _⟩; rw [s.un i a h] at e; cases e
theorem SR.frozen (s : SR K F H σ env Af) : SR K (frzH F H Af env) H σ (frozen env) (fun _ => []) := by
  refine ⟨fun a o e => ?_, by unfold Ev.frozen; rw [List.length_map]; exact s.len, fun i o e => ?_, fun _ => .nil, fun _ _ _ h => (nomatch h), fun _ _ h => (nomatch h), fun _ _ h => (nomatch h)⟩
  · unfold frzH at e
    split at e
    · exact e
    · exact s.ex a o e
  · unfold Ev.frozen at e
    rw [List.getElem?_map] at e
    cases q : env[i]? with
    | none => rw [q] at e; cases e
    | some u =>
      rw [q] at e
      cases u with
      | none => cases e
      | some u =>
        simp only [Option.map_some, Option.some.injEq] at e
        split at e
        · rename_i ht
          cases e
          obtain ⟨v, h1, h2⟩ := s.at_ i u q
          exact ⟨v, h1, .val (h2.freeze s.frzEx (fun a ha => by unfold frzH; rw [if_pos ⟨i, ha, u, q⟩]) ht)⟩
        · cases e
theorem SR.frzOwn (s : SR K F H σ env Af) {F' : Hp} (h : Ex (frzH F H Af env) F') (pr : ∀ a, F' a ≠ none → frzH F H Af env a ≠ none ∨ H a = none) : ∀ a, Own Af a → F' a = none ∨ (∃ xs, F' a = some (.lst xs)) ∨ (∃ kvs, F' a = some (.dK kvs)) := by
  intro a ho
  by_cases hp : OwnE Af env a
  · obtain ⟨i, hi, o, e⟩ := hp
    obtain ⟨v, h1, h2⟩ := s.at_ i o e
    have hz : frzH F H Af env a = H a := by unfold frzH; rw [if_pos ⟨i, hi, o, e⟩]
    rcases h2.there a hi with ⟨xs, q⟩ | ⟨xs, q⟩
    · exact .inr (.inl ⟨xs, h a _ (hz.trans q)⟩)
    · exact .inr (.inr ⟨xs, h a _ (hz.trans q)⟩)
  · refine .inl (Classical.byContradiction fun hn => ?_)
    obtain ⟨i, hi⟩ := ho
    rcases pr a hn with q | q
    · unfold frzH at q
      rw [if_neg hp] at q
      exact q (s.un i a hi)
    · exact s.th i a hi q
mutual
theorem flat_rep {F' : Hp} (un : ∀ a, Own Af a → F' a = none ∨ (∃ xs, F' a = some (.lst xs)) ∨ (∃ kvs, F' a = some (.dK kvs))) : ∀ {d : D} {v : V}, Rep K F' v d → flat d = true → Rep K (unfH F' Af) v d
  | _, _, .non, _ => .non
  | _, _, .bl b, _ => .bl b
  | _, _, .int i, _ => .int i
  | _, _, .str x, _ => .str x
  | _, _, .lst _ _, h => by cases h
  | _, _, .dK _ _, h => by cases h
  | _, _, .tup (a := a) (ds := ds) (xs := xs) h r, hf => by
    have hf' : flats ds = true := hf
    refine .tup ?_ (flats_rep un r hf')
    rcases h with h | h
    · refine .inl ?_
      have key : ¬ Own Af a := fun ho => by
        rcases un a ho with q | ⟨ys, q⟩ | ⟨ys, q⟩ <;> rcases h with h | ⟨o, h⟩ <;> rw [q] at h <;> cases h
      rcases h with h | ⟨o, h⟩
      · exact .inl (by unfold unfH; rw [if_neg key]; exact h)
      · exact .inr ⟨o, by unfold unfH; rw [if_neg key]; exact h⟩
    · exact .inr h
theorem flats_rep {F' : Hp} (un : ∀ a, Own Af a → F' a = none ∨ (∃ xs, F' a = some (.lst xs)) ∨ (∃ kvs, F' a = some (.dK kvs))) : ∀ {ds : List D} {vs : List V}, RepAll K F' vs ds → flats ds = true → RepAll K (unfH F' Af) vs ds
  | _, _, .nil, _ => .nil
  | d :: ds, _, .cons h r, hf => by
    have hf' : (flat d && flats ds) = true := hf
    rw [Bool.and_eq_true] at hf'
    exact .cons (flat_rep un h hf'.1) (flats_rep un r hf'.2)
end
theorem looses_rep {F' H' : Hp} (un : ∀ a, Own Af a → F' a = none ∨ (∃ xs, F' a = some (.lst xs)) ∨ (∃ kvs, F' a = some (.dK kvs))) : ∀ {os : List O} {vs : List V} {C : List Addr}, ROs K F' H' vs os C → looses os = true → ROs K (unfH F' Af) H' vs os C
  | [], _, _, .nil, _ => .nil
  | o :: os, _, _, .cons h r, e => by
    cases o with
    | val d =>
      have e : (flat d && looses os) = true := e
      rw [Bool.and_eq_true] at e
      obtain ⟨r', rfl⟩ := RO.val_inv h
      exact .cons (.val (flat_rep un r' e.1)) (looses_rep un r e.2)
    | _ => cases e
theorem rep_loose {F' H' : Hp} (un : ∀ a, Own Af a → F' a = none ∨ (∃ xs, F' a = some (.lst xs)) ∨ (∃ kvs, F' a = some (.dK kvs))) {v : V} {o : O} {C : List Addr} (r : RO K F' H' v o C) (hl : loose o = true) : RO K (unfH F' Af) H' v o C := by
  cases r with
  | val r => exact .val (flat_rep un r hl)
  | lst h1 r => exact .lst h1 (looses_rep un r hl)
  | _ => cases hl
/-- what was made of a snapshot, back in the state -/
theorem SR.unfrozen (s : SR K F H σ env Af) {F' H' : Hp} {Af' : Nat → List Addr} {C : List Addr} (s' : SR K F' H' σ env' Af') (t : Stp (frzH F H Af env) H (fun _ => []) F' H' Af' C) :
    SR K (unfH F' Af) H' σ env Af ∧ Stp F H Af (unfH F' Af) H' Af C ∧ ∀ x ∈ C, (F' x = none ∧ ¬ Own Af' x) → unfH F' Af x = none ∧ ¬ Own Af x := by
  have no : ∀ a, ¬ Own (fun _ => ([] : List Addr)) a := fun a ⟨i, h⟩ => nomatch h
  have hexF : Ex F (unfH F' Af) := fun a o e => by
    unfold unfH
    rw [if_neg]
    · exact t.ex a o (s.frzEx a o e)
    · rintro ⟨i, h⟩; rw [s.un i a h] at e; cases e
  have kp : ∀ a, Own Af a → H' a = H a := fun a ⟨i, h⟩ => by
    cases q : H a with
    | none => exact absurd q (s.th i a h)
    | some o => exact t.frame a o q (no a)
  refine ⟨⟨fun a o e => ?_, s.len, fun i o e => ?_, s.nd, s.dj, fun i a h => by unfold unfH; rw [if_pos ⟨i, h⟩], fun i a h => t.dom a (s.th i a h)⟩, ⟨hexF, fun a o e _ => t.frame a o e (no a), t.dom, fun a h => ?_, fun a h => .inl h, fun a h => ?_⟩, fun x hx h => ⟨?_, ?_⟩⟩
  · unfold unfH at e
    split at e
    · cases e
    · exact s'.ex a o e
  · obtain ⟨v, h1, h2⟩ := s.at_ i o e
    exact ⟨v, h1, h2.mono hexF fun a ha => kp a ⟨i, ha⟩⟩
  · unfold unfH at h
    split at h
    · exact absurd rfl h
    · rename_i ho
      rcases t.prF a h with q | q | q
      · unfold frzH at q
        rw [if_neg (fun ⟨i, hi, _⟩ => ho ⟨i, hi⟩)] at q
        exact .inl q
      · exact .inr (.inl q)
      · exact absurd q (no a)
  · rcases t.prC a h with q | q
    · exact absurd q (no a)
    · exact .inr q
  · unfold unfH
    split
    · rfl
    · exact h.1
  · rintro ⟨i, hi⟩
    rcases t.prC x hx with q | q
    · exact no x q
    · exact s.th i x hi q
end
section
variable {nm : Names} {T : Tab} {cA fA : Nat → Addr} {n : Nat} {W : WX} {X : Cx} {ev : E → Env → Res (O × Env)} {exs : List S → Env → Res (Fl × Env)}
theorem snap_mono {x : E} {σ : L2.St} {H : Hp} {Q : VK} (h : TO X cA W (stepE T ev exs (.snap x)) σ H Q) : TO X cA W (ev x) σ H Q := by
  obtain ⟨F, Af, env, s, p⟩ := h
  rw [stepE_snap] at p
  refine ⟨frzH F H Af env, fun _ => [], frozen env, s.frozen, ?_⟩
  cases e : ev x (frozen env) with
  | stuck => rw [e] at p; exact p
  | err c =>
    rw [e] at p
    intro F' H' e1 e2 fr
    exact p F' H' (s.frzEx.trans e1) e2 fun a o q _ => fr a o q fun ⟨i, h⟩ => nomatch h
  | ok z =>
    obtain ⟨o, env'⟩ := z
    rw [e] at p
    simp only [Res.bind] at p
    split at p
    · rename_i hl
      intro v F' H' Af' C s' t r nd un
      obtain ⟨g1, g2, g3⟩ := s.unfrozen s' t
      have ow := s.frzOwn t.ex fun a h => by
        rcases t.prF a h with q | q | ⟨i, q⟩
        · exact .inl q
        · exact .inr q
        · cases q
      refine p v (unfH F' Af) H' Af C g1 g2 ?_ nd fun y hy => g3 y hy (un y hy)
      exact rep_loose ow r hl
    · exact p.elim
theorem e_snap {x : E} {a : Expr} (h : PE X a (TO X cA W (ev x))) : PE X a (TO X cA W (stepE T ev exs (.snap x))) := h.mono fun _ _ _ q => snap_mono q
theorem snapT_mono {x : E} {σ : L2.St} {H : Hp} {Q : Bool → Hp → Prop} (h : TT' X cA W (truthE (stepE T ev exs) (.snap x)) σ H Q) : TT' X cA W (truthE ev x) σ H Q := by
  obtain ⟨F, Af, env, s, p⟩ := h
  rw [truthE_eq, stepE_snap] at p
  refine ⟨frzH F H Af env, fun _ => [], frozen env, s.frozen, ?_⟩
  rw [truthE_eq]
  cases e : ev x (frozen env) with
  | stuck => rw [e] at p; exact p
  | err c =>
    rw [e] at p
    intro F' H' e1 e2 fr
    exact p F' H' (s.frzEx.trans e1) e2 fun a o q _ => fr a o q fun ⟨i, h⟩ => nomatch h
  | ok z =>
    obtain ⟨o, env'⟩ := z
    rw [e] at p
    have p : PG X.K cA W rB σ F H Af ((((if loose o then .ok (o, env) else .stuck : Res (O × Env))).bind fzD).bind fun p => match truth p.1 with | some b => .ok (b, p.2) | none => .stuck) Q := p
    show PG X.K cA W rB σ _ H _ ((fzD (o, env')).bind fun p => match truth p.1 with | some b => .ok (b, p.2) | none => .stuck) Q
    by_cases hl : loose o = true
    · rw [if_pos hl] at p
      have p : PG X.K cA W rB σ F H Af ((fzD (o, env)).bind fun p => match truth p.1 with | some b => .ok (b, p.2) | none => .stuck) Q := p
      by_cases ht : o.tree = true
      · have e1 : ∀ env : Env, fzD (o, env) = .ok (o.toD, env) := fun env => if_pos ht
        rw [e1] at p ⊢
        simp only [Res.bind] at p ⊢
        cases hb : truth o.toD with
        | none => simp only [hb] at p; exact p.elim
        | some b =>
          simp only [hb] at p ⊢
          intro b' F' H' Af' C s' t r nd un
          obtain ⟨rfl, rfl⟩ := r
          obtain ⟨g1, g2, g3⟩ := s.unfrozen s' t
          exact p b' (unfH F' Af) H' Af [] g1 g2 ⟨rfl, rfl⟩ .nil fun _ z => nomatch z
      · have e1 : ∀ env : Env, fzD (o, env) = .stuck := fun env => if_neg ht
        rw [e1] at p
        exact p.elim
    · rw [if_neg hl] at p
      exact p.elim
theorem e_lenScr (hX : At nm T cA fA n W X) {i : Nat} {f x : Str} {p0 p1 pos : Pos} (hf : f = "len") (h : Gl X f ∧ f ∈ nm.bl) (hv : isVr X.N X.env.scope i x = true) : PE X (.Call (.Name f p0) [.Name x p1] [] pos) (TO X cA W (stepE T ev exs (.lenScr i))) := by
  subst hf
  obtain ⟨h1, h2, h3, h4⟩ := isVr_spec hv
  refine (pe_callB call_len_seq h.1 (hX.blt _ h.2) boot_len (pa_cons (pe_var h1 h2 h3 h4) pa_nil rfl) (by decide) (by decide) rfl rfl).mono fun σ H Q ⟨F, Af, env, s, p⟩ => ?_
  rw [stepE_lenScr] at p
  split at p
  · rename_i is e
    obtain ⟨v, e1, r⟩ := s.at_ i _ (join_some e)
    obtain ⟨a, rfl, rs⟩ := r.scr_inv
    refine ⟨_, e1, _, _, rfl, .inl (ex_l s.ex rs), ?_⟩
    rw [List.length_map]
    exact p.nowV s (.int _)
  · exact p.elim
theorem e_ixScr (hX : At nm T cA fA n W X) {i : Nat} {x : Str} {p1 pos : Pos} {y : E} {c : Expr} (hs : (match c with | .Slice _ _ _ _ => false | _ => true) = true) (hv : isVr X.N X.env.scope i x = true) (hc : PE X c (TO X cA W (ev y))) : PE X (.Subscript (.Name x p1) c pos) (TO X cA W (stepE T ev exs (.ixScr i y))) := by
  obtain ⟨h1, h2, h3, h4⟩ := isVr_spec hv
  refine (pe_ix ix_list (pe_var h1 h2 h3 h4) hc.toD (by cases c <;> first | (intro _ _; rfl) | cases hs)).mono fun σ H Q ⟨F, Af, env, s, p⟩ => ?_
  rw [stepE_ixScr] at p
  split at p
  · rename_i is e
    obtain ⟨v, e1, r⟩ := s.at_ i _ (join_some e)
    obtain ⟨a, rfl, rs⟩ := r.scr_inv
    refine ⟨_, e1, PG.tg s (PG.bind (k := fun d env => match d with
      | .int j => match L2.atI is j with
        | some k => .ok (O.val (.int k), env)
        | none => .stuck
      | _ => .stuck) p fun d env2 w F2 H2 Af2 C2 _ s2 t2 r2 nd2 un2 q2 => ?_)⟩
    cases d with
    | int j =>
      cases r2.2.int_inv
      cases hk : L2.atI is j with
      | some k =>
        simp only [hk] at q2
        refine ⟨a, is.map V.int, j, .int k, rfl, rfl, ex_l s2.ex (ex_l t2.ex rs), ?_, q2.nowV s2 (.int _)⟩
        obtain ⟨u, h5, h6⟩ := atI_lt hk
        unfold atI
        rw [List.length_map, h5]
        show (is.map V.int)[u]? = _
        rw [List.getElem?_map, h6]; rfl
      | none =>
        simp only [hk] at q2
        exact q2.elim
    | _ => exact q2.elim
  · exact p.elim
/-! x.pop() -/
theorem e_pop (hX : At nm T cA fA n W X) {i : Nat} {x : Str} {p1 ap pos : Pos} (hl : (ap.endLine == pos.line) = true) (hv : isVr X.N X.env.scope i x = true) : PE X (.Call (.Attribute (.Name x p1) "pop" ap) [] [] pos) (TO X cA W (stepE T ev exs (.pop i))) := by
  obtain ⟨h1, h2, h3, h4⟩ := isVr_spec hv
  refine (pe_bm0 PySem.F.plainAttrs_list PySem.F.slot_list_pop PySem.F.type_list_pop mt_pop (pe_var h1 h2 h3 h4) rfl hl).mono fun σ H Q ⟨F, Af, env, s, p⟩ => ?_
  rw [stepE_pop] at p
  split at p
  · rename_i os e
    obtain ⟨a, vs, C, e1, e2, e3, r⟩ := s.own e
    split at p
    · rename_i d ed
      obtain ⟨v, hv, rv, r'⟩ := r.last_val ed
      refine ⟨_, e1, .inl ⟨rfl, vs, SqL.of e2⟩, a, vs, v, rfl, rfl, e2, hv, ?_⟩
      exact p v F (upd H a (.lst vs.dropLast)) Af [] (s.setL e e1 e2 e3 r') (Stp.setL (i := i) (by rw [e3]; exact List.mem_cons_self)) (.val rv) .nil fun _ z => nomatch z
    · exact p.elim
  · exact p.elim
end
end Ev

end
section
set_option autoImplicit false
set_option linter.all false
set_option maxRecDepth 100000
/-! Walks, targets, list comprehensions. -/
namespace Ev
open PySem L2 PyProof.Rows RZ

section
variable {K : PySem.W.Frag} {F F' H H' : Hp} {σ : L2.St} {env env' : Env} {Af Af' : Nat → List Addr}

/-- more stands -/
structure Grow (F H F' H' : Hp) : Prop where
  f : Ex F F'
  h : Ex H H'
  fh : Ex F' H'
  pr : ∀ a, F' a ≠ none → F a ≠ none ∨ H a = none
theorem SR.grow (s : SR K F H σ env Af) (g : Grow F H F' H') : SR K F' H' σ env Af := by
  have kp : ∀ i a, a ∈ Af i → H' a = H a := fun i a h => by
    cases q : H a with
    | none => exact absurd q (s.th i a h)
    | some o => exact g.h a o q
  exact ⟨g.fh, s.len, fun i o e => by
    obtain ⟨v, h1, h2⟩ := s.at_ i o e
    exact ⟨v, h1, h2.mono g.f fun a ha => kp i a ha⟩, s.nd, s.dj, fun i a h => Classical.byContradiction fun n => by
    rcases g.pr a n with q | q
    · exact q (s.un i a h)
    · exact s.th i a h q, fun i a h => by rw [kp i a h]; exact s.th i a h⟩
theorem Stp.grow (g : Grow F H F' H') : Stp F H Af F' H' Af [] :=
  ⟨g.f, fun a o e _ => g.h a o e, fun a h => by
    cases q : H a with
    | none => exact absurd q h
    | some o => rw [g.h a o q]; exact fun z => (nomatch z), fun a h => (g.pr a h).imp id .inl, fun a h => .inl h, fun a h => (nomatch h)⟩
theorem Grow.refl (e : Ex F H) : Grow F H F H := ⟨Ex.refl _, Ex.refl _, e, fun _ h => .inl h⟩

/-- an iterator that gives what ds say -/
structure Walk (K : PySem.W.Frag) (F0 : Hp) (J : It) (ds : List D) : Prop where
  go : ∀ (i : Nat) (F H : Hp), Ex F0 F → Ex F H → i < ds.length → J.go i H
  stop : ∀ (F H : Hp), Ex F0 F → Ex F H → J.stop ds.length H
  yld : ∀ (i : Nat) (F H : Hp) (x : V) (H' : Hp) (d : D), Ex F0 F → Ex F H → ds[i]? = some d → J.yld i H x H' → ∃ F', Grow F H F' H' ∧ Rep K F' x d
def rIt (K : PySem.W.Frag) : Rp (List D) It := fun F H J ds C => C = [] ∧ Walk K F J ds
theorem Walk.list {a : Addr} {xs : List V} {ds : List D} (h : F a = some (.lst xs)) (r : RepAll K F xs ds) : Walk K F (Itl K a) ds where
  go := fun i F1 H1 e1 e2 hi => by
    rw [← r.length] at hi
    exact ⟨xs, xs[i], SqL.of (e2 _ _ (e1 _ _ h)), List.getElem?_eq_getElem hi⟩
  stop := fun F1 H1 e1 e2 => ⟨xs, SqL.of (e2 _ _ (e1 _ _ h)), by rw [r.length]; exact Nat.le_refl _⟩
  yld := fun i F1 H1 x H' d e1 e2 hd y => by
    obtain ⟨rfl, hx⟩ := y
    obtain ⟨v, h1, h2⟩ := r.at hd
    have := hx xs (SqL.of (e2 _ _ (e1 _ _ h)))
    rw [h1] at this
    cases this
    exact ⟨F1, Grow.refl e2, h2.mono e1⟩
theorem Walk.tup {a : Addr} {xs : List V} {ds : List D} (h : SqT K F a xs) (r : RepAll K F xs ds) : Walk K F (Itt K a) ds where
  go := fun i F1 H1 e1 e2 hi => by
    rw [← r.length] at hi
    exact ⟨xs, xs[i], ex_t e2 (ex_t e1 h), List.getElem?_eq_getElem hi⟩
  stop := fun F1 H1 e1 e2 => ⟨xs, ex_t e2 (ex_t e1 h), by rw [r.length]; exact Nat.le_refl _⟩
  yld := fun i F1 H1 x H' d e1 e2 hd y => by
    obtain ⟨rfl, hx⟩ := y
    obtain ⟨v, h1, h2⟩ := r.at hd
    have := hx xs (ex_t e2 (ex_t e1 h))
    rw [h1] at this
    cases this
    exact ⟨F1, Grow.refl e2, h2.mono e1⟩
theorem Walk.range (i0 : Int) (n : Nat) : Walk K F (Itr i0 n) ((List.range n).map fun (k : Nat) => .int (i0 + (k : Int))) where
  go := fun i F1 H1 e1 e2 hi => by simpa [Itr] using hi
  stop := fun F1 H1 e1 e2 => by simp [Itr]
  yld := fun i F1 H1 x H' d e1 e2 hd y => by
    obtain ⟨rfl, rfl⟩ := y
    rw [List.getElem?_map] at hd
    cases hi : (List.range n)[i]? with
    | none => rw [hi] at hd; cases hd
    | some k =>
      rw [hi] at hd
      obtain ⟨_, hk⟩ := List.getElem?_eq_some_iff.mp hi
      rw [List.getElem_range] at hk
      subst hk
      cases hd
      exact ⟨F1, Grow.refl e2, .int _⟩
theorem Walk.rangeS (i0 c : Int) (n : Nat) : Walk K F (Itc i0 c n) ((List.range n).map fun (k : Nat) => .int (i0 + (k : Int) * c)) where
  go := fun i F1 H1 e1 e2 hi => by simpa [Itc] using hi
  stop := fun F1 H1 e1 e2 => by simp [Itc]
  yld := fun i F1 H1 x H' d e1 e2 hd y => by
    obtain ⟨rfl, rfl⟩ := y
    rw [List.getElem?_map] at hd
    cases hi : (List.range n)[i]? with
    | none => rw [hi] at hd; cases hd
    | some k =>
      rw [hi] at hd
      obtain ⟨_, hk⟩ := List.getElem?_eq_some_iff.mp hi
      rw [List.getElem_range] at hk
      subst hk
      cases hd
      exact ⟨F1, Grow.refl e2, .int _⟩
theorem Grow.tup {p : Addr} {vs : List V} (e : Ex F H) (hp : H p = none) : Grow F H (upd F p (.tup vs)) (upd H p (.tup vs)) := by
  have hf : F p = none := by
    cases q : F p with
    | none => rfl
    | some o => rw [e p o q] at hp; cases hp
  exact ⟨Ex.new hf, Ex.new hp, fun a o q => by
    by_cases h : a = p
    · subst h; rw [upd_same] at q ⊢; exact q
    · rw [upd_ne h] at q ⊢; exact e a o q, fun a h => by
    by_cases z : a = p
    · exact .inr (z ▸ hp)
    · rw [upd_ne z] at h; exact .inl h⟩
theorem Walk.enum {a : Addr} {xs : List V} {ds : List D} (h : F a = some (.lst xs)) (r : RepAll K F xs ds) : Walk K F (Ite K a) (ds.mapIdx fun i x => .tuple [.int i, x]) where
  go := fun i F1 H1 e1 e2 hi => by
    rw [List.length_mapIdx, ← r.length] at hi
    exact ⟨xs, xs[i], SqL.of (e2 _ _ (e1 _ _ h)), List.getElem?_eq_getElem hi⟩
  stop := fun F1 H1 e1 e2 => ⟨xs, SqL.of (e2 _ _ (e1 _ _ h)), by rw [List.length_mapIdx, r.length]; exact Nat.le_refl _⟩
  yld := fun i F1 H1 x H' d e1 e2 hd y => by
    obtain ⟨p, x, rfl, hp, rfl, hx⟩ := y
    rw [List.getElem?_mapIdx] at hd
    cases hi : ds[i]? with
    | none => rw [hi] at hd; cases hd
    | some d0 =>
      rw [hi] at hd
      cases hd
      obtain ⟨v, h1, h2⟩ := r.at hi
      have := hx xs (SqL.of (e2 _ _ (e1 _ _ h)))
      rw [h1] at this
      cases this
      have g := Grow.tup (vs := [V.int (i : Nat), x]) e2 hp
      exact ⟨_, g, .tup (.inl (.inl upd_same)) (.cons (.int _) (.cons (h2.mono (e1.trans g.f)) .nil))⟩
theorem zipW_get {α β γ : Type} {f : α → β → γ} : ∀ {xs : List α} {ys : List β} {i : Nat} {z : γ}, (List.zipWith f xs ys)[i]? = some z → ∃ x y, xs[i]? = some x ∧ ys[i]? = some y ∧ z = f x y
  | [], _, _, _, h => by simp at h
  | _ :: _, [], _, _, h => by simp at h
  | x :: xs, y :: ys, 0, _, h => by simp at h; exact ⟨x, y, rfl, rfl, h.symm⟩
  | x :: xs, y :: ys, i + 1, _, h => by
    obtain ⟨a, b, h1, h2, h3⟩ := zipW_get (f := f) (xs := xs) (ys := ys) (i := i) (by simpa using h)
    exact ⟨a, b, by simpa using h1, by simpa using h2, h3⟩
theorem Walk.zipL {a b : Addr} {xs ys : List V} {ds es : List D} (h : F a = some (.lst xs)) (r : RepAll K F xs ds) (h' : F b = some (.lst ys)) (r' : RepAll K F ys es) : Walk K F (Itz K a b) (List.zipWith (fun x y => .tuple [x, y]) ds es) where
  go := fun i F1 H1 e1 e2 hi => by
    rw [List.length_zipWith, ← r.length, ← r'.length] at hi
    exact ⟨xs, ys, xs[i]'(by omega), ys[i]'(by omega), SqL.of (e2 _ _ (e1 _ _ h)), SqL.of (e2 _ _ (e1 _ _ h')), List.getElem?_eq_getElem _, List.getElem?_eq_getElem _⟩
  stop := fun F1 H1 e1 e2 => ⟨xs, ys, SqL.of (e2 _ _ (e1 _ _ h)), SqL.of (e2 _ _ (e1 _ _ h')), by rw [List.length_zipWith, r.length, r'.length]; omega⟩
  yld := fun i F1 H1 x H' d e1 e2 hd y => by
    obtain ⟨p, x, y, rfl, hp, rfl, hx, hy⟩ := y
    obtain ⟨d1, d2, k1, k2, rfl⟩ := zipW_get hd
    obtain ⟨v, h1, h2⟩ := r.at k1
    obtain ⟨w, h3, h4⟩ := r'.at k2
    have z := hx xs (SqL.of (e2 _ _ (e1 _ _ h)))
    rw [h1] at z
    cases z
    have z := hy ys (SqL.of (e2 _ _ (e1 _ _ h')))
    rw [h3] at z
    cases z
    have g := Grow.tup (vs := [x, y]) e2 hp
    exact ⟨_, g, .tup (.inl (.inl upd_same)) (.cons (h2.mono (e1.trans g.f)) (.cons (h4.mono (e1.trans g.f)) .nil))⟩
theorem Walk.zipT {a b : Addr} {xs ys : List V} {ds es : List D} (h : SqT K F a xs) (r : RepAll K F xs ds) (h' : SqT K F b ys) (r' : RepAll K F ys es) : Walk K F (ItzT K a b) (List.zipWith (fun x y => .tuple [x, y]) ds es) where
  go := fun i F1 H1 e1 e2 hi => by
    rw [List.length_zipWith, ← r.length, ← r'.length] at hi
    exact ⟨xs, ys, xs[i]'(by omega), ys[i]'(by omega), ex_t e2 (ex_t e1 h), ex_t e2 (ex_t e1 h'), List.getElem?_eq_getElem _, List.getElem?_eq_getElem _⟩
  stop := fun F1 H1 e1 e2 => ⟨xs, ys, ex_t e2 (ex_t e1 h), ex_t e2 (ex_t e1 h'), by rw [List.length_zipWith, r.length, r'.length]; omega⟩
  yld := fun i F1 H1 x H' d e1 e2 hd y => by
    obtain ⟨p, x, y, rfl, hp, rfl, hx, hy⟩ := y
    obtain ⟨d1, d2, k1, k2, rfl⟩ := zipW_get hd
    obtain ⟨v, h1, h2⟩ := r.at k1
    obtain ⟨w, h3, h4⟩ := r'.at k2
    have z := hx xs (ex_t e2 (ex_t e1 h))
    rw [h1] at z
    cases z
    have z := hy ys (ex_t e2 (ex_t e1 h'))
    rw [h3] at z
    cases z
    have g := Grow.tup (vs := [x, y]) e2 hp
    exact ⟨_, g, .tup (.inl (.inl upd_same)) (.cons (h2.mono (e1.trans g.f)) (.cons (h4.mono (e1.trans g.f)) .nil))⟩

/-! setting slots -/
theorem SR.set (s : SR K F H σ env Af) {i : Nat} {v : V} {o : O} {C : List Addr} (hi : i < env.length) (r : RO K F H v o C) (nd : C.Nodup) (un : ∀ x ∈ C, F x = none ∧ ¬ Own Af x) : SR K F H (σ.set i (some v)) (setO env i o) (fun j => if j = i then C else Af j) := by
  refine ⟨s.ex, by unfold setO; rw [List.length_set, List.length_set]; exact s.len, fun j u e => ?_, fun j => ?_, fun j k a h1 h2 => ?_, fun j a h1 => ?_, fun j a h1 => ?_⟩
  · rcases getElem_set e with ⟨rfl, _, q⟩ | ⟨hj, q⟩
    · cases q
      refine ⟨v, ?_, ?_⟩
      · rw [List.getElem?_set_self (by rw [s.len]; exact hi)]
      · rw [if_pos rfl]; exact r
    · obtain ⟨w, h1, h2⟩ := s.at_ j u q
      refine ⟨w, ?_, ?_⟩
      · rw [List.getElem?_set_ne (Ne.symm hj)]; exact h1
      · rw [if_neg hj]; exact h2
  · show (if j = i then C else Af j).Nodup
    split
    · exact nd
    · exact s.nd j
  · have h1 : a ∈ (if j = i then C else Af j) := h1
    have h2 : a ∈ (if k = i then C else Af k) := h2
    split at h1 <;> split at h2
    · rename_i a1 a2; rw [a1, a2]
    · exact absurd ⟨k, h2⟩ (un a h1).2
    · exact absurd ⟨j, h1⟩ (un a h2).2
    · exact s.dj _ _ a h1 h2
  · have h1 : a ∈ (if j = i then C else Af j) := h1
    split at h1
    · exact (un a h1).1
    · exact s.un j a h1
  · have h1 : a ∈ (if j = i then C else Af j) := h1
    split at h1
    · rcases r.there a h1 with ⟨xs, q⟩ | ⟨xs, q⟩ <;> rw [q] <;> exact fun z => nomatch z
    · exact s.th j a h1
/-- fewer things are owned -/
def Less (Af Af' : Nat → List Addr) : Prop := ∀ i, Af' i = Af i ∨ Af' i = []
theorem Less.own (l : Less Af Af') {a : Addr} : Own Af' a → Own Af a := fun ⟨i, h⟩ => by
  rcases l i with q | q
  · exact ⟨i, q ▸ h⟩
  · rw [q] at h; cases h
theorem Stp.less (l : Less Af Af') : Stp F H Af F H Af' [] := ⟨Ex.refl _, fun _ _ h _ => h, fun _ h => h, fun _ h => .inl h, fun _ h => .inl (l.own h), fun _ h => nomatch h⟩
theorem Less.refl : Less Af Af := fun _ => .inl rfl
theorem Less.trans {Af1 Af2 Af3 : Nat → List Addr} (a : Less Af1 Af2) (b : Less Af2 Af3) : Less Af1 Af3 := fun i => by
  rcases b i with q | q
  · rcases a i with p | p
    · exact .inl (q.trans p)
    · exact .inr (q.trans p)
  · exact .inr q
theorem Less.set (i : Nat) : Less Af (fun j => if j = i then [] else Af j) := fun j => by
  show (if j = i then [] else Af j) = _ ∨ (if j = i then [] else Af j) = _
  split
  · exact .inr rfl
  · exact .inl rfl

/-! targets -/
/-- a, b, .. = a tuple, a list of that length -/
def gTL (K : PySem.W.Frag) (n : Nat) (t : L2.TGs) : L2.TG := fun v σ H Q => gTup K n t v σ H Q ∨ gLst K n t v σ H Q
theorem pg_tl {X : Cx} {pos : Pos} {es : List Expr} {k : Nat} {t : L2.TGs} {n : Nat} (hc : X.calm = true) (h : PGs X es t)
    (hn : (assignEach es X.env).length = n) (hst : (assignEach es X.env).findIdx? (·.1) = none) : L2.PG X (.Tuple es k pos) (gTL X.K n t) :=
  ⟨fun pins s σ H v u Q I r hw => hw.elim (fun q => (pg_tup hc h hn hst).run pins s σ H v u Q I r q) (fun q => (pg_lst hc h hn hst).run pins s σ H v u Q I r q)⟩
mutual
def gT (K : PySem.W.Frag) : Tgt → L2.TG
  | .nm i => gName i
  | .tup ts => gTL K ts.length (gTs K ts)
def gTs (K : PySem.W.Frag) : List Tgt → TGs
  | [] => gNil
  | t :: ts => gCons (gT K t) (gTs K ts)
end
/-- σ' is σ but for the slots of is -/
def Same (is : List Nat) (σ σ' : L2.St) : Prop := σ'.length = σ.length ∧ ∀ j, j ∉ is → σ'[j]? = σ[j]?
theorem Same.refl (is : List Nat) (σ : L2.St) : Same is σ σ := ⟨rfl, fun _ _ => rfl⟩
theorem Same.trans {is js : List Nat} {σ1 σ2 σ3 : L2.St} (a : Same is σ1 σ2) (b : Same js σ2 σ3) : Same (is ++ js) σ1 σ3 := ⟨b.1.trans a.1, fun j hj => by
  rw [List.mem_append, not_or] at hj
  exact (b.2 j hj.2).trans (a.2 j hj.1)⟩
theorem Same.mono {is js : List Nat} {σ1 σ2 : L2.St} (a : Same is σ1 σ2) (h : ∀ i ∈ is, i ∈ js) : Same js σ1 σ2 := ⟨a.1, fun j hj => a.2 j fun z => hj (h j z)⟩
theorem Same.set (i : Nat) (v : Option V) (σ : L2.St) : Same [i] σ (σ.set i v) := ⟨List.length_set, fun j hj => List.getElem?_set_ne (fun z => hj (by simp [z]))⟩
mutual
theorem gT_ok : ∀ (t : Tgt) {d : D} {x : V} {env env' : Env} {σ : L2.St} {H : Hp} {Af : Nat → List Addr} {Q : L2.St → Hp → Prop}, assignT t d env = some env' → SR K F H σ env Af → Rep K F x d →
    (∀ σ' Af', SR K F H σ' env' Af' → Less Af Af' → Same (tslots t) σ σ' → Q σ' H) → gT K t x σ H Q
  | .nm i, d, x, env, env', σ, H, Af, Q, e, s, r, q => by
    have e : (if i < env.length then some (setO env i (.val d)) else none) = some env' := e
    split at e
    · rename_i hi
      cases e
      exact q _ _ (s.set hi (.val r) .nil fun _ z => nomatch z) (Less.set i) (Same.set i _ σ)
    · cases e
  | .tup ts, d, x, env, env', σ, H, Af, Q, e, s, r, q => by
    cases d with
    | tuple ds =>
      have e : assignTs ts ds env = some env' := e
      obtain ⟨a, xs, rfl, h1, h2⟩ := r.tup_inv
      have hl : xs.length = ts.length := by rw [h2.length]; exact assignTs_len e
      exact .inl ⟨a, xs, rfl, ex_t s.ex h1, hl, gTs_ok ts e s h2 q⟩
    | list ds =>
      have e : assignTs ts ds env = some env' := e
      obtain ⟨a, xs, rfl, h1, h2⟩ := r.lst_inv
      have hl : xs.length = ts.length := by rw [h2.length]; exact assignTs_len e
      exact .inr ⟨a, xs, rfl, SqL.of (s.ex _ _ h1), hl, gTs_ok ts e s h2 q⟩
    | _ => cases e
theorem gTs_ok : ∀ (ts : List Tgt) {ds : List D} {xs : List V} {env env' : Env} {σ : L2.St} {H : Hp} {Af : Nat → List Addr} {Q : L2.St → Hp → Prop}, assignTs ts ds env = some env' → SR K F H σ env Af → RepAll K F xs ds →
    (∀ σ' Af', SR K F H σ' env' Af' → Less Af Af' → Same (tslotss ts) σ σ' → Q σ' H) → gTs K ts xs σ H Q
  | [], ds, xs, env, env', σ, H, Af, Q, e, s, r, q => by
    cases r with
    | nil =>
      cases e
      exact ⟨rfl, q σ Af s Less.refl (Same.refl _ _)⟩
    | cons _ _ => cases e
  | t :: ts, ds, xs, env, env', σ, H, Af, Q, e, s, r, q => by
    cases r with
    | nil => cases e
    | cons h1 h2 =>
      rename_i v vs d ds
      have e : (match assignT t d env with | some env' => assignTs ts ds env' | none => none) = some env' := e
      cases h : assignT t d env with
      | none => rw [h] at e; cases e
      | some env1 =>
        rw [h] at e
        exact ⟨v, vs, rfl, gT_ok t h s h1 fun σ1 Af1 s1 l1 m1 => gTs_ok ts e s1 h2 fun σ2 Af2 s2 l2 m2 => q σ2 Af2 s2 (l1.trans l2) (m1.trans m2)⟩
theorem assignTs_len : ∀ {ts : List Tgt} {ds : List D} {env env' : Env}, assignTs ts ds env = some env' → ds.length = ts.length
  | [], [], _, _, _ => rfl
  | [], _ :: _, _, _, e => by cases e
  | _ :: _, [], _, _, e => by cases e
  | t :: ts, d :: ds, env, env', e => by
    have e : (match assignT t d env with | some env' => assignTs ts ds env' | none => none) = some env' := e
    cases h : assignT t d env with
    | none => rw [h] at e; cases e
    | some env1 => rw [h] at e; rw [List.length_cons, List.length_cons, assignTs_len e]
end
end
end Ev

end
section
set_option autoImplicit false
set_option linter.all false
set_option maxRecDepth 100000
/-! List comprehensions. -/
namespace Ev
open PySem L2 PyProof.Rows RZ

theorem _root_.L2.PI.mono {X : Cx} {tg it : Expr} {t t' : TI} (h : PI X tg it t) (m : ∀ σ H Q, t' σ H Q → t σ H Q) : PI X tg it t' := ⟨fun pins s σ H Q I q => h.run pins s σ H Q I (m σ H Q q)⟩
section
variable {nm : Names} {T : Tab} {cA fA : Nat → Addr} {n : Nat} {W : WX} {X : Cx} {ev : E → Env → Res (O × Env)} {exs : List S → Env → Res (Fl × Env)} {tg : Expr}
abbrev TIt (X : Cx) (cA : Nat → Addr) (W : WX) (r : Env → Res (List D × Env)) : TI := TG X.K cA W (rIt X.K) r

def iSeq (K : PySem.W.Frag) (te : TE) : TI := fun σ H R => te σ H fun x H1 => ∃ a xs, x = .ref a ∧ ((SqL K H1 a xs ∧ R (Itl K a) H1) ∨ (SqT K H1 a xs ∧ R (Itt K a) H1))
theorem pi_seq {l : Expr} {tl : TE} (hl : PE X l tl) : PI X tg l (iSeq X.K tl) := by
  refine ⟨fun pins s σ H R I h => ?_⟩
  refine thn (hl.run pins s σ H _ I h) fun v s1 ⟨x, H1, I1, r1, q1⟩ => ?_
  obtain ⟨a, xs, e, q1⟩ := q1
  subst e
  cases r1
  rcases q1 with ⟨hq, q⟩ | ⟨hq, q⟩
  · obtain ⟨its, rv, p, hz⟩ := I1.list hq
    refine wpAny_pyIter_list p.isList ?_
    refine ⟨s1.heap.objs.size, [s1.heap.objs.size], _, _, H1, rfl, I1.kept (t' := s1.toks) fun b o e => Heap.get?_push_of_some _ e, turn_list a _, ⟨_, Heap.get?_push_size _ rfl, rfl, rfl⟩, fun b hb => ?_, q⟩
    have e : b = s1.heap.objs.size := by simpa using hb
    subst e
    exact I1.fpOk (Nat.le_refl _) (I1.hok.fresh (Nat.le_refl _))
  · obtain ⟨its, rv, p, hz⟩ := I1.tuple hq
    refine wpAny_pyIter_tuple (show s1.heap.IsTuple a its.toArray from p) ?_
    refine ⟨s1.heap.objs.size, [s1.heap.objs.size], _, _, H1, rfl, I1.kept (t' := s1.toks) fun b o e => Heap.get?_push_of_some _ e, turn_tuple a _, ⟨_, Heap.get?_push_size _ rfl, rfl, rfl⟩, fun b hb => ?_, q⟩
    have e : b = s1.heap.objs.size := by simpa using hb
    subst e
    exact I1.fpOk (Nat.le_refl _) (I1.hok.fresh (Nat.le_refl _))
theorem i_seq {e : E} {a : Expr} (h : PE X a (TO X cA W (ev e))) : PI X tg a (TIt X cA W (items ev (.seq e))) := by
  refine (pi_seq h.toD).mono fun σ H Q h => ?_
  refine TG.bind (rep := rD X.K) (r := evD ev e) (k := fun d env => match d with | .list xs => .ok (xs, env) | .tuple xs => .ok (xs, env) | _ => .stuck) h fun d env1 v F1 H1 Af1 C s1 r1 nd un q => ?_
  cases d with
  | list ds =>
    obtain ⟨a, xs, rfl, e2, e3⟩ := r1.2.lst_inv
    exact ⟨a, xs, rfl, .inl ⟨SqL.of (s1.ex _ _ e2), PG.now q s1 ⟨rfl, .list e2 e3⟩⟩⟩
  | tuple ds =>
    obtain ⟨a, xs, rfl, e2, e3⟩ := r1.2.tup_inv
    exact ⟨a, xs, rfl, .inr ⟨ex_t s1.ex e2, PG.now q s1 ⟨rfl, .tup e2 e3⟩⟩⟩
  | _ => exact q.elim
theorem i_scr (hX : At nm T cA fA n W X) {i : Nat} {x : Str} {p : Pos} (hv : isVr X.N X.env.scope i x = true) : PI X tg (.Name x p) (TIt X cA W (items ev (.scr i))) := by
  obtain ⟨h1, h2, h3, h4⟩ := isVr_spec hv
  refine (pi_seq (pe_var h1 h2 h3 h4)).mono fun σ H Q ⟨F, Af, env, s, p⟩ => ?_
  have p : PG X.K cA W (rIt X.K) σ F H Af (match (env[i]?).join with | some (.scr is) => .ok (is.map .int, env) | _ => .stuck) Q := p
  split at p
  · rename_i is e
    obtain ⟨v, e1, r⟩ := s.at_ i _ (join_some e)
    obtain ⟨a, rfl, rs⟩ := r.scr_inv
    refine ⟨_, e1, a, _, rfl, .inl ⟨ex_l s.ex rs, PG.now p s ⟨rfl, ?_⟩⟩⟩
    exact ⟨fun i F1 H1 e1 e2 hi => ⟨is.map V.int, (is.map V.int)[i]'(by simpa using hi), ex_l e2 (ex_l e1 rs), List.getElem?_eq_getElem _⟩,
      fun F1 H1 e1 e2 => ⟨_, ex_l e2 (ex_l e1 rs), by simp⟩, fun i F1 H1 x H' d e1 e2 hd y => by
        obtain ⟨rfl, hx⟩ := y
        have := hx _ (ex_l e2 (ex_l e1 rs))
        rw [List.getElem?_map] at this hd
        cases hi : is[i]? with
        | none => rw [hi] at hd; cases hd
        | some k =>
          rw [hi] at hd this
          cases hd
          cases this
          exact ⟨F1, Grow.refl e2, .int _⟩⟩
  · exact p.elim
theorem i_range (hX : At nm T cA fA n W X) {e : E} {b : Expr} {f : Str} {p0 pos : Pos} (hf : f = "range") (h : Gl X f ∧ f ∈ nm.bl) (hs : noStar b = true) (hb : PE X b (TO X cA W (ev e))) : PI X tg (.Call (.Name f p0) [b] [] pos) (TIt X cA W (items ev (.range e))) := by
  subst hf
  refine (pi_range1 h.1 (hX.blt _ h.2) (pa_cons hb.toD pa_nil (star1 hs _ _)) (star1 hs [] _)).mono fun σ H Q h => ?_
  refine TG.bind (rep := rD X.K) (r := evD ev e) (k := fun d env => match d with | .int j => if okRange j && decide (j ≤ most) then .ok (rangeD 0 j, env) else .stuck | _ => .stuck) h fun d env1 v F1 H1 Af1 C s1 r1 nd un q => ?_
  cases d with
  | int j =>
    cases r1.2.int_inv
    have q : PG X.K cA W (rIt X.K) σ F1 H1 Af1 (if okRange j && decide (j ≤ most) then .ok (rangeD 0 j, env1) else .stuck) Q := q
    split at q
    · rename_i hj
      rw [Bool.and_eq_true, decide_eq_true_eq] at hj
      have := okRange_spec hj.1
      refine ⟨j, rfl, this.1, this.2, PG.now q s1 ⟨rfl, ?_⟩⟩
      have e : (j - 0).toNat = j.toNat := by rw [Int.sub_zero]
      unfold rangeD
      rw [e]
      exact Walk.range 0 j.toNat
    · exact q.elim
  | _ => exact q.elim
theorem i_range2 (hX : At nm T cA fA n W X) {e g : E} {b c : Expr} {f : Str} {p0 pos : Pos} (hf : f = "range") (h : Gl X f ∧ f ∈ nm.bl) (hs : noStar b = true) (hs2 : noStar c = true) (hb : PE X b (TO X cA W (ev e))) (hc : PE X c (TO X cA W (ev g))) : PI X tg (.Call (.Name f p0) [b, c] [] pos) (TIt X cA W (items ev (.range2 e g))) := by
  subst hf
  refine (pi_range2 h.1 (hX.blt _ h.2) (pa_cons hb.toD (pa_cons hc.toD pa_nil (star1 hs2 _ _)) (star1 hs _ _)) (by rw [star1 hs, star1 hs2]; rfl) (star1 hs2 [] _)).mono fun σ H Q h => ?_
  refine TG.bind (rep := rD X.K) (r := evD ev e) (k := fun d env => (evD ev g env).bind fun q => match d, q.1 with | .int i, .int j => if okRange i && okRange j && decide (j - i ≤ most) then .ok (rangeD i j, q.2) else .stuck | _, _ => .stuck) h fun d env1 v F1 H1 Af1 C s1 r1 nd un q => ?_
  refine PG.tg s1 (PG.bind (rep := rD X.K) (k := fun e env => match d, e with | .int i, .int j => if okRange i && okRange j && decide (j - i ≤ most) then .ok (rangeD i j, env) else .stuck | _, _ => .stuck) q fun e env2 w F2 H2 Af2 C2 _ s2 t2 r2 nd2 un2 q2 => ?_)
  cases d with
  | int i =>
    cases e with
    | int j =>
      cases r1.2.int_inv
      cases r2.2.int_inv
      have q2 : PG X.K cA W (rIt X.K) σ F2 H2 Af2 (if okRange i && okRange j && decide (j - i ≤ most) then .ok (rangeD i j, env2) else .stuck) Q := q2
      split at q2
      · rename_i hj
        simp only [Bool.and_eq_true, decide_eq_true_eq] at hj
        have h1 := okRange_spec hj.1.1
        have h2 := okRange_spec hj.1.2
        exact ⟨i, j, rfl, ⟨h1.1, h1.2, h2.1, h2.2⟩, PG.now q2 s2 ⟨rfl, Walk.range i (j - i).toNat⟩⟩
      · exact q2.elim
    | _ => exact q2.elim
  | _ => exact q2.elim
theorem stepN_small {i j c : Int} (h1 : -(2 ^ 62) ≤ i) (h2 : i < 2 ^ 62) (h3 : -(2 ^ 62) ≤ j) (h4 : j < 2 ^ 62) (hc : 0 < c) (hm : c ≤ 1000000) : L2.RgC i j c (stepN i j c) := by
  have hn : Builtin.Range.rangeSize i j c = (stepN i j c : Nat) := by
    unfold Builtin.Range.rangeSize stepN
    rw [if_pos hc]
    split
    · have : 0 ≤ (j - i - 1) / c := Int.ediv_nonneg (by omega) (by omega)
      omega
    · rfl
  refine ⟨by omega, by omega, ?_, hn⟩
  unfold Builtin.Range.small
  rw [hn]
  have hb : (stepN i j c : Int) ≤ j - i ∨ (stepN i j c : Int) = 0 := by
    unfold stepN
    split
    · rename_i hlt
      have q1 : 0 ≤ (j - i - 1) / c := Int.ediv_nonneg (by omega) (by omega)
      have q2 : (j - i - 1) / c ≤ j - i - 1 := Int.ediv_le_self _ (by omega)
      exact .inl (by omega)
    · exact .inr rfl
  simp only [Builtin.Range.rangeFitsLong, Bool.and_eq_true, Bool.or_eq_true, decide_eq_true_eq, beq_iff_eq, hc, if_true]
  omega
theorem i_range3 (hX : At nm T cA fA n W X) {e g : E} {ci : Int} {kc : Nat} {pc : Pos} {b c : Expr} {f : Str} {p0 pos : Pos} (hf : f = "range") (h : Gl X f ∧ f ∈ nm.bl) (hs : noStar b = true) (hs2 : noStar c = true) (hb : PE X b (TO X cA W (ev e))) (hc : PE X c (TO X cA W (ev g))) : PI X tg (.Call (.Name f p0) [b, c, .Constant (.int ci) kc pc] [] pos) (TIt X cA W (items ev (.range3 e g ci))) := by
  subst hf
  refine (pi_range3 h.1 (hX.blt _ h.2) (pa_cons hb.toD (pa_cons hc.toD (pa_cons pe_int pa_nil rfl) (star1 hs2 _ _)) (star1 hs _ _)) (star1 hs _ _) (by rw [star1 hs2]; rfl)).mono fun σ H Q h => ?_
  refine TG.bind (rep := rD X.K) (r := evD ev e) (k := fun d env => (evD ev g env).bind fun q => match d, q.1 with | .int i, .int j => if okRange i && okRange j && decide (0 < ci) && decide (ci ≤ most) && decide (j - i ≤ most) then .ok (rangeS i j ci, q.2) else .stuck | _, _ => .stuck) h fun d env1 v F1 H1 Af1 C s1 r1 nd un q => ?_
  refine PG.tg s1 (PG.bind (rep := rD X.K) (k := fun e env => match d, e with | .int i, .int j => if okRange i && okRange j && decide (0 < ci) && decide (ci ≤ most) && decide (j - i ≤ most) then .ok (rangeS i j ci, env) else .stuck | _, _ => .stuck) q fun e env2 w F2 H2 Af2 C2 _ s2 t2 r2 nd2 un2 q2 => ?_)
  cases d with
  | int i =>
    cases e with
    | int j =>
      cases r1.2.int_inv
      cases r2.2.int_inv
      have q2 : PG X.K cA W (rIt X.K) σ F2 H2 Af2 (if okRange i && okRange j && decide (0 < ci) && decide (ci ≤ most) && decide (j - i ≤ most) then .ok (rangeS i j ci, env2) else .stuck) Q := q2
      split at q2
      · rename_i hj
        simp only [Bool.and_eq_true, decide_eq_true_eq] at hj
        have h1 := okRange_spec hj.1.1.1.1
        have h2 := okRange_spec hj.1.1.1.2
        exact ⟨i, j, ci, stepN i j ci, rfl, stepN_small h1.1 h1.2 h2.1 h2.2 hj.1.1.2 hj.1.2, PG.now q2 s2 ⟨rfl, Walk.rangeS i ci _⟩⟩
      · exact q2.elim
    | _ => exact q2.elim
  | _ => exact q2.elim
theorem i_rangeE (hX : At nm T cA fA n W X) {e g k : E} {b c d : Expr} {f : Str} {p0 pos : Pos} (hf : f = "range") (h : Gl X f ∧ f ∈ nm.bl) (hs : noStar b = true) (hs2 : noStar c = true) (hs3 : noStar d = true) (hb : PE X b (TO X cA W (ev e))) (hc : PE X c (TO X cA W (ev g))) (hd : PE X d (TO X cA W (ev k))) : PI X tg (.Call (.Name f p0) [b, c, d] [] pos) (TIt X cA W (items ev (.rangeE e g k))) := by
  subst hf
  refine (pi_range3 h.1 (hX.blt _ h.2) (pa_cons hb.toD (pa_cons hc.toD (pa_cons hd.toD pa_nil (star1 hs3 _ _)) (star1 hs2 _ _)) (star1 hs _ _)) (star1 hs _ _) (by rw [star1 hs2, star1 hs3]; rfl)).mono fun σ H Q h => ?_
  refine TG.bind (rep := rD X.K) (r := evD ev e) (k := fun d env => (evD ev g env).bind fun q => (evD ev k q.2).bind fun r => match d, q.1, r.1 with | .int i, .int j, .int k => if okRange i && okRange j && decide (0 < k) && decide (k ≤ most) && decide (j - i ≤ most) then .ok (rangeS i j k, r.2) else .stuck | _, _, _ => .stuck) h fun d1 env1 v F1 H1 Af1 C s1 r1 nd un q => ?_
  refine PG.tg s1 (PG.bind (rep := rD X.K) (k := fun e env => (evD ev k env).bind fun r => match d1, e, r.1 with | .int i, .int j, .int k => if okRange i && okRange j && decide (0 < k) && decide (k ≤ most) && decide (j - i ≤ most) then .ok (rangeS i j k, r.2) else .stuck | _, _, _ => .stuck) q fun d2 env2 w F2 H2 Af2 C2 _ s2 t2 r2 nd2 un2 q2 => ?_)
  refine PG.tg s2 (PG.bind (rep := rD X.K) (k := fun z env => match d1, d2, z with | .int i, .int j, .int k => if okRange i && okRange j && decide (0 < k) && decide (k ≤ most) && decide (j - i ≤ most) then .ok (rangeS i j k, env) else .stuck | _, _, _ => .stuck) q2 fun d3 env3 u F3 H3 Af3 C3 _ s3 t3 r3 nd3 un3 q3 => ?_)
  cases d1 with
  | int i =>
    cases d2 with
    | int j =>
      cases d3 with
      | int c =>
        cases r1.2.int_inv
        cases r2.2.int_inv
        cases r3.2.int_inv
        have q3 : PG X.K cA W (rIt X.K) σ F3 H3 Af3 (if okRange i && okRange j && decide (0 < c) && decide (c ≤ most) && decide (j - i ≤ most) then .ok (rangeS i j c, env3) else .stuck) Q := q3
        split at q3
        · rename_i hj
          simp only [Bool.and_eq_true, decide_eq_true_eq] at hj
          have h1 := okRange_spec hj.1.1.1.1
          have h2 := okRange_spec hj.1.1.1.2
          exact ⟨i, j, c, stepN i j c, rfl, stepN_small h1.1 h1.2 h2.1 h2.2 hj.1.1.2 hj.1.2, PG.now q3 s3 ⟨rfl, Walk.rangeS i c _⟩⟩
        · exact q3.elim
      | _ => exact q3.elim
    | _ => exact q3.elim
  | _ => exact q3.elim
theorem i_enum (hX : At nm T cA fA n W X) {e : E} {b : Expr} {f : Str} {p0 pos tp : Pos} {els : List Expr} {kk : Nat} (hf : f = "enumerate") (h : Gl X f ∧ f ∈ nm.bl) (hs : noStar b = true) (hb : PE X b (TO X cA W (ev e))) : PI X (.Tuple els kk tp) (.Call (.Name f p0) [b] [] pos) (TIt X cA W (items ev (.enum e))) := by
  subst hf
  refine (pi_enum h.1 (hX.blt _ h.2) (pa_cons hb.toD pa_nil (star1 hs _ _)) (star1 hs [] _)).mono fun σ H Q h => ?_
  refine TG.bind (rep := rD X.K) (r := evD ev e) (k := fun d env => match d with | .list xs => .ok (xs.mapIdx fun i x => PyData.tuple [.int i, x], env) | _ => .stuck) h fun d env1 v F1 H1 Af1 C s1 r1 nd un q => ?_
  cases d with
  | list ds =>
    obtain ⟨a, xs, rfl, e2, e3⟩ := r1.2.lst_inv
    exact ⟨a, xs, rfl, SqL.of (s1.ex _ _ e2), PG.now q s1 ⟨rfl, .enum e2 e3⟩⟩
  | _ => exact q.elim
theorem i_zip (hX : At nm T cA fA n W X) {e g : E} {b c : Expr} {f : Str} {p0 pos tp : Pos} {els : List Expr} {kk : Nat} (hf : f = "zip") (h : Gl X f ∧ f ∈ nm.bl) (hs : noStar b = true) (hs2 : noStar c = true) (hb : PE X b (TO X cA W (ev e))) (hc : PE X c (TO X cA W (ev g))) : PI X (.Tuple els kk tp) (.Call (.Name f p0) [b, c] [] pos) (TIt X cA W (items ev (.zip e g))) := by
  subst hf
  refine (pi_zipA h.1 (hX.blt _ h.2) (pa_cons hb.toD (pa_cons hc.toD pa_nil (star1 hs2 _ _)) (star1 hs _ _)) (star1 hs _ _) (by rw [star1 hs2]; rfl)).mono fun σ H Q h => ?_
  refine TG.bind (rep := rD X.K) (r := evD ev e) (k := fun d env => (evD ev g env).bind fun q => match d, q.1 with | .list xs, .list ys => .ok (List.zipWith (fun x y => PyData.tuple [x, y]) xs ys, q.2) | .tuple xs, .tuple ys => .ok (List.zipWith (fun x y => PyData.tuple [x, y]) xs ys, q.2) | _, _ => .stuck) h fun d env1 v F1 H1 Af1 C s1 r1 nd un q => ?_
  refine PG.tg s1 (PG.bind (rep := rD X.K) (k := fun e env => match d, e with | .list xs, .list ys => .ok (List.zipWith (fun x y => PyData.tuple [x, y]) xs ys, env) | .tuple xs, .tuple ys => .ok (List.zipWith (fun x y => PyData.tuple [x, y]) xs ys, env) | _, _ => .stuck) q fun e env2 w F2 H2 Af2 C2 _ s2 t2 r2 nd2 un2 q2 => ?_)
  have r1 := r1.2.mono t2.ex
  cases d with
  | list ds =>
    cases e with
    | list es =>
      obtain ⟨a, xs, rfl, e2, e3⟩ := r1.lst_inv
      obtain ⟨b, ys, rfl, e4, e5⟩ := r2.2.lst_inv
      exact ⟨a, b, xs, ys, rfl, .inl ⟨SqL.of (s2.ex _ _ e2), SqL.of (s2.ex _ _ e4), PG.now q2 s2 ⟨rfl, .zipL e2 e3 e4 e5⟩⟩⟩
    | _ => exact q2.elim
  | tuple ds =>
    cases e with
    | tuple es =>
      obtain ⟨a, xs, rfl, e2, e3⟩ := r1.tup_inv
      obtain ⟨b, ys, rfl, e4, e5⟩ := r2.2.tup_inv
      exact ⟨a, b, xs, ys, rfl, .inr ⟨ex_t s2.ex e2, ex_t s2.ex e4, PG.now q2 s2 ⟨rfl, .zipT e2 e3 e4 e5⟩⟩⟩
    | _ => exact q2.elim
  | _ => exact q2.elim
/-! list(range(a, b, c)), tuple(range(a, b, c)) -/
def PRg3 (X : Cx) (e : Expr) (t : L2.St → Hp → (Int → Int → Int → Hp → Prop) → Prop) : Prop :=
  ∀ (pins : List (Addr × Obj)) (s : Shared) (σ : L2.St) (H : Hp) (Q : Int → Int → Int → Hp → Prop), Inv X pins σ H s → t σ H Q →
    wpAny (model X.prog X.w) X.A (eval e X.env) (fun x s' => ∃ r a b c t u v H', x = .ref r ∧ IsRange s'.heap r a b c t u v ∧ Inv X pins σ H' s' ∧ Q a b c H') X.xe s
theorem prg_3 {a b c : Expr} {ta : TA} {p pos : Pos} (hg : Gl X "range") (hm : X.mg "range" = none) (ha : PA X [a, b, c] ta) (hs : starEach [a, b, c] X.env = (false, eval a X.env) :: starEach [b, c] X.env := by rfl) (hpl : (backTo pos (starEach [b, c] X.env)).any (·.1) = false := by rfl) :
    PRg3 X (.Call (.Name "range" p) [a, b, c] [] pos) (fun σ H Q => ta σ H fun vs H1 => ∃ i j k, vs = [.int i, .int j, .int k] ∧ (k ≠ 0 ∧ k.natAbs < 1073741824) ∧ Q i j k H1) := by
  intro pins s σ H Q I h
  refine Call_ (ld_blt I hg hm boot_range (PyProof.Rows.callWith_type1 (thn (ha.run pos pins s σ H _ I h) fun us s1 ⟨vs, H1, I1, r1, q1⟩ => ?_) hs hpl))
  obtain ⟨i, j, k, e, ⟨c0, c1⟩, q⟩ := q1
  subst e
  cases r1 with
  | cons r rr =>
    cases rr with
    | cons r' rr =>
      cases rr with
      | cons r'' rr =>
        cases rr
        obtain ⟨t, rfl⟩ := r
        obtain ⟨t', rfl⟩ := r'
        obtain ⟨t'', rfl⟩ := r''
        exact call_range_3 c0 ⟨_, i, j, k, _, _, _, H1, rfl, IsRange.new .., I1.kept (t' := s1.toks) (fun b o e => Heap.get?_push_of_some _ e), q⟩ (.inl (PyProof.noPylong_small c1))
def rgV3 (i c : Int) (n : Nat) : List V := (List.range n).map fun k => V.int (i + (k : Nat) * c)
theorem rep_rangeS {K : PySem.W.Frag} {F : Hp} (i j c : Int) : RepAll K F (rgV3 i c (stepN i j c)) (rangeS i j c) := by
  unfold rgV3 rangeS
  induction List.range (stepN i j c) with
  | nil => exact .nil
  | cons x r ih => exact .cons (.int _) ih
theorem vals_rg3 {i c : Int} {n : Nat} {acc : Array Value} (h : ItemsOf (fun k v => ∃ t, v = .int (i + k * c) t) acc n) : Vals (rgV3 i c n) acc.toList := by
  have e : acc.toList.length = n := by rw [Array.length_toList]; exact h.1
  unfold rgV3
  rw [← e]
  refine vals_of_get acc.toList _ fun j u hj => ?_
  obtain ⟨t, rfl⟩ := h.2 j u (by rw [← hj, Array.getElem?_toList])
  exact ⟨t, rfl⟩
theorem pe_rg3 {e : Expr} {te : L2.St → Hp → (Int → Int → Int → Hp → Prop) → Prop} {x : Str} {p pos : Pos} (t : Bool) (hx : x = if t then ("tuple" : Str) else ("list" : Str)) (hc : X.calm = true) (hg : Gl X x) (hm : X.mg x = none) (he : PRg3 X e te) (na : starEach [e] X.env = (false, eval e X.env) :: starEach [] X.env := by rfl) :
    PE X (.Call (.Name x p) [e] [] pos) (fun σ H Q => te σ H fun i j c H1 => ∃ n, L2.RgC i j c n ∧ n ≤ 2 ^ 24 ∧ ∀ q, H1 q = none → Q (.ref q) (upd H1 q (if t then .tup (rgV3 i c n) else .lst (rgV3 i c n)))) := by
  subst hx
  refine ⟨fun pins s σ H Q I h => ?_⟩
  cases t with
  | false =>
    refine Call_ (ld_blt I hg hm boot_list (PyProof.Rows.callWith_type1 (args_cons (thn (he pins s σ H _ I h) fun x s1 ⟨r, a, b, c, t, u, v, H1, ex, hr, I1, q⟩ => args_nil ?_) na) na))
    subst ex
    obtain ⟨n, ⟨c0, c1, c2, c3⟩, b5, q⟩ := q
    refine call_list_range (n := n) (I1.ok.hd hc) hr c2 c3 b5 fun h' tk acc c' hk e' hi => ?_
    refine ⟨.ref s1.heap.objs.size, upd H1 s1.heap.objs.size (.lst (rgV3 a c n)), I1.laid hk (Nat.le_refl _) (show ObjOk X.prog X.w _ _ _ (.lst (rgV3 a c n)) from ⟨?_, acc.toList, c', vals_rg3 hi, ?_⟩), rfl, q _ (I1.hok.fresh (Nat.le_refl _))⟩
    · unfold rgV3; rw [List.length_map, List.length_range, sizeLine_eq]; omega
    · rw [Array.toArray_toList]; exact e'
  | true =>
    refine Call_ (ld_blt I hg hm boot_tuple (PyProof.Rows.callWith_type1 (args_cons (thn (he pins s σ H _ I h) fun x s1 ⟨r, a, b, c, t, u, v, H1, ex, hr, I1, q⟩ => args_nil ?_) na) na))
    subst ex
    obtain ⟨n, ⟨c0, c1, c2, c3⟩, b5, q⟩ := q
    refine call_tuple_range (n := n) (I1.ok.hd hc) hr c2 c3 b5 fun h' tk acc hk hi => ?_
    have I2 : Inv X pins σ H1 { s1 with heap := h', toks := tk } := I1.kept hk
    refine ⟨.ref h'.objs.size, upd H1 h'.objs.size (.tup (rgV3 a c n)), I2.laid (t' := tk) (fun c o e => Heap.get?_push_of_some _ e) (Nat.le_refl _) (show ObjOk X.prog X.w _ _ _ (.tup (rgV3 a c n)) from ⟨?_, acc.toList, vals_rg3 hi, ?_⟩), rfl, q _ (I2.hok.fresh (Nat.le_refl _))⟩
    · unfold rgV3; rw [List.length_map, List.length_range, sizeLine_eq]; omega
    · rw [Array.toArray_toList]; exact IsTup.new _ _
theorem stepN_le {i j c : Int} (hm : j - i ≤ 1000000) (hc : 0 < c) : stepN i j c ≤ 2 ^ 24 := by
  unfold stepN
  split
  · rename_i hlt
    have q1 : 0 ≤ (j - i - 1) / c := Int.ediv_nonneg (by omega) (by omega)
    have q2 : (j - i - 1) / c ≤ j - i - 1 := Int.ediv_le_self _ (by omega)
    omega
  · exact Nat.zero_le _
theorem e_rng3 {exs : List S → Env → Res (Fl × Env)} (hX : At nm T cA fA n W X) (t : Bool) {x y z : E} {b c d : Expr} {f g : Str} {p0 p1 p2 pos : Pos} (hf : f = if t then ("tuple" : Str) else ("list" : Str)) (h : Gl X f ∧ f ∈ nm.bl) (hg : g = "range") (h2 : Gl X g ∧ g ∈ nm.bl) (hs : noStar b = true) (hs2 : noStar c = true) (hs3 : noStar d = true) (hb : PE X b (TO X cA W (ev x))) (hc : PE X c (TO X cA W (ev y))) (hd : PE X d (TO X cA W (ev z))) :
    PE X (.Call (.Name f p0) [.Call (.Name g p1) [b, c, d] [] p2] [] pos) (TO X cA W (stepE T ev exs (.rng3 t x y z))) := by
  subst hg
  refine (pe_rg3 t hf hX.calm h.1 (hX.blt _ h.2) (prg_3 h2.1 (hX.blt _ h2.2) (pa_cons hb.toD (pa_cons hc.toD (pa_cons hd.toD pa_nil (star1 hs3 _ _)) (star1 hs2 _ _)) (star1 hs _ _)) (star1 hs _ _) (by rw [star1 hs2, star1 hs3]; rfl))).mono fun σ H Q h => ?_
  refine TG.bind (rep := rD X.K) (r := evD ev x) (k := fun d env => (evD ev y env).bind fun q => (evD ev z q.2).bind fun r => match d, q.1, r.1 with | .int i, .int j, .int k => if okRange i && okRange j && decide (0 < k) && decide (k ≤ most) && decide (j - i ≤ most) then .ok (if t then O.val (.tuple (rangeS i j k)) else O.lst ((rangeS i j k).map .val), r.2) else .stuck | _, _, _ => .stuck) h fun d1 env1 v F1 H1 Af1 C s1 r1 nd un q => ?_
  refine PG.tg s1 (PG.bind (rep := rD X.K) (k := fun e env => (evD ev z env).bind fun r => match d1, e, r.1 with | .int i, .int j, .int k => if okRange i && okRange j && decide (0 < k) && decide (k ≤ most) && decide (j - i ≤ most) then .ok (if t then O.val (.tuple (rangeS i j k)) else O.lst ((rangeS i j k).map .val), r.2) else .stuck | _, _, _ => .stuck) q fun d2 env2 w F2 H2 Af2 C2 _ s2 t2 r2 nd2 un2 q2 => ?_)
  refine PG.tg s2 (PG.bind (rep := rD X.K) (k := fun e env => match d1, d2, e with | .int i, .int j, .int k => if okRange i && okRange j && decide (0 < k) && decide (k ≤ most) && decide (j - i ≤ most) then .ok (if t then O.val (.tuple (rangeS i j k)) else .lst ((rangeS i j k).map .val), env) else .stuck | _, _, _ => .stuck) q2 fun d3 env3 u F3 H3 Af3 C3 _ s3 t3 r3 nd3 un3 q3 => ?_)
  cases d1 with
  | int i =>
    cases d2 with
    | int j =>
      cases d3 with
      | int c =>
        cases r1.2.int_inv
        cases r2.2.int_inv
        cases r3.2.int_inv
        have q3 : PG X.K cA W (rO X.K) σ F3 H3 Af3 (if okRange i && okRange j && decide (0 < c) && decide (c ≤ most) && decide (j - i ≤ most) then .ok (if t then O.val (.tuple (rangeS i j c)) else .lst ((rangeS i j c).map .val), env3) else .stuck) Q := q3
        split at q3
        · rename_i hj
          simp only [Bool.and_eq_true, decide_eq_true_eq] at hj
          have h1 := okRange_spec hj.1.1.1.1
          have h2 := okRange_spec hj.1.1.1.2
          have hm : c ≤ 1000000 := hj.1.2
          refine ⟨i, j, c, rfl, ⟨by have := hj.1.1.2; omega, by have := hj.1.1.2; omega⟩, stepN i j c, stepN_small h1.1 h1.2 h2.1 h2.2 hj.1.1.2 hj.1.2, stepN_le hj.2 hj.1.1.2, fun p hp => ?_⟩
          cases t with
          | true => exact PG.newT q3 s3 (rep_rangeS i j c) hp
          | false => exact PG.newL q3 s3 (rep_rangeS i j c) hp
        · exact q3.elim
      | _ => exact q3.elim
    | _ => exact q3.elim
  | _ => exact q3.elim
/-! tuple(range(a)) -/
theorem okb' {α β : Type} (a : α) (f : α → Res β) : (Res.ok a).bind f = f a := rfl
theorem prg_1t {a : Expr} {te : TE} {p pos : Pos} (hg : Gl X "range") (hm : X.mg "range" = none) (ha : PE X a te) (na : starEach [a] X.env = (false, eval a X.env) :: starEach [] X.env) :
    PRg3 X (.Call (.Name "range" p) [a] [] pos) (fun σ H Q => te σ H fun v H1 => ∃ n, v = .int n ∧ Q 0 n 1 H1) := by
  intro pins s σ H Q I h
  refine Call_ (ld_blt I hg hm boot_range (PyProof.Rows.callWith_type1 (one_arg ha I h (fun v s2 x H2 I2 r q => ?_) na) na))
  obtain ⟨n, rfl, q⟩ := q
  obtain ⟨t, rfl⟩ := r
  exact call_range_1 ⟨_, 0, n, 1, _, _, _, H2, rfl, IsRange.new .., I2.kept fun b u e => Heap.get?_push_of_some _ e, q⟩
theorem e_rngT {exs : List S → Env → Res (Fl × Env)} (hX : At nm T cA fA n W X) (hev : ∀ i env, ev (.int i) env = .ok (.val (.int i), env) ∨ ev (.int i) env = .stuck) {y : E} {c : Expr} {f g : Str} {p0 p1 p2 pos : Pos} (hf : f = ("tuple" : Str)) (h : Gl X f ∧ f ∈ nm.bl) (hg : g = "range") (h2 : Gl X g ∧ g ∈ nm.bl) (hs2 : noStar c = true) (hc : PE X c (TO X cA W (ev y))) :
    PE X (.Call (.Name f p0) [.Call (.Name g p1) [c] [] p2] [] pos) (TO X cA W (stepE T ev exs (.rng3 true (.int 0) y (.int 1)))) := by
  subst hg
  refine (pe_rg3 true hf hX.calm h.1 (hX.blt _ h.2) (prg_1t h2.1 (hX.blt _ h2.2) hc.toD (star1 hs2 _ _))).mono fun σ H Q h => ?_
  obtain ⟨F, Af, env, s, p⟩ := h
  rw [stepE_rng3] at p
  have e0 : ∀ i env, evD ev (.int i) env = .ok (.int i, env) ∨ evD ev (.int i) env = .stuck := fun i env => by
    unfold evD
    rcases hev i env with e | e <;> rw [e]
    · exact .inl rfl
    · exact .inr rfl
  rcases e0 0 env with e | e
  rotate_left
  · rw [e] at p; exact p.elim
  rw [e, okb'] at p
  refine PG.tg s (PG.bind (rep := rD X.K) (k := fun d env => (evD ev (.int 1) env).bind fun r => match PyData.int 0, d, r.1 with | .int i, .int j, .int k => if okRange i && okRange j && decide (0 < k) && decide (k ≤ most) && decide (j - i ≤ most) then .ok (if true then O.val (.tuple (rangeS i j k)) else O.lst ((rangeS i j k).map .val), r.2) else .stuck | _, _, _ => .stuck) p fun d2 env2 w F2 H2 Af2 C2 _ s2 t2 r2 nd2 un2 q2 => ?_)
  rcases e0 1 env2 with e | e
  rotate_left
  · rw [e] at q2; exact q2.elim
  rw [e, okb'] at q2
  cases d2 with
  | int j =>
    cases r2.2.int_inv
    have q2 : PG X.K cA W (rO X.K) σ F2 H2 Af2 (if okRange 0 && okRange j && decide ((0 : Int) < 1) && decide ((1 : Int) ≤ most) && decide (j - 0 ≤ most) then .ok (O.val (.tuple (rangeS 0 j 1)), env2) else .stuck) Q := q2
    split at q2
    · rename_i hj
      simp only [Bool.and_eq_true, decide_eq_true_eq] at hj
      have h1 := okRange_spec hj.1.1.1.1
      have h2 := okRange_spec hj.1.1.1.2
      refine ⟨j, rfl, stepN 0 j 1, stepN_small h1.1 h1.2 h2.1 h2.2 (by decide) (by decide), stepN_le hj.2 (by decide), fun p hp => ?_⟩
      exact PG.newT q2 s2 (rep_rangeS 0 j 1) hp
    · exact q2.elim
  | _ => exact q2.elim
/-! targets -/
mutual
theorem g_tgt (hN : X.N.Nodup) (hc : X.calm = true) {sc : Scope} (hcel : ∀ x, locB sc x = true → Loc X.env.scope x ∧ (X.fn x = true ∨ X.env.scope.names.lookup x = some .local)) : ∀ (t : Tgt) {a : Expr}, chkT X.N sc t a = true → L2.PG X a (gT X.K t)
  | .nm i, a, h => by
    cases a with
    | Name x p =>
      have h : isLc X.N sc i x = true := h
      unfold isLc at h
      rw [Bool.and_eq_true, decide_eq_true_eq] at h
      have hl := hcel x h.1
      exact pg_name hN h.2 hl.1 hl.2
    | _ => cases h
  | .tup ts, a, h => by
    cases a with
    | Tuple as k p =>
      have h : chkTs X.N sc ts as = true := h
      obtain ⟨h1, h2, h3⟩ := g_tgts hN hc hcel ts h
      exact pg_tl hc h1 h2 h3
    | _ => cases h
theorem g_tgts (hN : X.N.Nodup) (hc : X.calm = true) {sc : Scope} (hcel : ∀ x, locB sc x = true → Loc X.env.scope x ∧ (X.fn x = true ∨ X.env.scope.names.lookup x = some .local)) : ∀ (ts : List Tgt) {as : List Expr}, chkTs X.N sc ts as = true → PGs X as (gTs X.K ts) ∧ (assignEach as X.env).length = ts.length ∧ (assignEach as X.env).findIdx? (·.1) = none
  | [], [], _ => ⟨pgs_nil, rfl, rfl⟩
  | [], _ :: _, h => by cases h
  | _ :: _, [], h => by cases h
  | t :: ts, a :: as, h => by
    have h : (chkT X.N sc t a && chkTs X.N sc ts as) = true := h
    rw [Bool.and_eq_true] at h
    obtain ⟨h1, h2, h3⟩ := g_tgts hN hc hcel ts h.2
    have hs : assignEach (a :: as) X.env = (false, assign a X.env) :: assignEach as X.env := by
      cases t with
      | nm i => cases a with
        | Name x p => rfl
        | _ => cases h.1
      | tup us => cases a with
        | Tuple bs k p => rfl
        | _ => cases h.1
    refine ⟨pgs_cons (g_tgt hN hc hcel t h.1) h1 (by rw [hs]; rfl), by rw [hs, List.length_cons, List.length_cons, h2], ?_⟩
    rw [hs, List.findIdx?_cons]
    show Option.map _ _ = none
    rw [h3]; rfl
end
end
end Ev

end
section
set_option autoImplicit false
set_option linter.all false
set_option maxRecDepth 100000
/-! List comprehensions: the rule. -/
namespace Ev
open PySem L2 PyProof.Rows RZ

section
variable {K : PySem.W.Frag} {F F' H H' : Hp} {σ : L2.St} {env env' : Env} {Af Af' : Nat → List Addr}
theorem wipe_get (σ : L2.St) (j : Nat) : ∀ vs : List Nat, (j ∉ vs → (L2.wipe σ vs)[j]? = σ[j]?) ∧ (j ∈ vs → ∀ u, (L2.wipe σ vs)[j]? ≠ some (some u))
  | [] => ⟨fun _ => rfl, fun h => nomatch h⟩
  | v :: vs => by
    obtain ⟨h1, h2⟩ := wipe_get σ j vs
    refine ⟨fun h => ?_, fun h u e => ?_⟩
    · rw [List.mem_cons, not_or] at h
      show ((L2.wipe σ vs).set v none)[j]? = _
      rw [List.getElem?_set_ne (Ne.symm h.1)]; exact h1 h.2
    · rcases getElem_set e with ⟨_, _, q⟩ | ⟨hj, q⟩
      · cases q
      · rcases List.mem_cons.mp h with h | h
        · exact hj h
        · exact h2 h u q
theorem wipeE_get (env : Env) (j : Nat) : ∀ vs : List Nat, (j ∉ vs → (wipeE env vs)[j]? = env[j]?) ∧ (j ∈ vs → ∀ u, (wipeE env vs)[j]? ≠ some (some u))
  | [] => ⟨fun _ => rfl, fun h => nomatch h⟩
  | v :: vs => by
    obtain ⟨h1, h2⟩ := wipeE_get env j vs
    refine ⟨fun h => ?_, fun h u e => ?_⟩
    · rw [List.mem_cons, not_or] at h
      show ((wipeE env vs).set v none)[j]? = _
      rw [List.getElem?_set_ne (Ne.symm h.1)]; exact h1 h.2
    · rcases getElem_set e with ⟨_, _, q⟩ | ⟨hj, q⟩
      · cases q
      · rcases List.mem_cons.mp h with h | h
        · exact hj h
        · exact h2 h u q
theorem wipeE_length (env : Env) : ∀ vs : List Nat, (wipeE env vs).length = env.length
  | [] => rfl
  | v :: vs => by show ((wipeE env vs).set v none).length = _; rw [List.length_set, wipeE_length env vs]
theorem SR.wipe (s : SR K F H σ env Af) (vs : List Nat) : SR K F H (L2.wipe σ vs) (wipeE env vs) Af :=
  ⟨s.ex, by rw [wipe_length, wipeE_length]; exact s.len, fun i o e => by
    by_cases h : i ∈ vs
    · exact absurd e ((wipeE_get env i vs).2 h o)
    · rw [(wipeE_get env i vs).1 h] at e
      rw [(wipe_get σ i vs).1 h]
      exact s.at_ i o e, s.nd, s.dj, s.un, s.th⟩
theorem backE_length (env0 env : Env) : ∀ vs : List Nat, (backE env0 env vs).length = env.length
  | [] => rfl
  | v :: vs => by show ((backE env0 env vs).set v _).length = _; rw [List.length_set, backE_length env0 env vs]
theorem backE_get (env0 env : Env) (j : Nat) : ∀ vs : List Nat, (j ∉ vs → (backE env0 env vs)[j]? = env[j]?) ∧ (j ∈ vs → ∀ u, (backE env0 env vs)[j]? = some (some u) → env0[j]? = some (some u))
  | [] => ⟨fun _ => rfl, fun h => nomatch h⟩
  | v :: vs => by
    obtain ⟨h1, h2⟩ := backE_get env0 env j vs
    refine ⟨fun h => ?_, fun h u e => ?_⟩
    · rw [List.mem_cons, not_or] at h
      show ((backE env0 env vs).set v _)[j]? = _
      rw [List.getElem?_set_ne (Ne.symm h.1)]; exact h1 h.2
    · rcases getElem_set e with ⟨rfl, _, q⟩ | ⟨hj, q⟩
      · exact join_some q.symm
      · rcases List.mem_cons.mp h with h | h
        · exact absurd h hj
        · exact h2 h u q
theorem Less.clear (vs : List Nat) : Less Af (fun j => if j ∈ vs then [] else Af j) := fun j => by
  show (if j ∈ vs then [] else Af j) = _ ∨ (if j ∈ vs then [] else Af j) = _
  split
  · exact .inr rfl
  · exact .inl rfl
theorem SR.back {F1 H1 : Hp} {env1 : Env} {Af1 : Nat → List Addr} {vs : List Nat} (s : SR K F H (L2.wipe σ vs) (wipeE env vs) Af) (s1 : SR K F1 H1 σ env1 Af1) (e : Ex F1 F) (pl : vs.all (plainAt env1) = true) :
    SR K F H σ (backE env1 env vs) (fun j => if j ∈ vs then [] else Af j) := by
  have hl : σ.length = env.length := by rw [← wipe_length σ vs, s.len, wipeE_length]
  refine ⟨s.ex, by rw [backE_length]; exact hl, fun j o q => ?_, fun j => ?_, fun j k a h1 h2 => ?_, fun j a h1 => ?_, fun j a h1 => ?_⟩
  · by_cases h : j ∈ vs
    · have q1 := (backE_get env1 env j vs).2 h o q
      obtain ⟨v, h1, h2⟩ := s1.at_ j o q1
      refine ⟨v, h1, ?_⟩
      rw [if_pos h]
      have := List.all_eq_true.mp pl j h
      unfold plainAt at this
      rw [q1] at this
      cases o with
      | val d => exact .val (h2.val_inv.1.mono e)
      | _ => cases this
    · rw [(backE_get env1 env j vs).1 h] at q
      rw [if_neg h]
      obtain ⟨v, h1, h2⟩ := s.at_ j o (by rw [(wipeE_get env j vs).1 h]; exact q)
      rw [(wipe_get σ j vs).1 h] at h1
      exact ⟨v, h1, h2⟩
  · show (if j ∈ vs then [] else Af j).Nodup
    split
    · exact .nil
    · exact s.nd j
  · have h1 : a ∈ (if j ∈ vs then [] else Af j) := h1
    have h2 : a ∈ (if k ∈ vs then [] else Af k) := h2
    split at h1 <;> split at h2
    · cases h1
    · cases h1
    · cases h2
    · exact s.dj _ _ a h1 h2
  · have h1 : a ∈ (if j ∈ vs then [] else Af j) := h1
    split at h1
    · cases h1
    · exact s.un j a h1
  · have h1 : a ∈ (if j ∈ vs then [] else Af j) := h1
    split at h1
    · cases h1
    · exact s.th j a h1
/-- a thing that nobody knows -/
structure Apart (F H : Hp) (Af : Nat → List Addr) (d : Addr) (o : HO) : Prop where
  f : F d = none
  a : ¬ Own Af d
  h : H d = some o
theorem Apart.step {d : Addr} {o : HO} {C : List Addr} (p : Apart F H Af d o) (t : Stp F H Af F' H' Af' C) : Apart F' H' Af' d o :=
  ⟨Classical.byContradiction fun n => (by
    rcases t.prF d n with q | q | q
    · exact q p.f
    · rw [p.h] at q; cases q
    · exact p.a q), fun q => (by
    rcases t.prA d q with q | q
    · exact p.a q
    · rw [p.h] at q; cases q), t.frame d o p.h p.a⟩
theorem SR.other (s : SR K F H σ env Af) {d : Addr} (hf : F d = none) (ha : ¬ Own Af d) (o : HO) : SR K F (upd H d o) σ env Af :=
  ⟨fun a u e => by rw [upd_ne (fun z => by subst z; rw [hf] at e; cases e)]; exact s.ex a u e, s.len, fun i u e => by
    obtain ⟨v, h1, h2⟩ := s.at_ i u e
    exact ⟨v, h1, h2.mono (Ex.refl _) fun a h => upd_ne fun z => ha ⟨i, z ▸ h⟩⟩, s.nd, s.dj, s.un, fun i a h => by rw [upd_ne (fun z : a = d => ha ⟨i, by rw [← z]; exact h⟩)]; exact s.th i a h⟩
theorem Stp.patch {C : List Addr} (t : Stp F H Af F' H' Af' C) {d : Addr} (hd : H d = none) (o : HO) : Stp F H Af F' (upd H' d o) Af' C :=
  ⟨t.ex, fun a u e n => by rw [upd_ne (fun z => by subst z; rw [hd] at e; cases e)]; exact t.frame a u e n, fun a h => by
    unfold upd; split
    · exact fun z => nomatch z
    · exact t.dom a h, t.prF, t.prA, t.prC⟩
end
theorem wipe_set (σ : L2.St) {i : Nat} (v : Option V) : ∀ {vs : List Nat}, i ∈ vs → L2.wipe (σ.set i v) vs = L2.wipe σ vs
  | [], h => nomatch h
  | w :: vs, h => by
    show (L2.wipe (σ.set i v) vs).set w none = (L2.wipe σ vs).set w none
    by_cases hi : i ∈ vs
    · rw [wipe_set σ v hi]
    · have e : i = w := by
        rcases List.mem_cons.mp h with e | e
        · exact e
        · exact absurd e hi
      subst e
      apply List.ext_getElem?
      intro j
      by_cases hj : i = j
      · subst hj
        rw [List.getElem?_set_self', List.getElem?_set_self', (wipe_get _ i vs).1 hi, (wipe_get _ i vs).1 hi, List.getElem?_set_self']
        cases σ[i]? <;> rfl
      · rw [List.getElem?_set_ne hj, List.getElem?_set_ne hj]
        by_cases hjv : j ∈ vs
        · -- both forgotten
          have key : ∀ (σ : L2.St) (vs : List Nat), j ∈ vs → (L2.wipe σ vs)[j]? = (σ[j]?).map fun _ => none := by
            intro σ vs
            induction vs with
            | nil => intro h; cases h
            | cons a r ih =>
              intro h
              show ((L2.wipe σ r).set a none)[j]? = _
              by_cases ha : a = j
              · subst ha
                rw [List.getElem?_set_self']
                by_cases hr : a ∈ r
                · rw [ih hr]; cases σ[a]? <;> rfl
                · rw [(wipe_get σ a r).1 hr]; cases σ[a]? <;> rfl
              · rw [List.getElem?_set_ne ha]
                rcases List.mem_cons.mp h with e | e
                · exact absurd e.symm ha
                · exact ih e
          rw [key _ _ hjv, key _ _ hjv, List.getElem?_set_ne hj]
        · rw [(wipe_get _ j vs).1 hjv, (wipe_get _ j vs).1 hjv, List.getElem?_set_ne hj]
theorem wipe_same {σ σ' : L2.St} {vs is : List Nat} (h : Same is σ σ') (hs : ∀ i ∈ is, i ∈ vs) : L2.wipe σ' vs = L2.wipe σ vs := by
  have key : ∀ (σ : L2.St) (vs : List Nat) (j : Nat), j ∈ vs → (L2.wipe σ vs)[j]? = (σ[j]?).map fun _ => none := by
    intro σ vs j
    induction vs with
    | nil => intro h; cases h
    | cons a r ih =>
      intro h
      show ((L2.wipe σ r).set a none)[j]? = _
      by_cases ha : a = j
      · subst ha
        rw [List.getElem?_set_self']
        by_cases hr : a ∈ r
        · rw [ih hr]; cases σ[a]? <;> rfl
        · rw [(wipe_get σ a r).1 hr]; cases σ[a]? <;> rfl
      · rw [List.getElem?_set_ne ha]
        rcases List.mem_cons.mp h with e | e
        · exact absurd e.symm ha
        · exact ih e
  apply List.ext_getElem?
  intro j
  by_cases hj : j ∈ vs
  · rw [key _ _ _ hj, key _ _ _ hj]
    rcases Nat.lt_or_ge j σ.length with hl | hl
    · rw [List.getElem?_eq_getElem hl, List.getElem?_eq_getElem (by rw [h.1]; exact hl)]; rfl
    · rw [List.getElem?_eq_none hl, List.getElem?_eq_none (by rw [h.1]; exact hl)]
  · rw [(wipe_get _ j vs).1 hj, (wipe_get _ j vs).1 hj]
    exact h.2 j fun z => hj (hs j z)
def WF : WX := fun _ _ _ _ => False
/-- how far a comprehension has come -/
structure CI (K : PySem.W.Frag) (ev : E → Env → Res (O × Env)) (elt : E) (t : Tgt) (c : Option E) (σ : L2.St) (F1 H1 : Hp) (Af1 : Nat → List Addr) (env1 : Env) (ds : List D) (total : List O) (envE : Env) (d : Addr) (i : Nat) (H : Hp) : Prop where
  w : ∃ (F : Hp) (Af : Nat → List Addr) (env : Env) (acc : List V) (as : List D) (rest : List O), SR K F H (L2.wipe σ (tslots t)) (wipeE env (tslots t)) Af ∧ Stp F1 H1 Af1 F H Af [] ∧ Apart F H Af d (.lst acc) ∧ RepAll K F acc as ∧ acc.length ≤ i ∧
    turns ev elt t c (tslots t) (ds.drop i) env = .ok (rest, envE) ∧ total = as.map .val ++ rest
section
variable {nm : Names} {T : Tab} {cA fA : Nat → Addr} {n : Nat} {W : WX} {X : Cx} {ev : E → Env → Res (O × Env)} {exs : List S → Env → Res (Fl × Env)}
/-- a comprehension's test -/
def tIf1 (X : Cx) (cA : Nat → Addr) (ev : E → Env → Res (O × Env)) : Option E → L2.TT
  | none => tYes
  | some c => TT' X cA WF (truthE ev c)
theorem t_lc {elt : E} {t : Tgt} {it : I} {c : Option E} {σ : L2.St} {H : Hp} {Q : VK} (h : TO X cA W (stepE T ev exs (.comp elt t it c)) σ H Q) :
    tLc (TIt X cA W (items ev it)) (gT X.K t) (tIf1 X cA ev c) (TD X cA WF (evD ev elt)) (tslots t) σ H Q := by
  refine TG.bind (rep := rIt X.K) (r := items ev it) (k := fun ds env => if ds.length ≤ most ∧ (tslots t).all (plainAt env) = true then
      (noErr (turns ev elt t c (tslots t) ds env)).bind fun q => .ok (O.lst q.1, backE env q.2 (tslots t)) else .stuck) h fun ds env1 J F1 H1 Af1 C s1 r1 nd un q => ?_
  split at q
  case isFalse => exact q.elim
  rename_i hz
  obtain ⟨hz, hpl⟩ := hz
  cases hT : turns ev elt t c (tslots t) ds env1 with
  | stuck => rw [hT] at q; exact q.elim
  | err k => rw [hT] at q; exact q.elim
  | ok z =>
  obtain ⟨total, envE⟩ := z
  rw [hT] at q
  have q : PG X.K cA W (rO X.K) σ F1 H1 Af1 (.ok (O.lst total, backE env1 envE (tslots t))) Q := q
  intro d hd
  have hd1 : ¬ Own Af1 d ∧ F1 d = none := fresh_own s1 hd
  refine ⟨fun i m H => m = ds.length - i ∧ i ≤ ds.length ∧ CI X.K ev elt t c σ F1 H1 Af1 env1 ds total envE d i H, ⟨ds.length, by simp, Nat.zero_le _, ⟨F1, Af1, env1, [], [], total, ?_, ?_, ?_, .nil, Nat.le_refl _, hT, rfl⟩⟩, ?_⟩
  · exact (s1.other hd1.2 hd1.1 _).wipe _
  · exact Stp.refl.patch hd _
  · exact ⟨hd1.2, hd1.1, upd_same⟩
  rintro i m H ⟨rfl, hi, ⟨F, Af, env, acc, as, rest, s, tt, ap, ra, hl, hr, ht⟩⟩
  have eF : Ex F1 F := tt.ex
  by_cases hlt : i < ds.length
  · refine .inr ⟨r1.2.go i F H eF s.ex hlt, CI X.K ev elt t c σ F1 H1 Af1 env1 ds total envE d (i + 1), fun H' w => ⟨ds.length - (i + 1), by omega, rfl, hlt, w⟩, fun x H' y => ?_⟩
    have hdrop : ds.drop i = ds[i] :: ds.drop (i + 1) := List.drop_eq_getElem_cons hlt
    obtain ⟨F', g, rx⟩ := r1.2.yld i F H x H' ds[i] eF s.ex (List.getElem?_eq_getElem hlt) y
    have s2 := s.grow g
    have t2 : Stp F1 H1 Af1 F' H' Af [] := tt.trans (Stp.grow g)
    have ap2 := ap.step (Stp.grow (Af := Af) g)
    have ra2 := ra.mono g.f
    rw [hdrop] at hr
    have hr : (match assignT t ds[i] (wipeE env (tslots t)) with
      | none => Res.stuck
      | some env1 => (match c with
          | none => Res.ok (true, env1)
          | some c => truthE ev c env1).bind fun p =>
        if p.1 then (evD ev elt p.2).bind fun q => (turns ev elt t c (tslots t) (ds.drop (i + 1)) q.2).bind fun r => .ok (O.val q.1 :: r.1, r.2)
        else turns ev elt t c (tslots t) (ds.drop (i + 1)) p.2) = .ok (rest, envE) := hr
    cases ha : assignT t ds[i] (wipeE env (tslots t)) with
    | none => rw [ha] at hr; cases hr
    | some env2 =>
    rw [ha] at hr
    refine gT_ok t ha s2 rx fun σ2 Af2 s3 l3 m3 => ⟨wipe_same m3 (fun i h => h) |>.trans ?_, ?_⟩
    · -- wiped twice
      exact wipe_same (is := tslots t) ⟨wipe_length _ _, fun j hj => (wipe_get σ j _).1 hj⟩ fun i h => h
    have t3 : Stp F1 H1 Af1 F' H' Af2 [] := t2.trans (Stp.less l3)
    have ap3 := ap2.step (Stp.less (F := F') (H := H') l3)
    have hw3 : L2.wipe σ2 (tslots t) = L2.wipe σ (tslots t) := (wipe_same m3 (fun i h => h)).trans (wipe_same (is := tslots t) ⟨wipe_length _ _, fun j hj => (wipe_get σ j _).1 hj⟩ fun i h => h)
    -- behind the test
    have key : ∀ (b : Bool) (env3 : Env) (F4 H4 : Hp) (Af4 : Nat → List Addr), (if b then (evD ev elt env3).bind fun q => (turns ev elt t c (tslots t) (ds.drop (i + 1)) q.2).bind fun r => .ok (O.val q.1 :: r.1, r.2)
        else turns ev elt t c (tslots t) (ds.drop (i + 1)) env3) = .ok (rest, envE) → SR X.K F4 H4 σ2 env3 Af4 → Stp F' H' Af2 F4 H4 Af4 [] →
        (if b = true then TD X cA WF (evD ev elt) σ2 H4 (fun y H5 => ∃ acc, H5 d = some (.lst acc) ∧ acc.length < sizeLine ∧ CI X.K ev elt t c σ F1 H1 Af1 env1 ds total envE d (i + 1) (upd H5 d (.lst (acc ++ [y]))))
          else CI X.K ev elt t c σ F1 H1 Af1 env1 ds total envE d (i + 1) H4) := by
      intro b env3 F4 H4 Af4 hr s4 t4
      have t14 := t3.trans t4
      have ap4 := ap3.step t4
      cases b with
      | false =>
        refine ⟨F4, Af4, env3, acc, as, rest, ?_, t14, ap4, ra2.mono t4.ex, Nat.le_succ_of_le hl, hr, ht⟩
        rw [← hw3]; exact s4.wipe _
      | true =>
        simp only [if_true] at hr ⊢
        cases he : evD ev elt env3 with
        | stuck => rw [he] at hr; cases hr
        | err k => rw [he] at hr; cases hr
        | ok z =>
        obtain ⟨v, env4⟩ := z
        rw [he] at hr
        have hr : ((turns ev elt t c (tslots t) (ds.drop (i + 1)) env4).bind fun r => .ok (O.val v :: r.1, r.2)) = .ok (rest, envE) := hr
        refine ⟨F4, Af4, env3, s4, ?_⟩
        rw [he]
        intro y F5 H5 Af5 C5 s5 t5 r5 nd5 un5
        obtain ⟨rfl, r5⟩ := r5
        have ap5 := ap4.step t5
        refine ⟨acc, ap5.h, ?_, ?_⟩
        · have := hz
          have h9 := most_line
          have : most < sizeLine := by decide
          omega
        · obtain ⟨r, hr1, hr2⟩ := Res.bind_ok hr
          cases hr2
          refine ⟨F5, Af5, env4, acc ++ [y], as ++ [v], r.1, ?_, (t14.trans t5).patch hd _, ⟨ap5.f, ap5.a, upd_same⟩, (ra2.mono (t4.ex.trans t5.ex)).append (.cons r5 .nil), by rw [List.length_append, List.length_singleton]; omega, hr1, ?_⟩
          · rw [← hw3]; exact (s5.other ap5.f ap5.a _).wipe _
          · rw [ht, List.map_append, List.append_assoc]; rfl
    cases c with
    | none => exact key true env2 F' H' Af2 hr s3 Stp.refl
    | some c =>
      obtain ⟨⟨b, env3⟩, h1, h2⟩ := Res.bind_ok hr
      have h1 : truthE ev c env2 = .ok (b, env3) := h1
      refine ⟨F', Af2, env2, s3, ?_⟩
      rw [h1]
      intro b' F4 H4 Af4 C4 s4 t4 r4 nd4 un4
      obtain ⟨rfl, rfl⟩ := r4
      exact key b' env3 F4 H4 Af4 h2 s4 t4
  · have e : i = ds.length := by omega
    subst e
    rw [List.drop_length] at hr
    cases hr
    refine .inl ⟨r1.2.stop F H eF s.ex, ?_⟩
    have sb := s.back s1 eF hpl
    refine q (.ref d) F H _ [d] sb ?_ ?_ (by simp) fun x hx => ?_
    · have tl := tt.trans (Stp.less (F := F) (H := H) (Less.clear (Af := Af) (tslots t)))
      exact ⟨tl.ex, tl.frame, tl.dom, tl.prF, tl.prA, fun a ha => by
        have : a = d := by simpa using ha
        subst this; exact .inr hd⟩
    · rw [ht, List.append_nil]
      exact .lst ap.h (ROs.vals ra)
    · have : x = d := by simpa using hx
      subst this
      exact ⟨ap.f, fun h => ap.a ((Less.clear (Af := Af) (tslots t)).own h)⟩
end
end Ev

end
section
set_option autoImplicit false
set_option linter.all false
set_option maxRecDepth 100000
set_option maxHeartbeats 4000000
/-! set(a list, a tuple of ints), sorted. -/
namespace Ev
open PySem PySem.Spec PyProof.Rows L2
theorem keyB {x : Int} {y : Str} : (Sum.inl x : Key) ≠ Sum.inr y := fun z => nomatch z
section
variable {X : Cx}
/-- set(x), x a list, a tuple of ints -/
def rSetOfL (K : PySem.W.Frag) (w : World) : List V → Hp → VK → Prop := fun xs H Q => ∃ (a : Addr) (ns : List Int), xs = [V.ref a] ∧ (SqL K H a (ns.map V.int) ∨ SqT K H a (ns.map V.int)) ∧ ns.length < 64 ∧ ∀ (q : Addr) (c : Nat), H q = none → c ≤ ns.length → Q (.ref q) (upd H q (SetO w q (fun j => decide (j ∈ ns)) c))
theorem cr_setL (hc : X.calm = true) : CallR X (.type "set") (rSetOfL X.K X.w) := by
  intro pins s σ H xs us Q I r h
  obtain ⟨a, ns, rfl, hs, hl, q⟩ := h
  have hn : H s.heap.objs.size = none := I.hok.fresh (Nat.le_refl _)
  rw [Vals.ref1 r]
  rcases hs with hs | hs
  · obtain ⟨its, rv, pl, hz⟩ := I.list hs
    refine call_set_listI ns (I.ok.hd hc) pl.isList (ints_of_vals rv) (by unfold scanBound; omega) fun h' tk c R hcn k => ?_
    exact ⟨.ref _, upd H s.heap.objs.size (SetO X.w s.heap.objs.size (fun j => decide (j ∈ ns)) c), I.laid (t' := tk) k (Nat.le_refl _) (setO_new R), rfl, q _ c hn hcn⟩
  · obtain ⟨its, rv, pl, hz⟩ := I.tuple hs
    refine call_set_tupI ns (I.ok.hd hc) pl (ints_of_vals rv) (by unfold scanBound; omega) fun h' tk c R hcn k => ?_
    exact ⟨.ref _, upd H s.heap.objs.size (SetO X.w s.heap.objs.size (fun j => decide (j ∈ ns)) c), I.laid (t' := tk) k (Nat.le_refl _) (setO_new R), rfl, q _ c hn hcn⟩
theorem dataLe_ints : W.dataLe false PyData.int = fun a b => decide (a ≤ b) := W.dataLe_int (fun x : Int => x)
theorem alike_ints : ∀ ns : List Int, alikeB (ns.map PyData.int) = true
  | [] => rfl
  | n :: ns => by
    rw [List.map_cons]
    unfold alikeB
    rw [alike_ints ns, Bool.and_eq_true]
    refine ⟨List.all_eq_true.mpr fun d hd => ?_, by simp [W.alike, PyData.plain, isNone, PyData.depth]⟩
    obtain ⟨k, _, rfl⟩ := List.mem_map.mp hd
    simp [W.alike]
theorem sortable_ints : ∀ ns : List Int, sortable (ns.map PyData.int) = true
  | [] => rfl
  | n :: ns => by
    show ((ns.map PyData.int).all fun d => match d with | .tuple _ => false | .none => false | _ => true) = true
    refine List.all_eq_true.mpr fun d hd => ?_
    obtain ⟨k, _, rfl⟩ := List.mem_map.mp hd
    rfl
/-- sorted(d) of a dict whose keys are ints -/
theorem call_sortedK (hcalm : X.calm = true) (hu : X.A.units + 64 < cLine) : CallR X (.builtin "sorted") (fun xs H Q => ∃ (a : Addr) (kvs : List (Key × V)) (ks : List Int), xs = [.ref a] ∧ Rd H a (.dK kvs) ∧ kvs.map (·.1) = ks.map Sum.inl ∧
    ∀ (ys : List Int) (p : Addr), ys.Perm ks → ys.Pairwise (· ≤ ·) → H p = none → Q (.ref p) (upd H p (.lst (ys.map V.int)))) := by
  intro pins s σ H xs us Q I r q
  obtain ⟨a, kvs, ks, ex, hd, hks, q⟩ := q
  subst ex
  obtain ⟨u, eu, rx⟩ := vals1 r
  subst eu
  cases rx
  obtain ⟨z, lo, vs, rel, dd⟩ := dk_rd I.hok hd
  obtain ⟨ep, hat⟩ := dd.dictAt
  have hkeys : vs.map (·.1) = ks.map Sum.inl := rel.keys.symm.trans hks
  have hl : vs.length = ks.length := by simpa using congrArg List.length hkeys
  have h16 : vs.length ≤ sizeLine := by rw [← rel.length]; exact z
  refine Calls.call_function_entry PyProof.Rows.kind_sorted PyProof.Rows.plain_sorted PyProof.Rows.entry_sorted (PyProof.Rows.args_sorted1 _) ?_
  unfold Builtin.«sorted»
  refine wpAny_bind (m := checkCount "sorted" 1 1 _) (wpAny_pure ?_)
  refine wpAny_bind (PySem.W.kdu_collect (A := X.A.in1) (PySem.W.kdl_dict (knd := mixKind X.prog X.w) (kvs := vs) (ep := ep) lo) (I.ok.hd hcalm) hat h16 fun h' tk acc hk hacc => ?_)
  have hal : acc.toList.length = ks.length := by rw [Array.length_toList, hacc.1, hl]
  have hS : IntsAre acc.toList ks := ints_each hal fun j v e => by
    obtain ⟨k, x, e1, e2⟩ := hacc.2 j v (by rw [← Array.getElem?_toList]; exact e)
    have e3 : (vs.map (·.1))[j]? = some k := by rw [List.getElem?_map, e1]; rfl
    rw [hkeys, List.getElem?_map] at e3
    cases e4 : ks[j]? with
    | none => rw [e4] at e3; cases e3
    | some y =>
      rw [e4] at e3
      have e5 : Sum.inl y = k := Option.some.inj e3
      subst e5
      rcases keyIs_shape (show keyIs (Sum.inl y) v = true from e2) with ⟨i, t, ek, ev⟩ | ⟨z, t, ek, ev⟩
      · cases ek
        exact ⟨y, t, rfl, ev⟩
      · cases ek
  have I1 : L2.Inv X pins σ H { s with heap := h', toks := tk } := I.kept hk
  refine wpAny_bind (wpAny_newList ?_ (by rw [hal, ← hl]; exact h16))
  have hoL : (h'.push (seqObj "list" acc.toList.toArray 0)).get? h'.objs.size = some (seqObj "list" acc.toList.toArray 0) := Heap.get?_push_size _ rfl
  have hE : PySem.W.EachIs (fun (v : Value) (b : Int) => ∃ t, v = .int b t) acc.toList ks := by
    have : ∀ {us : List Value} {ks : List Int}, IntsAre us ks → PySem.W.EachIs (fun (v : Value) (b : Int) => ∃ t, v = .int b t) us ks := by
      intro us ks h
      induction h with
      | nil => exact .nil
      | cons n t _ ih => exact .cons ⟨t, rfl⟩ ih
    exact this hS
  obtain ⟨g1, g2, g3⟩ := alikeB_all (alike_ints ks)
  refine wpAny_bind (wpAny_holding (wpAny_mono (PySem.W.list_sort_data (enc := PyData.int) (s := { s with heap := h'.push (seqObj "list" acc.toList.toArray 0), toks := tk }) (A := X.A.in1) hoL hE
    (hE.mono fun v b ⟨t, e⟩ => ⟨[], by subst e; constructor, by simp⟩) g1.1 (sortable_of (sortable_ints ks)) (by rw [← hl]; exact h16) (fun b hb => by
      show X.A.in1.units + 1 + (PyData.int b).depth < cLine
      simp only [PyData.depth]
      show X.A.units + 1 + 1 + 0 < cLine
      omega)
    (Q := fun v s' => v = .none ∧ ∃ out : List Value, IntsAre out (ks.mergeSort fun a b => decide (a ≤ b)) ∧ s' = { s with heap := sortedHeap (h'.push (seqObj "list" acc.toList.toArray 0)) h'.objs.size acc.toList out.toArray, toks := tk }) fun out ho eo => ⟨rfl, out, ?_, rfl⟩) (fun v s' x => ?_) fun _ _ e => e))
  · rw [dataLe_ints] at eo
    have : ∀ {us : List Value} {ks : List Int}, PySem.W.EachIs (fun (v : Value) (b : Int) => ∃ t, v = .int b t) us ks → IntsAre us ks := by
      intro us ks h
      induction h with
      | nil => exact .nil
      | cons h _ ih =>
        obtain ⟨t, rfl⟩ := h
        exact .cons _ t ih
    exact this eo
  · obtain ⟨rfl, out, ho, rfl⟩ := x
    obtain ⟨e', he'⟩ := PyProof.Rows.sortedHeap_at (vs := acc.toList) (out := out.toArray) hoL
    have gp : (ks.mergeSort fun a b => decide (a ≤ b)).Perm ks := List.mergeSort_perm _ _
    have gs : (ks.mergeSort fun a b => decide (a ≤ b)).Pairwise (· ≤ ·) := by
      have := List.pairwise_mergeSort (le := fun a b : Int => decide (a ≤ b)) (fun a b c h1 h2 => by simp at h1 h2 ⊢; omega) (fun a b => by simp; omega) ks
      exact this.imp fun h => by simpa using h
    have hlen : ((ks.mergeSort fun a b => decide (a ≤ b)).map V.int).length ≤ sizeLine := by
      rw [List.length_map, gp.length_eq, ← hl]; exact h16
    refine wpAny_pure ⟨_, rfl, .ref h'.objs.size, upd H h'.objs.size (.lst ((ks.mergeSort fun a b => decide (a ≤ b)).map V.int)), I1.laid (t' := tk) (fun b u e => ?_) (Nat.le_refl _)
      (show ObjOk X.prog X.w _ _ _ (.lst ((ks.mergeSort fun a b => decide (a ≤ b)).map V.int)) from ⟨hlen, out, e', vals_of_ints ho, he'⟩), rfl, q _ _ gp gs (I1.hok.fresh (Nat.le_refl _))⟩
    have hb : b < h'.objs.size := Heap.lt_size e
    rw [PyProof.Rows.sortedHeap_old (Nat.ne_of_lt hb) (by rw [size_push']; exact Nat.lt_succ_of_lt hb)]
    exact Heap.get?_push_of_some _ e
end
end Ev

end
section
set_option autoImplicit false
set_option linter.all false
set_option maxRecDepth 100000
/-! sorted(set(..)), sorted({k: .. for ..}) -/
namespace Ev
open PySem L2 PyProof.Rows RZ

theorem ints_mem' : ∀ {ds : List D} {ns : List Int}, ints? ds = some ns → ds = ns.map PyData.int
  | [], _, h => by cases h; rfl
  | d :: ds, ns, h => by
    cases d with
    | int i =>
      have h : (ints? ds).map (i :: ·) = some ns := h
      rw [Option.map_eq_some_iff] at h
      obtain ⟨l, h1, rfl⟩ := h
      rw [List.map_cons, ints_mem' h1]
    | _ => cases h
section
variable {nm : Names} {T : Tab} {cA fA : Nat → Addr} {n : Nat} {W : WX} {X : Cx} {ev : E → Env → Res (O × Env)} {exs : List S → Env → Res (Fl × Env)}
theorem vals_int (ns : List Int) : (ns.map fun i => O.val (.int i)) = (ns.map PyData.int).map O.val := by rw [List.map_map]; rfl
theorem e_sortedSet (hX : At nm T cA fA n W X) {x : E} {b : Expr} {f g : Str} {p0 p1 p2 pos : Pos} (hf : f = "sorted") (h : Gl X f ∧ f ∈ nm.bl) (hg : g = "set") (h2 : Gl X g ∧ g ∈ nm.bl) (hs : noStar b = true) (hb : PE X b (TO X cA W (ev x))) :
    PE X (.Call (.Name f p0) [.Call (.Name g p1) [b] [] p2] [] pos) (TO X cA W (stepE T ev exs (.op1 .sortedSet x))) := by
  subst hf hg
  refine (pe_callB (cr_sortedSet hX.calm) h.1 (hX.blt _ h.2) (by decide +kernel) (pa_cons (pe_callTy (cr_setL hX.calm) h2.1 (hX.blt _ h2.2) (by decide +kernel) (pa_cons hb.toD pa_nil (star1 hs _ _)) (by decide) (by decide) (star1 hs _ _) rfl) pa_nil rfl) (by decide) (by decide) rfl rfl).mono fun σ H Q h => ?_
  refine TG.bind (rep := rD X.K) (r := evD ev x) (k := fun d env => resO (ev1 .sortedSet d) env) h fun d env1 v F1 H1 Af1 C s1 r1 nd un q => ?_
  cases d with
  | list ds =>
    obtain ⟨a, xs, rfl, e2, e3⟩ := r1.2.lst_inv
    obtain ⟨o, eo, q⟩ := res2 q
    have eo : ((ints? ds).bind fun ns => if ns.length < 64 then some (.lst ((sortI ns).map fun i => O.val (.int i))) else none) = some o := eo
    obtain ⟨ns, hns, eo⟩ := Option.bind_eq_some_iff.mp eo
    split at eo
    · rename_i h64
      cases eo
      have exs : xs = ns.map V.int := e3.ints hns
      subst exs
      refine ⟨a, ns, rfl, .inl (SqL.of (s1.ex _ _ e2)), h64, fun p c hp hc => ⟨p, _, c, rfl, upd_same, Nat.lt_of_le_of_lt hc h64, fun ys t hy hm hl ht => ?_⟩⟩
      have ey : ys = sortI ns := sortI_eq hy fun k => (hm k).trans decide_eq_true_iff
      subst ey
      have np := fresh_own s1 hp
      have s2 := s1.other np.2 np.1 (SetO X.w p (fun j => decide (j ∈ ns)) c)
      have nt := fresh_own s2 ht
      rw [vals_int] at q
      have hpt : p ≠ t := fun z => by subst z; rw [upd_same] at ht; cases ht
      refine q (.ref t) F1 _ Af1 [t] (s2.other nt.2 nt.1 _) ?_ (.lst upd_same (ROs.vals Rep.ofInts)) (by simp) fun y hy => by
        have : y = t := by simpa using hy
        subst this; exact ⟨nt.2, nt.1⟩
      have ht1 : H1 t = none := by rw [upd_ne (Ne.symm hpt)] at ht; exact ht
      have st : Stp F1 H1 Af1 F1 (upd (upd H1 p (SetO X.w p (fun j => decide (j ∈ ns)) c)) t (.lst ((sortI ns).map V.int))) Af1 [] := (Stp.refl.patch hp _).patch ht1 _
      exact ⟨st.ex, st.frame, st.dom, st.prF, st.prA, fun y hy => by
        have : y = t := by simpa using hy
        subst this; exact .inr ht1⟩
    · cases eo
  | tuple ds =>
    obtain ⟨a, xs, rfl, e2, e3⟩ := r1.2.tup_inv
    obtain ⟨o, eo, q⟩ := res2 q
    have eo : ((ints? ds).bind fun ns => if ns.length < 64 then some (.lst ((sortI ns).map fun i => O.val (.int i))) else none) = some o := eo
    obtain ⟨ns, hns, eo⟩ := Option.bind_eq_some_iff.mp eo
    split at eo
    · rename_i h64
      cases eo
      have exs : xs = ns.map V.int := e3.ints hns
      subst exs
      refine ⟨a, ns, rfl, .inr (ex_t s1.ex e2), h64, fun p c hp hc => ⟨p, _, c, rfl, upd_same, Nat.lt_of_le_of_lt hc h64, fun ys t hy hm hl ht => ?_⟩⟩
      have ey : ys = sortI ns := sortI_eq hy fun k => (hm k).trans decide_eq_true_iff
      subst ey
      have np := fresh_own s1 hp
      have s2 := s1.other np.2 np.1 (SetO X.w p (fun j => decide (j ∈ ns)) c)
      have nt := fresh_own s2 ht
      rw [vals_int] at q
      have hpt : p ≠ t := fun z => by subst z; rw [upd_same] at ht; cases ht
      refine q (.ref t) F1 _ Af1 [t] (s2.other nt.2 nt.1 _) ?_ (.lst upd_same (ROs.vals Rep.ofInts)) (by simp) fun y hy => by
        have : y = t := by simpa using hy
        subst this; exact ⟨nt.2, nt.1⟩
      have ht1 : H1 t = none := by rw [upd_ne (Ne.symm hpt)] at ht; exact ht
      have st : Stp F1 H1 Af1 F1 (upd (upd H1 p (SetO X.w p (fun j => decide (j ∈ ns)) c)) t (.lst ((sortI ns).map V.int))) Af1 [] := (Stp.refl.patch hp _).patch ht1 _
      exact ⟨st.ex, st.frame, st.dom, st.prF, st.prA, fun y hy => by
        have : y = t := by simpa using hy
        subst this; exact .inr ht1⟩
    · cases eo
  | _ => exact q.elim

/-- how far a dict comprehension has come -/
structure CD (K : PySem.W.Frag) (ev : E → Env → Res (O × Env)) (elt : E) (t : Tgt) (c : Option E) (σ : L2.St) (F1 H1 : Hp) (Af1 : Nat → List Addr) (ds : List D) (total : List O) (envE : Env) (d : Addr) (i : Nat) (H : Hp) : Prop where
  w : ∃ (F : Hp) (Af : Nat → List Addr) (env : Env) (kvs : List (Key × V)) (ks : List Int) (as : List Int) (rest : List O), SR K F H (L2.wipe σ (tslots t)) (wipeE env (tslots t)) Af ∧ Stp F1 H1 Af1 F H Af [] ∧ Apart F H Af d (.dK kvs) ∧ kvs.map (·.1) = ks.map Sum.inl ∧ ks.Nodup ∧
    (∀ k, k ∈ ks ↔ k ∈ as) ∧ kvs.length ≤ i ∧ turns ev elt t c (tslots t) (ds.drop i) env = .ok (rest, envE) ∧ total = (as.map fun i => O.val (.int i)) ++ rest
theorem put_keys {kvs : List (Key × V)} {ks : List Int} {k : Int} {v : V} (h : kvs.map (·.1) = ks.map Sum.inl) (hn : ks.Nodup) : ∃ ks' : List Int, (putK kvs (Sum.inl k) v).map (·.1) = ks'.map Sum.inl ∧ ks'.Nodup ∧ (∀ j, j ∈ ks' ↔ j = k ∨ j ∈ ks) ∧ (putK kvs (Sum.inl k) v).length ≤ kvs.length + 1 := by
  have hm : (kvs.any fun kv => decide (kv.1 = Sum.inl k)) = true ↔ k ∈ ks := by
    rw [List.any_eq_true]
    constructor
    · rintro ⟨kv, h1, h2⟩
      have : kv.1 ∈ ks.map Sum.inl := by rw [← h]; exact List.mem_map_of_mem h1
      rw [of_decide_eq_true h2] at this
      obtain ⟨j, h3, h4⟩ := List.mem_map.mp this
      cases h4; exact h3
    · intro hk
      have : (Sum.inl k : Key) ∈ kvs.map (·.1) := by rw [h]; exact List.mem_map_of_mem hk
      obtain ⟨kv, h1, h2⟩ := List.mem_map.mp this
      exact ⟨kv, h1, decide_eq_true h2⟩
  unfold putK
  split
  · rename_i hy
    refine ⟨ks, ?_, hn, fun j => ⟨.inr, fun q => q.elim (fun e => e ▸ hm.mp hy) id⟩, by rw [List.length_map]; omega⟩
    rw [List.map_map, ← h]
    refine List.map_congr_left fun kv _ => ?_
    show (if kv.1 = Sum.inl k then (kv.1, v) else kv).1 = kv.1
    split <;> rfl
  · rename_i hy
    refine ⟨ks ++ [k], by rw [List.map_append, List.map_append, h]; rfl, ?_, fun j => by rw [List.mem_append, List.mem_singleton]; exact Or.comm, by rw [List.length_append]; exact Nat.le_refl _⟩
    refine List.nodup_append.mpr ⟨hn, by simp, fun a ha b hb e => ?_⟩
    have : b = k := by simpa using hb
    subst this; subst e
    exact hy (hm.mpr ha)
theorem t_dc {elt : E} {t : Tgt} {it : I} {c : Option E} {vb : Bool} {σ : L2.St} {H : Hp} {Q : VK} (h : TO X cA W (stepE T ev exs (.sortedKeys elt t it c)) σ H Q) :
    tDc (TIt X cA W (items ev it)) (gT X.K t) (tIf1 X cA ev c) (TD X cA WF (evD ev elt)) (tC (.bl vb)) (tslots t) σ H (fun x H => ∃ (a : Addr) (kvs : List (Key × V)) (ks : List Int), [x] = [V.ref a] ∧ Rd H a (.dK kvs) ∧ kvs.map (·.1) = ks.map Sum.inl ∧
      ∀ (ys : List Int) (p : Addr), ys.Perm ks → ys.Pairwise (· ≤ ·) → H p = none → Q (.ref p) (upd H p (.lst (ys.map V.int)))) := by
  refine TG.bind (rep := rIt X.K) (r := items ev it) (k := fun ds env => if ds.length ≤ most ∧ (tslots t).all (plainAt env) = true then
      (noErr (turns ev elt t c (tslots t) ds env)).bind fun q => match ints? (O.toDs q.1) with
        | some ns => .ok (O.lst ((sortI ns).map fun i => O.val (.int i)), backE env q.2 (tslots t))
        | none => .stuck
      else .stuck) h fun ds env1 J F1 H1 Af1 C s1 r1 nd un q => ?_
  split at q
  case isFalse => exact q.elim
  rename_i hz
  obtain ⟨hz, hpl⟩ := hz
  cases hT : turns ev elt t c (tslots t) ds env1 with
  | stuck => rw [hT] at q; exact q.elim
  | err k => rw [hT] at q; exact q.elim
  | ok z =>
  obtain ⟨total, envE⟩ := z
  rw [hT] at q
  cases hi0 : ints? (O.toDs total) with
  | none =>
    have q : PG X.K cA W (rO X.K) σ F1 H1 Af1 (match ints? (O.toDs total) with
        | some ns => .ok (O.lst ((sortI ns).map fun i => O.val (.int i)), backE env1 envE (tslots t))
        | none => .stuck) Q := q
    rw [hi0] at q; exact q.elim
  | some ns =>
  have q : PG X.K cA W (rO X.K) σ F1 H1 Af1 (match ints? (O.toDs total) with
        | some ns => .ok (O.lst ((sortI ns).map fun i => O.val (.int i)), backE env1 envE (tslots t))
        | none => .stuck) Q := q
  rw [hi0] at q
  have htot := ints_mem' hi0
  intro d hd
  have hd1 : ¬ Own Af1 d ∧ F1 d = none := fresh_own s1 hd
  refine ⟨fun i m H => m = ds.length - i ∧ i ≤ ds.length ∧ CD X.K ev elt t c σ F1 H1 Af1 ds total envE d i H, ⟨ds.length, by simp, Nat.zero_le _, ⟨F1, Af1, env1, [], [], [], total, ?_, ?_, ?_, rfl, .nil, fun _ => Iff.rfl, Nat.le_refl _, hT, rfl⟩⟩, ?_⟩
  · exact (s1.other hd1.2 hd1.1 _).wipe _
  · exact Stp.refl.patch hd _
  · exact ⟨hd1.2, hd1.1, upd_same⟩
  rintro i m H ⟨rfl, hi, ⟨F, Af, env, kvs, ks, as, rest, s, tt, ap, hkv, hnd, hks, hl, hr, ht⟩⟩
  have eF : Ex F1 F := tt.ex
  by_cases hlt : i < ds.length
  · refine .inr ⟨r1.2.go i F H eF s.ex hlt, CD X.K ev elt t c σ F1 H1 Af1 ds total envE d (i + 1), fun H' w => ⟨ds.length - (i + 1), by omega, rfl, hlt, w⟩, fun x H' y => ?_⟩
    have hdrop : ds.drop i = ds[i] :: ds.drop (i + 1) := List.drop_eq_getElem_cons hlt
    obtain ⟨F', g, rx⟩ := r1.2.yld i F H x H' ds[i] eF s.ex (List.getElem?_eq_getElem hlt) y
    have s2 := s.grow g
    have t2 : Stp F1 H1 Af1 F' H' Af [] := tt.trans (Stp.grow g)
    have ap2 := ap.step (Stp.grow (Af := Af) g)
    rw [hdrop] at hr
    have hr : (match assignT t ds[i] (wipeE env (tslots t)) with
      | none => Res.stuck
      | some env1 => (match c with
          | none => Res.ok (true, env1)
          | some c => truthE ev c env1).bind fun p =>
        if p.1 then (evD ev elt p.2).bind fun q => (turns ev elt t c (tslots t) (ds.drop (i + 1)) q.2).bind fun r => .ok (O.val q.1 :: r.1, r.2)
        else turns ev elt t c (tslots t) (ds.drop (i + 1)) p.2) = .ok (rest, envE) := hr
    cases ha : assignT t ds[i] (wipeE env (tslots t)) with
    | none => rw [ha] at hr; cases hr
    | some env2 =>
    rw [ha] at hr
    have w2 : ∀ (j : Nat), j ∉ tslots t → (L2.wipe σ (tslots t))[j]? = σ[j]? := fun j hj => (wipe_get σ j _).1 hj
    have ww : Same (tslots t) σ (L2.wipe σ (tslots t)) := ⟨wipe_length _ _, w2⟩
    refine gT_ok t ha s2 rx fun σ2 Af2 s3 l3 m3 => ⟨(wipe_same m3 (fun i h => h)).trans (wipe_same ww fun i h => h), ?_⟩
    have t3 : Stp F1 H1 Af1 F' H' Af2 [] := t2.trans (Stp.less l3)
    have ap3 := ap2.step (Stp.less (F := F') (H := H') l3)
    have hw3 : L2.wipe σ2 (tslots t) = L2.wipe σ (tslots t) := (wipe_same m3 (fun i h => h)).trans (wipe_same ww fun i h => h)
    have key : ∀ (b : Bool) (env3 : Env) (F4 H4 : Hp) (Af4 : Nat → List Addr), (if b then (evD ev elt env3).bind fun q => (turns ev elt t c (tslots t) (ds.drop (i + 1)) q.2).bind fun r => .ok (O.val q.1 :: r.1, r.2)
        else turns ev elt t c (tslots t) (ds.drop (i + 1)) env3) = .ok (rest, envE) → SR X.K F4 H4 σ2 env3 Af4 → Stp F' H' Af2 F4 H4 Af4 [] →
        (if b = true then TD X cA WF (evD ev elt) σ2 H4 (fun y H5 => tC (.bl vb) σ2 H5 fun z H6 => ∃ kvs k, y = kV k ∧ H6 d = some (.dK kvs) ∧ kvs.length < sizeLine ∧ CD X.K ev elt t c σ F1 H1 Af1 ds total envE d (i + 1) (upd H6 d (.dK (putK kvs k z))))
          else CD X.K ev elt t c σ F1 H1 Af1 ds total envE d (i + 1) H4) := by
      intro b env3 F4 H4 Af4 hr s4 t4
      have t14 := t3.trans t4
      have ap4 := ap3.step t4
      cases b with
      | false =>
        refine ⟨F4, Af4, env3, kvs, ks, as, rest, ?_, t14, ap4, hkv, hnd, hks, Nat.le_succ_of_le hl, hr, ht⟩
        rw [← hw3]; exact s4.wipe _
      | true =>
        simp only [if_true] at hr ⊢
        cases he : evD ev elt env3 with
        | stuck => rw [he] at hr; cases hr
        | err k => rw [he] at hr; cases hr
        | ok z =>
        obtain ⟨v, env4⟩ := z
        rw [he] at hr
        have hr : ((turns ev elt t c (tslots t) (ds.drop (i + 1)) env4).bind fun r => .ok (O.val v :: r.1, r.2)) = .ok (rest, envE) := hr
        obtain ⟨r, hr1, hr2⟩ := Res.bind_ok hr
        cases hr2
        -- the key is a whole number
        have hv : ∃ k : Int, v = .int k := by
          have h1 : v ∈ O.toDs total := by
            rw [ht]
            have : ∀ (l m : List O), O.toDs (l ++ m) = O.toDs l ++ O.toDs m := by
              intro l m
              induction l with
              | nil => rfl
              | cons a l ih => show a.toD :: O.toDs (l ++ m) = _; rw [ih]; rfl
            rw [this]
            exact List.mem_append_right _ List.mem_cons_self
          rw [htot] at h1
          obtain ⟨k, _, e⟩ := List.mem_map.mp h1
          exact ⟨k, e.symm⟩
        obtain ⟨k, rfl⟩ := hv
        refine ⟨F4, Af4, env3, s4, ?_⟩
        rw [he]
        intro y F5 H5 Af5 C5 s5 t5 r5 nd5 un5
        obtain ⟨rfl, r5⟩ := r5
        cases r5.int_inv
        have ap5 := ap4.step t5
        refine ⟨kvs, Sum.inl k, rfl, ap5.h, ?_, ?_⟩
        · have : most < sizeLine := by decide
          omega
        · obtain ⟨ks', p1, p2, p3, p4⟩ := put_keys (v := V.bl vb) (k := k) hkv hnd
          refine ⟨F5, Af5, env4, _, ks', as ++ [k], r.1, ?_, (t14.trans t5).patch hd _, ⟨ap5.f, ap5.a, upd_same⟩, p1, p2, fun j => ?_, by omega, hr1, ?_⟩
          · rw [← hw3]; exact (s5.other ap5.f ap5.a _).wipe _
          · rw [p3, hks, List.mem_append, List.mem_singleton]; exact Or.comm
          · rw [ht, List.map_append, List.append_assoc]; rfl
    cases c with
    | none => exact key true env2 F' H' Af2 hr s3 Stp.refl
    | some c =>
      obtain ⟨⟨b, env3⟩, h1, h2⟩ := Res.bind_ok hr
      have h1 : truthE ev c env2 = .ok (b, env3) := h1
      refine ⟨F', Af2, env2, s3, ?_⟩
      rw [h1]
      intro b' F4 H4 Af4 C4 s4 t4 r4 nd4 un4
      obtain ⟨rfl, rfl⟩ := r4
      exact key b' env3 F4 H4 Af4 h2 s4 t4
  · have e : i = ds.length := by omega
    subst e
    rw [List.drop_length] at hr
    cases hr
    refine .inl ⟨r1.2.stop F H eF s.ex, d, kvs, ks, rfl, .of ap.h, hkv, fun ys p hy1 hy2 hp => ?_⟩
    have sb := s.back s1 eF hpl
    have hns : ∀ k, k ∈ ks ↔ k ∈ ns := fun k => by
      rw [hks]
      have e1 : O.toDs total = as.map PyData.int := by
        rw [ht, List.append_nil]
        clear ht hks
        induction as with
        | nil => rfl
        | cons a l ih => show PyData.int a :: O.toDs _ = _; rw [ih]; rfl
      rw [e1] at htot
      have : as = ns := List.map_inj_right (fun a b h => by cases h; rfl) |>.mp htot
      rw [this]
    have hyn : ys.Nodup := hy1.nodup_iff.mpr hnd
    have ey : ys = sortI ns := sortI_eq (lt_of_le_nodup ys hy2 hyn) fun k => (hy1.mem_iff).trans (hns k)
    subst ey
    have np := fresh_own sb hp
    have hne : p ≠ d := fun z => by subst z; rw [ap.h] at hp; cases hp
    have hp1 : H1 p = none := Classical.byContradiction fun z => tt.dom p z hp
    have q : PG X.K cA W (rO X.K) σ F1 H1 Af1 (.ok (O.lst ((sortI ns).map fun i => O.val (.int i)), backE env1 envE (tslots t))) Q := q
    rw [vals_int] at q
    have tl := (tt.trans (Stp.less (F := F) (H := H) (Less.clear (Af := Af) (tslots t)))).patch hp1 (.lst ((sortI ns).map V.int))
    refine q (.ref p) F _ _ [p] (sb.other np.2 np.1 _) ⟨tl.ex, tl.frame, tl.dom, tl.prF, tl.prA, fun a ha => by
      have : a = p := by simpa using ha
      subst this; exact .inr hp1⟩ (.lst upd_same (ROs.vals Rep.ofInts)) (by simp) fun y hy => by
        have : y = p := by simpa using hy
        subst this; exact ⟨np.2, np.1⟩
end
end Ev

end
section
set_option autoImplicit false
set_option linter.all false
set_option maxRecDepth 100000
/-! Calls of defs of the text. -/
namespace Ev
open PySem L2 PyProof.Rows RZ

inductive RAs (K : PySem.W.Frag) (σ : L2.St) (F : Hp) : List V → List (Option Nat × D) → Prop
  | nil : RAs K σ F [] []
  | lend {i : Nat} {v : V} {vs : List V} {as : List (Option Nat × D)} : σ[i]? = some (some v) → RAs K σ F vs as → RAs K σ F (v :: vs) ((some i, .none) :: as)
  | val {d : D} {v : V} {vs : List V} {as : List (Option Nat × D)} : Rep K F v d → RAs K σ F vs as → RAs K σ F (v :: vs) ((none, d) :: as)
def rAs (K : PySem.W.Frag) (σ : L2.St) : Rp (List (Option Nat × D)) (List V) := fun F _ vs as C => C = [] ∧ RAs K σ F vs as
section
variable {K : PySem.W.Frag} {F F' H H' : Hp} {σ : L2.St} {env env' : Env} {Af Af' : Nat → List Addr}
theorem RAs.mono (e : Ex F F') : ∀ {vs : List V} {as : List (Option Nat × D)}, RAs K σ F vs as → RAs K σ F' vs as
  | _, _, .nil => .nil
  | _, _, .lend h r => .lend h (RAs.mono e r)
  | _, _, .val h r => .val (h.mono e) (RAs.mono e r)
theorem RAs.length : ∀ {vs : List V} {as : List (Option Nat × D)}, RAs K σ F vs as → vs.length = as.length
  | _, _, .nil => rfl
  | _, _, .lend _ r => by rw [List.length_cons, List.length_cons, RAs.length r]
  | _, _, .val _ r => by rw [List.length_cons, List.length_cons, RAs.length r]
theorem RAs.get : ∀ {vs : List V} {as : List (Option Nat × D)} {j : Nat} {i : Option Nat} {d : D}, RAs K σ F vs as → as[j]? = some (i, d) → ∃ v, vs[j]? = some v ∧ (∀ k, i = some k → σ[k]? = some (some v)) ∧ (i = none → Rep K F v d)
  | _, _, j, _, _, .nil, e => by simp at e
  | _, _, 0, _, _, .lend (v := v) h r, e => by
    cases e
    exact ⟨v, rfl, fun k z => by cases z; exact h, fun z => nomatch z⟩
  | _, _, j + 1, _, _, .lend h r, e => RAs.get (j := j) r e
  | _, _, 0, _, _, .val (v := v) h r, e => by
    cases e
    exact ⟨v, rfl, (fun k z => nomatch z), fun _ => h⟩
  | _, _, j + 1, _, _, .val h r, e => RAs.get (j := j) r e
theorem argOs_get : ∀ {as : List (Option Nat × D)} {os : List O} {j : Nat} {o : O}, argOs env as = some os → os[j]? = some o → ∃ a, as[j]? = some a ∧ argO env a = some o
  | [], os, j, o, e, h => by cases e; simp at h
  | a :: r, os, j, o, e, h => by
    unfold argOs at e
    cases h1 : argO env a with
    | none => rw [h1] at e; cases e
    | some o1 =>
      cases h2 : argOs env r with
      | none => rw [h1, h2] at e; cases e
      | some os1 =>
        rw [h1, h2] at e
        cases e
        cases j with
        | zero => cases h; exact ⟨a, rfl, h1⟩
        | succ j => exact argOs_get (j := j) h2 h
theorem argOs_length : ∀ {as : List (Option Nat × D)} {os : List O}, argOs env as = some os → os.length = as.length
  | [], os, e => by cases e; rfl
  | a :: r, os, e => by
    unfold argOs at e
    cases h1 : argO env a with
    | none => rw [h1] at e; cases e
    | some o1 =>
      cases h2 : argOs env r with
      | none => rw [h1, h2] at e; cases e
      | some os1 =>
        rw [h1, h2] at e
        cases e
        rw [List.length_cons, List.length_cons, argOs_length h2]
theorem mem_lent : ∀ {as : List (Option Nat × D)} {i : Nat}, i ∈ lent as ↔ ∃ (j : Nat) (d : D), as[j]? = some (some i, d)
  | [], i => ⟨(fun h => nomatch h), fun ⟨j, d, h⟩ => by simp at h⟩
  | (some k, d) :: r, i => by
    show i ∈ k :: lent r ↔ _
    rw [List.mem_cons, mem_lent]
    constructor
    · rintro (rfl | ⟨j, d', h⟩)
      · exact ⟨0, d, rfl⟩
      · exact ⟨j + 1, d', h⟩
    · rintro ⟨j, d', h⟩
      cases j with
      | zero => cases h; exact .inl rfl
      | succ j => exact .inr ⟨j, d', h⟩
  | (none, d) :: r, i => by
    show i ∈ lent r ↔ _
    rw [mem_lent]
    constructor
    · rintro ⟨j, d', h⟩; exact ⟨j + 1, d', h⟩
    · rintro ⟨j, d', h⟩
      cases j with
      | zero => cases h
      | succ j => exact ⟨j, d', h⟩
theorem lent_uniq : ∀ {as : List (Option Nat × D)} {i j j' : Nat} {d d' : D}, (lent as).Nodup → as[j]? = some (some i, d) → as[j']? = some (some i, d') → j = j'
  | [], _, j, _, _, _, _, h, _ => by simp at h
  | (some k, e) :: r, i, j, j', d, d', nd, h, h' => by
    have nd : (k :: lent r).Nodup := nd
    obtain ⟨n1, n2⟩ := List.nodup_cons.mp nd
    cases j with
    | zero =>
      cases h
      cases j' with
      | zero => rfl
      | succ j' => exact absurd (mem_lent.mpr ⟨j', d', h'⟩) n1
    | succ j =>
      cases j' with
      | zero => cases h'; exact absurd (mem_lent.mpr ⟨j, d, h⟩) n1
      | succ j' =>
        have h : r[j]? = some (some i, d) := h
        have h' : r[j']? = some (some i, d') := h'
        rw [lent_uniq (j := j) (j' := j') n2 h h']
  | (none, e) :: r, i, j, j', d, d', nd, h, h' => by
    cases j with
    | zero => cases h
    | succ j =>
      cases j' with
      | zero => cases h'
      | succ j' =>
        have h : r[j]? = some (some i, d) := h
        have h' : r[j']? = some (some i, d') := h'
        rw [lent_uniq (as := r) (j := j) (j' := j') (show (lent r).Nodup from nd) h h']
/-- what the callee owns -/
def afc (Af : Nat → List Addr) (as : List (Option Nat × D)) : Nat → List Addr := fun j => match as[j]? with
  | some (some i, _) => Af i
  | _ => []
theorem afc_mem {as : List (Option Nat × D)} {j : Nat} {a : Addr} (h : a ∈ afc Af as j) : ∃ i d, as[j]? = some (some i, d) ∧ a ∈ Af i := by
  unfold afc at h
  split at h
  · rename_i i d e; exact ⟨i, d, e, h⟩
  · cases h
theorem afc_own {as : List (Option Nat × D)} {a : Addr} (h : Own (afc Af as) a) : Own Af a := by
  obtain ⟨j, h⟩ := h
  obtain ⟨i, d, _, h⟩ := afc_mem h
  exact ⟨i, h⟩
theorem SR.enter (s : SR K F H σ env Af) {vs : List V} {as : List (Option Nat × D)} {os : List O} (r : RAs K σ F vs as) (nd : (lent as).Nodup) (ho : argOs env as = some os) : SR K F H (vs.map some) (os.map some) (afc Af as) := by
  refine ⟨s.ex, by rw [List.length_map, List.length_map, r.length, argOs_length ho], fun j o e => ?_, fun j => ?_, fun j k a h1 h2 => ?_, fun j a h => ?_, fun j a h => ?_⟩
  · rw [List.getElem?_map] at e
    cases q : os[j]? with
    | none => rw [q] at e; cases e
    | some o' =>
      rw [q] at e
      cases e
      obtain ⟨⟨i, d⟩, e1, e2⟩ := argOs_get ho q
      obtain ⟨v, h1, h2, h3⟩ := r.get e1
      refine ⟨v, by rw [List.getElem?_map, h1]; rfl, ?_⟩
      cases i with
      | none =>
        cases e2
        have : afc Af as j = [] := by unfold afc; rw [e1]
        rw [this]
        exact .val (h3 rfl)
      | some k =>
        have e2 : (env[k]?).join = some o := e2
        obtain ⟨w, w1, w2⟩ := s.at_ k o (join_some e2)
        rw [h2 k rfl] at w1
        cases w1
        have : afc Af as j = Af k := by unfold afc; rw [e1]
        rw [this]
        exact w2
  · unfold afc
    split
    · exact s.nd _
    · exact .nil
  · obtain ⟨i, d, e1, m1⟩ := afc_mem h1
    obtain ⟨i', d', e2, m2⟩ := afc_mem h2
    have := s.dj i i' a m1 m2
    subst this
    exact lent_uniq nd e1 e2
  · obtain ⟨i, d, e1, m1⟩ := afc_mem h
    exact s.un i a m1
  · obtain ⟨i, d, e1, m1⟩ := afc_mem h
    exact s.th i a m1
theorem backs_get : ∀ {as : List (Option Nat × D)} {env envc : Env} {k : Nat}, (lent as).Nodup → envc.length = as.length → (k ∉ lent as → (backs env as envc)[k]? = env[k]?) ∧
    (k ∈ lent as → ∀ u, (backs env as envc)[k]? = some (some u) → ∃ (j : Nat) (d : D), as[j]? = some (some k, d) ∧ envc[j]? = some (some u))
  | [], env, [], k, _, _ => ⟨fun _ => rfl, (fun h => nomatch h)⟩
  | [], _, _ :: _, _, _, h => by cases h
  | _ :: _, _, [], _, _, h => by cases h
  | (none, d) :: r, env, o :: os, k, nd, hl => by
    obtain ⟨h1, h2⟩ := backs_get (as := r) (env := env) (envc := os) (k := k) nd (by simpa using hl)
    refine ⟨h1, fun h u e => ?_⟩
    obtain ⟨j, d', e1, e2⟩ := h2 h u e
    exact ⟨j + 1, d', e1, e2⟩
  | (some i, d) :: r, env, o :: os, k, nd, hl => by
    have nd : (i :: lent r).Nodup := nd
    obtain ⟨n1, n2⟩ := List.nodup_cons.mp nd
    obtain ⟨h1, h2⟩ := backs_get (as := r) (env := env.set i o) (envc := os) (k := k) n2 (by simpa using hl)
    refine ⟨fun h => ?_, fun h u e => ?_⟩
    · have h : k ∉ i :: lent r := h
      rw [List.mem_cons, not_or] at h
      exact (h1 h.2).trans (List.getElem?_set_ne (Ne.symm h.1))
    · by_cases hk : k ∈ lent r
      · obtain ⟨j, d', e1, e2⟩ := h2 hk u e
        exact ⟨j + 1, d', e1, e2⟩
      · have h : k ∈ i :: lent r := h
        have hki : k = i := by
          rcases List.mem_cons.mp h with q | q
          · exact q
          · exact absurd q hk
        subst hki
        have e : (env.set k o)[k]? = some (some u) := (h1 hk).symm.trans e
        rcases getElem_set e with ⟨_, _, q⟩ | ⟨q, _⟩
        · exact ⟨0, d, rfl, by rw [q]; rfl⟩
        · exact absurd rfl q
theorem backs_length : ∀ {as : List (Option Nat × D)} {env envc : Env}, (backs env as envc).length = env.length
  | [], env, [] => rfl
  | [], env, _ :: _ => rfl
  | (some i, d) :: r, env, [] => rfl
  | (none, d) :: r, env, [] => rfl
  | (none, d) :: r, env, o :: os => backs_length (as := r) (env := env) (envc := os)
  | (some i, d) :: r, env, o :: os => (backs_length (as := r) (env := env.set i o) (envc := os)).trans (by rw [List.length_set])
open Classical in
/-- what the caller owns behind a call -/
noncomputable def afb (Af Ac : Nat → List Addr) (as : List (Option Nat × D)) : Nat → List Addr := fun i => if h : ∃ (j : Nat) (d : D), as[j]? = some (some i, d) then Ac h.choose else Af i
theorem afb_mem {Ac : Nat → List Addr} {as : List (Option Nat × D)} {i : Nat} {a : Addr} (h : a ∈ afb Af Ac as i) : (∃ (j : Nat) (d : D), as[j]? = some (some i, d) ∧ a ∈ Ac j) ∨ (i ∉ lent as ∧ a ∈ Af i) := by
  unfold afb at h
  split at h
  · rename_i q
    obtain ⟨d, e⟩ := q.choose_spec
    exact .inl ⟨q.choose, d, e, h⟩
  · rename_i q
    exact .inr ⟨fun z => q (mem_lent.mp z), h⟩
theorem SR.exit (s : SR K F H σ env Af) {vs : List V} {as : List (Option Nat × D)} (r : RAs K σ F vs as) (nd : (lent as).Nodup) {envc : Env} {Ac : Nat → List Addr} {C : List Addr} (sc : SR K F' H' (vs.map some) envc Ac) (t : Stp F H (afc Af as) F' H' Ac C) :
    SR K F' H' σ (backs env as envc) (afb Af Ac as) ∧ Stp F H Af F' H' (afb Af Ac as) C ∧ ∀ x ∈ C, ¬ Own Ac x → ¬ Own (afb Af Ac as) x := by
  have hl : envc.length = as.length := by rw [← sc.len, List.length_map, r.length]
  have no : ∀ i a, i ∉ lent as → a ∈ Af i → ¬ Own (afc Af as) a := fun i a hi ha ⟨j, h⟩ => by
    obtain ⟨i', d, e1, m1⟩ := afc_mem h
    have := s.dj i i' a ha m1
    subst this
    exact hi (mem_lent.mpr ⟨j, d, e1⟩)
  have noc : ∀ i a, i ∉ lent as → a ∈ Af i → ¬ Own Ac a := fun i a hi ha h => by
    rcases t.prA a h with q | q
    · exact no i a hi ha q
    · exact s.th i a ha q
  have kp : ∀ i a, i ∉ lent as → a ∈ Af i → H' a = H a := fun i a hi ha => by
    cases q : H a with
    | none => exact absurd q (s.th i a ha)
    | some o => exact t.frame a o q (no i a hi ha)
  refine ⟨⟨sc.ex, by rw [backs_length]; exact s.len, fun i o e => ?_, fun i => ?_, fun i k a h1 h2 => ?_, fun i a h => ?_, fun i a h => ?_⟩, ⟨t.ex, fun a o e n => t.frame a o e fun q => n (afc_own q), t.dom, fun a h => ?_, fun a h => ?_, fun a h => ?_⟩, fun x hx n q => ?_⟩
  · by_cases hi : i ∈ lent as
    · obtain ⟨j, d, e1, e2⟩ := (backs_get nd hl).2 hi o e
      obtain ⟨v, h1, h2⟩ := sc.at_ j o e2
      obtain ⟨w, w1, w2, _⟩ := r.get e1
      rw [List.getElem?_map, w1] at h1
      cases h1
      refine ⟨_, w2 i rfl, ?_⟩
      have : afb Af Ac as i = Ac j := by
        have hx : ∃ (j : Nat) (d : D), as[j]? = some (some i, d) := ⟨j, d, e1⟩
        unfold afb
        rw [dif_pos hx]
        obtain ⟨d', e'⟩ := hx.choose_spec
        rw [lent_uniq nd e' e1]
      rw [this]
      exact h2
    · rw [(backs_get nd hl).1 hi] at e
      obtain ⟨v, h1, h2⟩ := s.at_ i o e
      refine ⟨v, h1, ?_⟩
      have : afb Af Ac as i = Af i := by
        unfold afb
        rw [dif_neg fun z => hi (mem_lent.mpr z)]
      rw [this]
      exact h2.mono t.ex fun a ha => kp i a hi ha
  · unfold afb
    split
    · exact sc.nd _
    · exact s.nd i
  · rcases afb_mem h1 with ⟨j, d, e1, m1⟩ | ⟨n1, m1⟩ <;> rcases afb_mem h2 with ⟨j', d', e2, m2⟩ | ⟨n2, m2⟩
    · have := sc.dj j j' a m1 m2
      subst this
      rw [e1] at e2
      cases e2
      rfl
    · exact absurd ⟨j, m1⟩ (noc k a n2 m2)
    · exact absurd ⟨j', m2⟩ (noc i a n1 m1)
    · exact s.dj i k a m1 m2
  · rcases afb_mem h with ⟨j, d, e1, m1⟩ | ⟨n1, m1⟩
    · exact sc.un j a m1
    · exact Classical.byContradiction fun q => by
        rcases t.prF a q with q | q | q
        · exact q (s.un i a m1)
        · exact s.th i a m1 q
        · exact no i a n1 m1 q
  · rcases afb_mem h with ⟨j, d, e1, m1⟩ | ⟨n1, m1⟩
    · exact sc.th j a m1
    · rw [kp i a n1 m1]; exact s.th i a m1
  · rcases t.prF a h with q | q | q
    · exact .inl q
    · exact .inr (.inl q)
    · exact .inr (.inr (afc_own q))
  · obtain ⟨i, h⟩ := h
    rcases afb_mem h with ⟨j, d, e1, m1⟩ | ⟨n1, m1⟩
    · exact (t.prA a ⟨j, m1⟩).imp afc_own id
    · exact .inl ⟨i, m1⟩
  · exact (t.prC a h).imp afc_own id
  · obtain ⟨i, h⟩ := q
    rcases afb_mem h with ⟨j, d, e1, m1⟩ | ⟨n1, m1⟩
    · exact n ⟨j, m1⟩
    · rcases t.prC x hx with q | q
      · exact no i x n1 m1 q
      · exact s.th i x m1 q
end
section
variable {nm : Names} {T : Tab} {cA fA : Nat → Addr} {n : Nat} {W : WX} {X : Cx} {ev : E → Env → Res (O × Env)} {exs : List S → Env → Res (Fl × Env)}
abbrev TAs (X : Cx) (cA : Nat → Addr) (W : WX) (r : Env → Res (List (Option Nat × D) × Env)) : TA := fun σ H Q => TG X.K cA W (rAs X.K σ) r σ H Q
theorem a_args (hX : At nm T cA fA n W X) {chk : Scope → E → Expr → Bool} (HE : ∀ e a, chk X.env.scope e a = true → PE X a (TO X cA W (ev e))) : ∀ (es : List E) (as : List Expr), chkA X.N chk X.env.scope es as = true → PA X as (TAs X cA W (evArgs ev es)) ∧ as.all noStar = true
  | [], [], _ => ⟨pa_nil.mono fun σ H Q ⟨F, Af, env, s, p⟩ => PG.now p s ⟨rfl, .nil⟩, rfl⟩
  | [], _ :: _, h => by cases h
  | e :: es, [], h => by cases e <;> cases h
  | e :: es, a :: as, h => by
    by_cases hs : isLend e = true
    · cases e with
      | lend i =>
        cases a with
        | Name x p =>
          have h' : (isVr X.N X.env.scope i x && chkA X.N chk X.env.scope es as) = true := h
          rw [Bool.and_eq_true] at h'
          obtain ⟨h1, h2, h3, h4⟩ := isVr_spec h'.1
          obtain ⟨k1, k2⟩ := a_args hX HE es as h'.2
          refine ⟨(pa_cons (pe_var h1 h2 h3 h4) k1 rfl).mono fun σ H Q ⟨F, Af, env, s, p⟩ => ?_, by rw [List.all_cons, k2]; rfl⟩
          have p : PG X.K cA W (rAs X.K σ) σ F H Af (match (env[i]?).join with
            | some _ => (evArgs ev es env).bind fun q => .ok ((some i, .none) :: q.1, q.2)
            | none => .stuck) Q := p
          cases e : (env[i]?).join with
          | none => rw [e] at p; exact p.elim
          | some o =>
            rw [e] at p
            obtain ⟨v, e1, r⟩ := s.at_ i _ (join_some e)
            refine ⟨v, e1, PG.tg s (PG.bind (k := fun as env => .ok ((some i, PyData.none) :: as, env)) p fun as env2 vs F2 H2 Af2 C2 _ s2 t2 r2 nd2 un2 q2 => ?_)⟩
            exact PG.now q2 s2 ⟨rfl, .lend e1 r2.2⟩
        | _ => cases h
      | _ => cases hs
    · have hs : isLend e = false := by simpa using hs
      rw [chkA_cons hs] at h
      simp only [Bool.and_eq_true] at h
      obtain ⟨k1, k2⟩ := a_args hX HE es as h.2.2
      refine ⟨(pa_cons (HE e a h.2.1).toD k1 (star1 h.1 _ _)).mono fun σ H Q h => ?_, by rw [List.all_cons, k2, h.1]; rfl⟩
      have h' : TG X.K cA W (rAs X.K σ) (fun env => (evD ev e env).bind fun p => (evArgs ev es p.2).bind fun q => .ok ((none, p.1) :: q.1, q.2)) σ H Q := by
        rw [show evArgs ev (e :: es) = _ from funext (evArgs_cons hs es)] at h; exact h
      refine TG.bind (rep := rD X.K) (r := evD ev e) (k := fun d env => (evArgs ev es env).bind fun q => .ok ((none, d) :: q.1, q.2)) h' fun d env1 v F1 H1 Af1 C s1 r1 nd un q => ?_
      refine PG.tg s1 (PG.bind (rep := rAs X.K σ) (k := fun ys env => .ok ((none, d) :: ys, env)) q fun ys env2 vs F2 H2 Af2 C2 _ s2 t2 r2 nd2 un2 q2 => ?_)
      exact PG.now q2 s2 ⟨rfl, .val (r1.2.mono t2.ex) r2.2⟩
theorem nostars {env : PySem.Env} {pos : Pos} : ∀ {as : List Expr}, as.all noStar = true → (backTo pos (starEach as env)).any (·.1) = false
  | [], _ => rfl
  | a :: as, h => by
    rw [List.all_cons, Bool.and_eq_true] at h
    rw [star1 h.1]
    show (false || (backTo pos (starEach as env)).any (·.1)) = false
    rw [nostars h.2]; rfl
/-- into the callee and back -/
theorem call_sp {j f : Nat} {σ : L2.St} {F H : Hp} {Af : Nat → List Addr} {env : Env} {vs : List V} {as : List (Option Nat × D)} {Q : VK} {E' : XK} (s : SR X.K F H σ env Af) (r : RAs X.K σ F vs as)
    (q : PG X.K cA W (rO X.K) σ F H Af (callA T (exN T j) f as env) Q) (hE : ∀ c d H, W c d σ H → E' c d H) : spF X.K cA T j f vs H Q E' := by
  unfold callA at q
  split at q
  case isFalse => exact q.elim
  rename_i hk
  obtain ⟨nd, lk⟩ := hk
  cases ho : argOs env as with
  | none => rw [ho] at q; exact q.elim
  | some os =>
  rw [ho] at q
  have q : PG X.K cA W (rO X.K) σ F H Af ((callF T (exN T j) f os).bind fun p => .ok (p.1, backs env as p.2)) Q := q
  have se := s.enter r nd ho
  cases hf : T.fs[f]? with
  | none =>
    exfalso
    unfold callF at q
    rw [hf] at q
    exact q.elim
  | some d =>
  by_cases hn : os.length = d.np
  · refine ⟨F, afc Af as, os, d, hf, by rw [r.length, ← argOs_length ho, hn], se, fun k hk => ?_, ?_⟩
    · have : as[k]? = none := List.getElem?_eq_none (by rw [← argOs_length ho]; exact hk)
      unfold afc
      rw [this]
    · cases hc : callF T (exN T j) f os with
      | stuck => rw [hc] at q; exact q.elim
      | err c =>
        rw [hc] at q
        intro F' H' e1 e2 fr dm
        exact hE _ _ _ (q F' H' e1 e2 (fun a o e n => fr a o e fun z => n (afc_own z)) dm)
      | ok z =>
        rw [hc] at q
        intro v F' H' Ac C sc t rv ndC un
        obtain ⟨g1, g2, g3⟩ := s.exit r nd sc t
        exact q v F' H' _ C g1 g2 rv ndC fun x hx => ⟨(un x hx).1, g3 x hx (un x hx).2⟩
  · exfalso
    unfold callF at q
    rw [hf] at q
    simp only [hn, if_false] at q
    exact q.elim
theorem e_call {j f : Nat} {x : Str} {es : List E} {b : Expr} {as : List Expr} {p0 pos : Pos} (hX : At nm T cA fA (j + 1) W X) (hx : isGl nm.fn X.env.scope f x = true) (ha : PA X (b :: as) (TAs X cA W (evArgs (evN T j) es))) (hs : (b :: as).all noStar = true) :
    PE X (.Call (.Name x p0) (b :: as) [] pos) (TO X cA W (stepE T (evN T j) (exN T j) (.call f es))) := by
  obtain ⟨h1, h2, h3⟩ := isGl_spec hx
  obtain ⟨fd, ps, m1, m2, m3, m4⟩ := hX.fns j (Nat.lt_succ_self j) f x h1
  rw [List.all_cons, Bool.and_eq_true] at hs
  refine (pe_callS m4 (hX.room.mono (Nat.le_refl _)) h2 m1 m2 m3 (fun σ => L2N.passAt hX.tk σ) ha h3 (star1 hs.1 _ _) (nostars hs.2)).mono fun σ H Q h => ?_
  refine TG.bind (rep := rAs X.K σ) (r := evArgs (evN T j) es) (k := fun as env => callA T (exN T j) f as env) h fun d env1 v F1 H1 Af1 C s1 r1 nd un q => ?_
  exact call_sp s1 r1.2 q fun _ _ _ h => h
theorem e_call0 {j f : Nat} {x : Str} {p0 pos : Pos} (hX : At nm T cA fA (j + 1) W X) (hx : isGl nm.fn X.env.scope f x = true) :
    PE X (.Call (.Name x p0) [] [] pos) (TO X cA W (stepE T (evN T j) (exN T j) (.call f []))) := by
  obtain ⟨h1, h2, h3⟩ := isGl_spec hx
  obtain ⟨fd, ps, m1, m2, m3, m4⟩ := hX.fns j (Nat.lt_succ_self j) f x h1
  refine (pe_call0 (E := fun c d H => W c d [] H) m4 (hX.room.mono (Nat.le_refl _)) h2 m1 m2 m3 .nil (fun pins σ H s e s' I c => hX.tk e s' (L2N.XE.of_call I (fun _ _ _ h => hX.wσ _ _ _ _ _ h) c)) h3).mono fun σ H Q ⟨F, Af, env, s, p⟩ => ?_
  exact call_sp (vs := []) s .nil p fun _ _ _ h => hX.wσ _ _ _ _ _ h
/-- in a comprehension's block -/
theorem At.blk (hX : At nm T cA fA n W X) (s : Shared) (H : Hp) (scope : Scope) (cenv : PySem.Env) (fp : List Addr) : At nm T cA fA n WF (X.blk s H scope cenv fp) :=
  ⟨hX.nd, hX.calm, hX.room, fun u s' ⟨a, B, sI, pins, σ, H, cls, d, e, I, nb, up, sky, na, os, ag, w⟩ => w, hX.blt, hX.cst, hX.fns, fun _ _ _ _ _ h => h, hX.exn, hX.exm, hX.flg, hX.gd⟩
/-! a def out of a list of defs -/
theorem a_fs {j : Nat} (hX : At nm T cA fA (j + 1) W X) : ∀ {fs : List Nat} {els : List Expr}, chkFs nm.fn X.env.scope fs els = true → PA X els (fun _ H Q => Q (fs.map fun f => V.ref (fA f)) H)
  | [], [], _ => pa_nil
  | [], _ :: _, h => by cases h
  | f :: fs, els, h => by
    cases els with
    | nil => cases h
    | cons a els =>
      cases a with
      | Name x p =>
        have h : (isGl nm.fn X.env.scope f x && chkFs nm.fn X.env.scope fs els) = true := h
        rw [Bool.and_eq_true] at h
        obtain ⟨h1, h2, h3⟩ := isGl_spec h.1
        obtain ⟨fd, ps, m1, m2, m3, m4⟩ := hX.fns j (Nat.lt_succ_self j) f x h1
        exact (pa_cons (pe_glob (v := .ref (fA f)) h2 m1 rfl h3) (a_fs hX h.2) rfl).mono fun σ H Q q => q
      | _ => cases h
theorem fs_at : ∀ {fs : List Nat} {els : List Expr} {sc : Scope} {fn : List Str}, chkFs fn sc fs els = true → ∀ {i f : Nat}, fs[i]? = some f → ∃ x, fn[f]? = some x
  | [], _, _, _, _, i, f, h => by simp at h
  | g :: fs, els, sc, fn, hc, i, f, h => by
    cases els with
    | nil => cases hc
    | cons a els =>
      cases a with
      | Name x p =>
        have hc : (isGl fn sc g x && chkFs fn sc fs els) = true := hc
        rw [Bool.and_eq_true] at hc
        cases i with
        | zero =>
          cases h
          have q := hc.1
          unfold isGl at q
          simp only [Bool.and_eq_true, decide_eq_true_eq] at q
          exact ⟨x, q.2.2⟩
        | succ i => exact fs_at hc.2 (by simpa using h)
      | _ => cases hc
theorem e_sel {j : Nat} {fs : List Nat} {ix : E} {es : List E} {els : List Expr} {c b : Expr} {as : List Expr} {p1 p2 pos : Pos} (hX : At nm T cA fA (j + 1) W X) (hf : chkFs nm.fn X.env.scope fs els = true) (hcs : (match c with | .Slice _ _ _ _ => false | _ => true) = true)
    (hz : fs.length ≤ 1000) (hi : PE X c (TO X cA W (evN T j ix))) (ha : PA X (b :: as) (TAs X cA W (evArgs (evN T j) es))) (hs : (b :: as).all noStar = true) :
    PE X (.Call (.Subscript (.List els p1) c p2) (b :: as) [] pos) (TO X cA W (stepE T (evN T j) (exN T j) (.sel fs ix es))) := by
  refine ⟨fun pins s σ H Q I h => ?_⟩
  have hfun := pe_ix (pos := p2) (ix_list (X := X)) (pe_lst (pos := p1) (a_fs hX hf)) hi.toD (by cases c <;> first | (intro _ _; rfl) | cases hcs)
  rw [List.all_cons, Bool.and_eq_true] at hs
  have key : tOp (rIxL X.K) (tLst (fun _ H Q => Q (fs.map fun f => V.ref (fA f)) H)) (TD X cA W (evD (evN T j) ix)) σ H (fun v H1 => ∃ (f : Nat) (x : Str), v = .ref (fA f) ∧ nm.fn[f]? = some x ∧ TAs X cA W (evArgs (evN T j) es) σ H1 fun vs H2 => spF X.K cA T j f vs H2 Q (WE W σ)) := by
    obtain ⟨F, Af, env, sr, p⟩ := h
    refine ⟨?_, fun a hp => ?_⟩
    · rw [List.length_map]
      have : (1000 : Nat) ≤ sizeLine := by decide
      omega
    · have p : PG X.K cA W (rO X.K) σ F H Af ((evD (evN T j) ix env).bind fun p => match p.1 with
        | .int i => if 0 ≤ i then match fs[i.toNat]? with
            | some f => (evArgs (evN T j) es p.2).bind fun q => callA T (exN T j) f q.1 q.2
            | none => .stuck
          else .stuck
        | _ => .stuck) Q := p
      have s1 := sr.newO (o := .lst (fs.map fun f => V.ref (fA f))) hp
      have t1 := (Stp.newO (F := F) (H := H) (Af := Af) (o := .lst (fs.map fun f => V.ref (fA f))) hp).drop
      refine PG.tg s1 (PG.bind (rep := rD X.K) (k := fun d env => match d with
        | .int i => if 0 ≤ i then match fs[i.toNat]? with
            | some f => (evArgs (evN T j) es env).bind fun q => callA T (exN T j) f q.1 q.2
            | none => .stuck
          else .stuck
        | _ => .stuck) (PG.step t1 p) fun d env1 w F1 H1 Af1 C1 _ s2 t2 r2 nd2 un2 q2 => ?_)
      cases d with
      | int i =>
        have q2 : PG X.K cA W (rO X.K) σ F1 H1 Af1 (if 0 ≤ i then match fs[i.toNat]? with
            | some f => (evArgs (evN T j) es env1).bind fun q => callA T (exN T j) f q.1 q.2
            | none => .stuck
          else .stuck) Q := q2
        split at q2
        · rename_i h0
          cases hfi : fs[i.toNat]? with
          | none => rw [hfi] at q2; exact q2.elim
          | some f =>
            rw [hfi] at q2
            obtain ⟨x, hx⟩ := fs_at hf hfi
            cases r2.2.int_inv
            have hown : ¬ Own Af a := fun z => (sr.own_th z).1 hp
            have hl := t2.frame a _ (upd_same (H := H) (a := a)) hown
            refine ⟨a, _, i, V.ref (fA f), rfl, rfl, SqL.of hl, ?_, f, x, rfl, hx, PG.tg s2 (PG.bind (rep := rAs X.K σ) (k := fun as env => callA T (exN T j) f as env) q2 fun as env3 vs F3 H3 Af3 C3 _ s3 t3 r3 nd3 un3 q3 => ?_)⟩
            · have e : (fs.map fun f => V.ref (fA f))[i.toNat]? = some (V.ref (fA f)) := by rw [List.getElem?_map, hfi]; rfl
              have := L2.atI_nat e
              rwa [show ((i.toNat : Nat) : Int) = i from Int.toNat_of_nonneg h0] at this
            · exact call_sp s3 r3.2 q3 fun _ _ _ h => h
        · exact q2.elim
      | _ => exact q2.elim
  refine Call_ (thn (hfun.run pins s σ H _ I key) fun v s1 ⟨x, H1, I1, r1, q1⟩ => ?_)
  obtain ⟨f, nme, rfl, hfn, q1⟩ := q1
  obtain ⟨fd, ps, m1, m2, m3, m4⟩ := hX.fns j (Nat.lt_succ_self j) f nme hfn
  have r1 : v = .ref (fA f) := r1
  subst r1
  refine PySem.W.callWith_K (h₀ := X.base) I1.ok.mod.kin m2 (thn (ha.run pos pins s1 σ H1 _ I1 q1) fun us s2 ⟨vs, H2, I2, r, q⟩ => ⟨I2.kIn, ?_⟩) (star1 hs.1 _ _) (nostars hs.2)
  exact run_fnS m4 (hX.room.mono (Nat.le_refl _)) m3 (L2N.passAt hX.tk σ) I2 r q
theorem RAs.vals {σ : L2.St} {F : Hp} : ∀ {vs : List V} {ds : List D}, RepAll X.K F vs ds → RAs X.K σ F vs (ds.map fun d => ((none : Option Nat), d))
  | _, _, .nil => .nil
  | _, _, .cons h r => .val h (RAs.vals r)
/-- a call whose arguments are a list's or a tuple's items -/
theorem e_callS {j f : Nat} {x : Str} {e : E} {b : Expr} {p0 p1 pos : Pos} (hX : At nm T cA fA (j + 1) W X) (hx : isGl nm.fn X.env.scope f x = true) (hb : PE X b (TO X cA W (evN T j e))) :
    PE X (.Call (.Name x p0) [.Starred b p1] [] pos) (TO X cA W (stepE T (evN T j) (exN T j) (.callS f e))) := by
  obtain ⟨h1, h2, h3⟩ := isGl_spec hx
  obtain ⟨fd, ps, m1, m2, m3, m4⟩ := hX.fns j (Nat.lt_succ_self j) f x h1
  refine ⟨fun pins s σ H Q I h => ?_⟩
  have key : TD X cA W (evD (evN T j) e) σ H (fun y H1 => ∃ a xs, y = V.ref a ∧ (SqT X.K H1 a xs ∨ SqL X.K H1 a xs) ∧ spF X.K cA T j f xs H1 Q (WE W σ)) := by
    refine TG.bind (rep := rD X.K) (r := evD (evN T j) e) (k := fun d env => match seq? d with
      | some ds => callA T (exN T j) f (ds.map fun d => (none, d)) env
      | none => .stuck) h fun d env1 v F1 H1 Af1 C s1 r1 nd un q => ?_
    cases d with
    | list ds =>
      obtain ⟨a, xs, rfl, e2, e3⟩ := r1.2.lst_inv
      exact ⟨a, xs, rfl, .inr (SqL.of (s1.ex _ _ e2)), call_sp s1 (RAs.vals e3) q fun _ _ _ h => h⟩
    | tuple ds =>
      obtain ⟨a, xs, rfl, e2, e3⟩ := r1.2.tup_inv
      exact ⟨a, xs, rfl, .inl (ex_t s1.ex e2), call_sp s1 (RAs.vals e3) q fun _ _ _ h => h⟩
    | _ => exact q.elim
  refine wpAny_Call_Name_kw (ld_glob I h2 m1 ?_ h3)
  refine PySem.W.callWith_S (h₀ := X.base) I.ok.mod.kin m2 (thn (hb.toD.run pins s σ H _ I key) fun v s1 ⟨y, H1, I1, ry, a, xs, ey, hxs, q⟩ => ?_) rfl
  subst ey
  obtain rfl : v = Value.ref a := ry
  exact StX.star_any I1 hxs fun us s2 I2 rv => ⟨I2.kIn, run_fnS m4 (hX.room.mono (Nat.le_refl _)) m3 (L2N.passAt hX.tk σ) I2 rv q⟩
end
end Ev

end
section
set_option autoImplicit false
set_option linter.all false
set_option maxRecDepth 100000
/-! Statements. -/
namespace Ev
open PySem L2 PyProof.Rows RZ

section
variable (K : PySem.W.Frag) (cA : Nat → Addr) (W : WX)
def PF (is : List Nat) (σ : L2.St) (F H : Hp) (Af : Nat → List Addr) (R : Res (Fl × Env)) (D : Ends) : Prop :=
  match R with
  | .ok (.next, env') => ∀ (σ' : L2.St) (F' H' : Hp) (Af' : Nat → List Addr), Same is σ σ' → SR K F' H' σ' env' Af' → Stp F H Af F' H' Af' [] → D.nx σ' H'
  | .ok (.brk, env') => ∀ (σ' : L2.St) (F' H' : Hp) (Af' : Nat → List Addr), Same is σ σ' → SR K F' H' σ' env' Af' → Stp F H Af F' H' Af' [] → D.bk σ' H'
  | .ok (.cont, env') => ∀ (σ' : L2.St) (F' H' : Hp) (Af' : Nat → List Addr), Same is σ σ' → SR K F' H' σ' env' Af' → Stp F H Af F' H' Af' [] → D.ct σ' H'
  | .ok (.ret o, env') => ∀ (v : V) (σ' : L2.St) (F' H' : Hp) (Af' : Nat → List Addr) (C : List Addr), Same is σ σ' → SR K F' H' σ' env' Af' → Stp F H Af F' H' Af' C → RO K F' H' v o C → C.Nodup → (∀ x ∈ C, F' x = none ∧ ¬ Own Af' x) → D.rt v H'
  | .err c => ∀ σ' : L2.St, ErrW cA W σ' F H Af c
  | .stuck => False
def TF (is : List Nat) (r : Env → Res (Fl × Env)) : TS := fun D σ H => ∃ F Af env, SR K F H σ env Af ∧ PF K cA W is σ F H Af (r env) D
end
section
variable {K : PySem.W.Frag} {cA : Nat → Addr} {W : WX} {F F' H H' : Hp} {σ σ' : L2.St} {env env' : Env} {Af Af' : Nat → List Addr} {is js : List Nat} {D : Ends}
theorem Same.then {is js : List Nat} {σ1 σ2 σ3 : L2.St} (a : Same is σ1 σ2) (b : Same js σ2 σ3) (h : ∀ i ∈ is, i ∈ js) : Same js σ1 σ3 := (a.trans b).mono fun i hi => (List.mem_append.mp hi).elim (h i) id
theorem PF.step {R : Res (Fl × Env)} {σ1 : L2.St} {F1 H1 : Hp} {Af1 : Nat → List Addr} (hj : ∀ i ∈ js, i ∈ is) (m : Same js σ σ1) (t : Stp F H Af F1 H1 Af1 []) (h : PF K cA W is σ F H Af R D) : PF K cA W is σ1 F1 H1 Af1 R D := by
  cases R with
  | stuck => exact h
  | err c => exact fun σ' => ErrW.step t (h σ')
  | ok p =>
    obtain ⟨fl, env'⟩ := p
    cases fl with
    | next => exact fun σ' F' H' Af' m2 s t2 => h σ' F' H' Af' (m.then m2 hj) s (t.trans t2)
    | brk => exact fun σ' F' H' Af' m2 s t2 => h σ' F' H' Af' (m.then m2 hj) s (t.trans t2)
    | cont => exact fun σ' F' H' Af' m2 s t2 => h σ' F' H' Af' (m.then m2 hj) s (t.trans t2)
    | ret o => exact fun v σ' F' H' Af' C m2 s t2 r nd un => h v σ' F' H' Af' C (m.then m2 hj) s (t.trans t2) r nd un
theorem PF.mono {R : Res (Fl × Env)} (hj : ∀ i ∈ js, i ∈ is) (h : PF K cA W is σ F H Af R D) : PF K cA W js σ F H Af R D := by
  cases R with
  | stuck => exact h
  | err c => exact h
  | ok p =>
    obtain ⟨fl, env'⟩ := p
    cases fl with
    | next => exact fun σ' F' H' Af' m2 s t2 => h σ' F' H' Af' (m2.mono hj) s t2
    | brk => exact fun σ' F' H' Af' m2 s t2 => h σ' F' H' Af' (m2.mono hj) s t2
    | cont => exact fun σ' F' H' Af' m2 s t2 => h σ' F' H' Af' (m2.mono hj) s t2
    | ret o => exact fun v σ' F' H' Af' C m2 s t2 r nd un => h v σ' F' H' Af' C (m2.mono hj) s t2 r nd un
/-- an expression, then the rest -/
theorem PF.bind {α β : Type} {rep : Rp α β} {R : Res (α × Env)} {k : α → Env → Res (Fl × Env)} {Q1 : β → Hp → Prop} (h : PF K cA W is σ F H Af (R.bind fun p => k p.1 p.2) D)
    (hQ : ∀ (a : α) (env1 : Env) (b : β) (F1 H1 : Hp) (Af1 : Nat → List Addr) (C : List Addr), SR K F1 H1 σ env1 Af1 → Stp F H Af F1 H1 Af1 C → rep F1 H1 b a C → C.Nodup → (∀ x ∈ C, F1 x = none ∧ ¬ Own Af1 x) →
      PF K cA W is σ F1 H1 Af1 (k a env1) D → Q1 b H1) : PG K cA W rep σ F H Af R Q1 := by
  cases R with
  | stuck => exact h
  | err c => exact h σ
  | ok p => exact fun b F1 H1 Af1 C s t r nd un => hQ p.1 p.2 b F1 H1 Af1 C s t r nd un (PF.step (js := []) (fun _ z => nomatch z) (Same.refl _ _) t.drop h)
theorem TF.bind {α β : Type} {rep : Rp α β} {r : Env → Res (α × Env)} {k : α → Env → Res (Fl × Env)} {Q1 : β → Hp → Prop} (h : TF K cA W is (fun env => (r env).bind fun p => k p.1 p.2) D σ H)
    (hQ : ∀ (a : α) (env1 : Env) (b : β) (F1 H1 : Hp) (Af1 : Nat → List Addr) (C : List Addr), SR K F1 H1 σ env1 Af1 → rep F1 H1 b a C → C.Nodup → (∀ x ∈ C, F1 x = none ∧ ¬ Own Af1 x) →
      PF K cA W is σ F1 H1 Af1 (k a env1) D → Q1 b H1) : TG K cA W rep r σ H Q1 := by
  obtain ⟨F, Af, env, s, p⟩ := h
  exact ⟨F, Af, env, s, p.bind fun a env1 b F1 H1 Af1 C s1 t1 r1 nd un q => hQ a env1 b F1 H1 Af1 C s1 r1 nd un q⟩
theorem PF.tf {r : Env → Res (Fl × Env)} (s : SR K F H σ env Af) (h : PF K cA W is σ F H Af (r env) D) : TF K cA W is r D σ H := ⟨F, Af, env, s, h⟩

/-! freezing slots -/
theorem SR.freeze1 (s : SR K F H σ env Af) {i : Nat} {o : O} (e : (env[i]?).join = some o) (ht : o.tree = true) : ∃ F', SR K F' H σ (setO env i (.val o.toD)) (fun j => if j = i then [] else Af j) ∧ Stp F H Af F' H (fun j => if j = i then [] else Af j) [] := by
  obtain ⟨v, h1, h2⟩ := s.at_ i o (join_some e)
  have un : ∀ x ∈ Af i, F x = none := fun x h => s.un i x h
  have hex : Ex F (Ev.fz F H (Af i)) := fz_ex un
  have hle : Ex (Ev.fz F H (Af i)) H := fz_le s.ex
  refine ⟨Ev.fz F H (Af i), ⟨hle, by unfold setO; rw [List.length_set]; exact s.len, fun j u q => ?_, fun j => ?_, fun j k a h1 h2 => ?_, fun j a h => ?_, fun j a h => ?_⟩, ⟨hex, fun _ _ h _ => h, fun _ h => h, fun a h => ?_, fun a h => .inl ((Less.set i).own h), fun _ h => (nomatch h)⟩⟩
  · rcases getElem_set q with ⟨rfl, _, q⟩ | ⟨hj, q⟩
    · cases q
      refine ⟨v, h1, ?_⟩
      rw [if_pos rfl]
      exact .val (h2.freeze hex (fun a ha => fz_at ha) ht)
    · obtain ⟨w, w1, w2⟩ := s.at_ j u q
      refine ⟨w, w1, ?_⟩
      rw [if_neg hj]
      exact w2.mono hex fun _ _ => rfl
  · show (if j = i then [] else Af j).Nodup
    split
    · exact .nil
    · exact s.nd j
  · have h1 : a ∈ (if j = i then [] else Af j) := h1
    have h2 : a ∈ (if k = i then [] else Af k) := h2
    split at h1 <;> split at h2
    · cases h1
    · cases h1
    · cases h2
    · exact s.dj _ _ a h1 h2
  · have h : a ∈ (if j = i then [] else Af j) := h
    split at h
    · cases h
    · rename_i hj
      unfold Ev.fz
      rw [if_neg fun z => hj (s.dj j i a h z)]
      exact s.un j a h
  · have h : a ∈ (if j = i then [] else Af j) := h
    split at h
    · cases h
    · exact s.th j a h
  · unfold Ev.fz at h
    split at h
    · rename_i ha; exact .inr (.inr ⟨i, ha⟩)
    · exact .inl h
theorem SR.freezeAt (s : SR K F H σ env Af) : ∀ is : List Nat, ∃ F' Af', SR K F' H σ (freezeAt env is) Af' ∧ Stp F H Af F' H Af' []
  | [] => ⟨F, Af, s, Stp.refl⟩
  | i :: is => by
    obtain ⟨F1, Af1, s1, t1⟩ := s.freezeAt is
    unfold Ev.freezeAt
    split
    · rename_i o e
      split
      · rename_i ht
        obtain ⟨F2, s2, t2⟩ := s1.freeze1 e ht
        exact ⟨F2, _, s2, t1.trans t2⟩
      · exact ⟨F1, Af1, s1, t1⟩
    · exact ⟨F1, Af1, s1, t1⟩
end
section
variable {nm : Names} {T : Tab} {cA fA : Nat → Addr} {n : Nat} {W : WX} {X : Cx} {ev : E → Env → Res (O × Env)} {exs : List S → Env → Res (Fl × Env)}
/-- what stands where statements stand -/
structure AtF (nm : Names) (T : Tab) (cA fA : Nat → Addr) (n : Nat) (W : WX) (X : Cx) : Prop extends At nm T cA fA n W X where
  kind : X.env.scope.kind = .function
  cel : ∀ x, locB X.env.scope x = true → Loc X.env.scope x ∧ (X.fn x = true ∨ X.env.scope.names.lookup x = some .local)
  po : PassesOwn (model X.prog X.w) X.A X.env X.xe
  stk : X.stack = X.env :: X.outer
  frm : X.env.frame = some X.env.locals
abbrev TS' (X : Cx) (cA : Nat → Addr) (W : WX) (is : List Nat) (r : Env → Res (Fl × Env)) : TS := TF X.K cA W is r
theorem s_asg {t : Tgt} {e : E} {te : TE} {σ : L2.St} {H : Hp} {D : Ends} (he : ∀ σ H Q, TD X cA W (evD ev e) σ H Q → te σ H Q) (h : TS' X cA W (tslots t) (one T ev exs (.asg t e)) D σ H) : tAsg te (gT X.K t) D σ H := by
  refine he _ _ _ (TF.bind (rep := rD X.K) (r := evD ev e) (k := fun d env => match assignT t d env with | some env' => .ok (.next, env') | none => .stuck) h fun d env1 v F1 H1 Af1 C s1 r1 nd un q => ?_)
  cases ha : assignT t d env1 with
  | none => rw [ha] at q; exact q.elim
  | some env2 =>
    rw [ha] at q
    exact gT_ok t ha s1 r1.2 fun σ' Af' s2 l m => q σ' F1 H1 Af' m s2 (Stp.less l)
theorem Stp.own {F H F' H' : Hp} {Af Af' : Nat → List Addr} {C : List Addr} (t : Stp F H Af F' H' Af' C) (i : Nat) : Stp F H Af F' H' (fun j => if j = i then C else Af' j) [] :=
  ⟨t.ex, t.frame, t.dom, t.prF, fun a ⟨j, h⟩ => by
    have h : a ∈ (if j = i then C else Af' j) := h
    split at h
    · exact t.prC a h
    · exact t.prA a ⟨j, h⟩, fun _ h => (nomatch h)⟩
theorem s_asgO {i : Nat} {e : E} {te : TE} {σ : L2.St} {H : Hp} {D : Ends} (he : ∀ σ H Q, TO X cA W (ev e) σ H Q → te σ H Q) (h : TS' X cA W [i] (one T ev exs (.asgO i e)) D σ H) : tAsg te (gName i) D σ H := by
  obtain ⟨F, Af, env, s, p⟩ := h
  have p : PF X.K cA W [i] σ F H Af ((ev e env).bind fun p => if i < p.2.length then .ok (.next, setO p.2 i p.1) else .stuck) D := p
  refine he _ _ _ ⟨F, Af, env, s, ?_⟩
  cases hz : ev e env with
  | stuck => rw [hz] at p; exact p
  | err c => rw [hz] at p; exact p σ
  | ok z =>
    obtain ⟨o, env1⟩ := z
    rw [hz] at p
    simp only [Res.bind] at p
    split at p
    · rename_i hi
      exact fun v F1 H1 Af1 C s1 t1 r1 nd un => p _ F1 H1 _ (Same.set i _ σ) (s1.set hi r1 nd un) (t1.own i)
    · exact p.elim
end
end Ev

end
section
set_option autoImplicit false
set_option linter.all false
set_option maxRecDepth 100000
/-! Statements: the rules. -/
namespace Ev
open PySem L2 PyProof.Rows RZ

def rOs (K : PySem.W.Frag) : Rp (List O) (List V) := fun F H vs os C => ROs K F H vs os C
section
variable {K : PySem.W.Frag} {cA : Nat → Addr} {W : WX} {F F' H H' : Hp} {σ σ' : L2.St} {env env' : Env} {Af Af' : Nat → List Addr} {is js : List Nat} {D : Ends}
theorem Stp.both {F1 H1 F2 H2 : Hp} {Af1 Af2 : Nat → List Addr} {C1 C2 : List Addr} (s : Stp F H Af F1 H1 Af1 C1) (t : Stp F1 H1 Af1 F2 H2 Af2 C2) : Stp F H Af F2 H2 Af2 (C1 ++ C2) := by
  have q := s.trans t
  exact ⟨q.ex, q.frame, q.dom, q.prF, q.prA, fun a h => (List.mem_append.mp h).elim (s.prC a) (q.prC a)⟩
def setAll : L2.St → List Nat → List V → L2.St
  | σ, i :: is, v :: vs => setAll (σ.set i (some v)) is vs
  | σ, _, _ => σ
theorem SR.par : ∀ {is : List Nat} {os : List O} {vs : List V} {C : List Addr} {σ : L2.St} {env env' : Env} {Af : Nat → List Addr}, SR K F H σ env Af → ROs K F H vs os C → parAsg is os env = some env' → C.Nodup → (∀ x ∈ C, F x = none ∧ ¬ Own Af x) →
    ∃ Af', SR K F H (setAll σ is vs) env' Af' ∧ (∀ a, Own Af' a → Own Af a ∨ a ∈ C) ∧ Same is σ (setAll σ is vs)
  | [], [], _, _, σ, env, env', Af, s, .nil, e, nd, un => by
    cases e
    exact ⟨Af, s, fun a h => .inl h, Same.refl _ _⟩
  | [], _ :: _, _, _, _, _, _, _, _, _, e, _, _ => by cases e
  | _ :: _, [], _, _, _, _, _, _, _, _, e, _, _ => by cases e
  | i :: is, o :: os, _, _, σ, env, env', Af, s, .cons (v := v) (vs := vs) (C := C1) (C' := C2) h r, e, nd, un => by
    have e : (if i < env.length then parAsg is os (setO env i o) else none) = some env' := e
    split at e
    · rename_i hi
      obtain ⟨n1, n2, n3⟩ := List.nodup_append.mp nd
      have s1 := s.set hi h n1 fun x hx => un x (List.mem_append_left _ hx)
      obtain ⟨Af', s', o', m'⟩ := SR.par s1 r e n2 fun x hx => ⟨(un x (List.mem_append_right _ hx)).1, fun ⟨j, hj⟩ => by
        have hj : x ∈ (if j = i then C1 else Af j) := hj
        split at hj
        · exact n3 x hj x hx rfl
        · exact (un x (List.mem_append_right _ hx)).2 ⟨j, hj⟩⟩
      refine ⟨Af', s', fun a ha => ?_, (Same.set i _ σ).trans m'⟩
      rcases o' a ha with ⟨j, hj⟩ | hj
      · have hj : a ∈ (if j = i then C1 else Af j) := hj
        split at hj
        · exact .inr (List.mem_append_left _ hj)
        · exact .inl ⟨j, hj⟩
      · exact .inr (List.mem_append_right _ hj)
    · cases e
end
section
variable {nm : Names} {T : Tab} {cA fA : Nat → Addr} {n : Nat} {W : WX} {X : Cx} {ev : E → Env → Res (O × Env)} {exs : List S → Env → Res (Fl × Env)}
theorem e_ow {e : E} {a : Expr} (b : Bool) (h : PE X a (TO X cA W (ev e))) : PE X a (TO X cA W (fun env => if b then ev e env else (evD ev e env).bind fun p => .ok (.val p.1, p.2))) := by
  cases b with
  | true => exact h
  | false => exact h.toD.mono fun σ H Q ⟨F, Af, env, s, p⟩ => ⟨F, Af, env, s, PG.ofD p⟩
abbrev TOs (X : Cx) (cA : Nat → Addr) (W : WX) (r : Env → Res (List O × Env)) : TA := TG X.K cA W (rOs X.K) r
theorem a_os (hX : At nm T cA fA n W X) {chk : Scope → E → Expr → Bool} (HE : ∀ e a, chk X.env.scope e a = true → PE X a (TO X cA W (ev e))) : ∀ (bs : List Bool) (es : List E) (as : List Expr), chkPP chk X.env.scope es as = true → PA X as (TOs X cA W (evOs ev bs es)) ∧ as.all noStar = true
  | bs, [], [], _ => ⟨pa_nil.mono fun σ H Q ⟨F, Af, env, s, p⟩ => by
    have p : PG X.K cA W (rOs X.K) σ F H Af (.ok ([], env)) Q := by cases bs <;> exact p
    exact PG.now (rep := rOs X.K) p s .nil, rfl⟩
  | _, [], _ :: _, h => by cases h
  | _, _ :: _, [], h => by cases h
  | [], e :: es, a :: as, h => by
    have h : (noStar a && (chk X.env.scope e a && chkPP chk X.env.scope es as)) = true := h
    simp only [Bool.and_eq_true] at h
    obtain ⟨k1, k2⟩ := a_os hX HE [] es as h.2.2
    exact ⟨(pa_cons (HE e a h.2.1) k1 (star1 h.1 _ _)).mono fun σ H Q ⟨F, Af, env, s, p⟩ => p.elim, by rw [List.all_cons, k2, h.1]; rfl⟩
  | b :: bs, e :: es, a :: as, h => by
    have h : (noStar a && (chk X.env.scope e a && chkPP chk X.env.scope es as)) = true := h
    simp only [Bool.and_eq_true] at h
    obtain ⟨k1, k2⟩ := a_os hX HE bs es as h.2.2
    refine ⟨(pa_cons (e_ow b (HE e a h.2.1)) k1 (star1 h.1 _ _)).mono fun σ H Q ⟨F, Af, env, s, p⟩ => ⟨F, Af, env, s, ?_⟩, by rw [List.all_cons, k2, h.1]; rfl⟩
    have p : PG X.K cA W (rOs X.K) σ F H Af (((if b then ev e env else (evD ev e env).bind fun p => .ok (O.val p.1, p.2))).bind fun p => (evOs ev bs es p.2).bind fun q => .ok (p.1 :: q.1, q.2)) Q := p
    show PG X.K cA W (rO X.K) σ F H Af (if b then ev e env else (evD ev e env).bind fun p => .ok (O.val p.1, p.2)) _
    generalize hz : (if b then ev e env else (evD ev e env).bind fun p => .ok (O.val p.1, p.2)) = z at p ⊢
    cases z with
    | stuck => exact p
    | err c => exact p
    | ok z =>
      obtain ⟨o, env1⟩ := z
      intro v F1 H1 Af1 C1 s1 t1 r1 nd1 un1
      refine ⟨F1, Af1, env1, s1, ?_⟩
      have p : PG X.K cA W (rOs X.K) σ F H Af ((evOs ev bs es env1).bind fun q => .ok (o :: q.1, q.2)) Q := p
      cases hz2 : evOs ev bs es env1 with
      | stuck => rw [hz2] at p; exact p
      | err c => rw [hz2] at p; exact ErrW.step t1 p
      | ok z2 =>
        obtain ⟨os, env2⟩ := z2
        rw [hz2] at p
        intro vs F2 H2 Af2 C2 s2 t2 r2 nd2 un2
        have r1 : RO X.K F1 H1 v o C1 := r1
        have hne : ∀ x ∈ C1, H1 x ≠ none := fun x hx => by
          rcases r1.there x hx with ⟨xs, q⟩ | ⟨xs, q⟩ <;> rw [q] <;> exact fun z => nomatch z
        have kp : ∀ x ∈ C1, H2 x = H1 x := fun x hx => by
          cases q : H1 x with
          | none => exact absurd q (hne x hx)
          | some u => exact t2.frame x u q (un1 x hx).2
        have dj : ∀ x ∈ C1, x ∉ C2 := fun x hx hy => by
          rcases t2.prC x hy with q | q
          · exact (un1 x hx).2 q
          · exact hne x hx q
        refine p (v :: vs) F2 H2 Af2 (C1 ++ C2) s2 (t1.both t2) (.cons (r1.mono t2.ex kp) r2) (List.nodup_append.mpr ⟨nd1, nd2, fun a ha b hb hab => dj a ha (hab ▸ hb)⟩) fun x hx => ?_
        rcases List.mem_append.mp hx with hx | hx
        · refine ⟨Classical.byContradiction fun q => ?_, fun q => ?_⟩
          · rcases t2.prF x q with q | q | q
            · exact q (un1 x hx).1
            · exact hne x hx q
            · exact (un1 x hx).2 q
          · rcases t2.prA x q with q | q
            · exact (un1 x hx).2 q
            · exact hne x hx q
        · exact un2 x hx
theorem s_par {is : List Nat} {own : List Bool} {es : List E} {σ : L2.St} {H : Hp} {D : Ends} (h : TS' X cA W is (one T ev exs (.par is own es)) D σ H) : TOs X cA W (evOs ev own es) σ H (fun vs H1 => vs.length = is.length ∧ D.nx (setAll σ is vs) H1) := by
  obtain ⟨F, Af, env, s, p⟩ := h
  have p : PF X.K cA W is σ F H Af ((evOs ev own es env).bind fun p => match parAsg is p.1 p.2 with
    | some env' => .ok (.next, env')
    | none => .stuck) D := p
  refine ⟨F, Af, env, s, ?_⟩
  cases hz : evOs ev own es env with
  | stuck => rw [hz] at p; exact p
  | err c => rw [hz] at p; exact p σ
  | ok z =>
    obtain ⟨os, env1⟩ := z
    rw [hz] at p
    intro vs F1 H1 Af1 C s1 t1 r1 nd un
    have r1 : ROs X.K F1 H1 vs os C := r1
    have p : PF X.K cA W is σ F H Af (match parAsg is os env1 with
      | some env' => .ok (.next, env')
      | none => .stuck) D := p
    cases ha : parAsg is os env1 with
    | none => rw [ha] at p; exact p.elim
    | some env2 =>
      rw [ha] at p
      obtain ⟨Af', s', o', m'⟩ := SR.par s1 r1 ha nd un
      refine ⟨?_, p _ F1 H1 Af' m' s' ⟨t1.ex, t1.frame, t1.dom, t1.prF, fun a h => ?_, fun _ h => nomatch h⟩⟩
      · have : ∀ {is : List Nat} {os : List O} {env env' : Env}, parAsg is os env = some env' → os.length = is.length := by
          intro is
          induction is with
          | nil => intro os env env' h; cases os with
            | nil => rfl
            | cons => cases h
          | cons i is ih => intro os env env' h; cases os with
            | nil => cases h
            | cons o os =>
              have h : (if i < env.length then parAsg is os (setO env i o) else none) = some env' := h
              split at h
              · rw [List.length_cons, List.length_cons, ih h]
              · cases h
        rw [r1.length, this ha]
      · rcases o' a h with q | q
        · exact t1.prA a q
        · exact t1.prC a q
theorem s_expr {e : E} {σ : L2.St} {H : Hp} {D : Ends} (h : TS' X cA W [] (one T ev exs (.expr e)) D σ H) : tDrop (TO X cA W (ev e)) D σ H := by
  refine TF.bind (rep := rO X.K) (r := ev e) (k := fun _ env => .ok (.next, env)) h fun o env1 v F1 H1 Af1 C s1 r1 nd un q => ?_
  exact q σ F1 H1 Af1 (Same.refl _ _) s1 Stp.refl
theorem s_ret {e : E} {σ : L2.St} {H : Hp} {D : Ends} (h : TS' X cA W [] (one T ev exs (.ret e)) D σ H) : tRet (TD X cA W (evD ev e)) D σ H := by
  refine TF.bind (rep := rD X.K) (r := evD ev e) (k := fun d env => .ok (.ret (.val d), env)) h fun d env1 v F1 H1 Af1 C s1 r1 nd un q => ?_
  exact q v σ F1 H1 Af1 [] (Same.refl _ _) s1 Stp.refl (.val r1.2) .nil fun _ z => nomatch z
theorem s_retO {e : E} {σ : L2.St} {H : Hp} {D : Ends} (h : TS' X cA W [] (one T ev exs (.retO e)) D σ H) : tRet (TO X cA W (ev e)) D σ H := by
  obtain ⟨F, Af, env, s, p⟩ := h
  have p : PF X.K cA W [] σ F H Af ((ev e env).bind fun p => .ok (.ret p.1, p.2)) D := p
  refine ⟨F, Af, env, s, ?_⟩
  cases hz : ev e env with
  | stuck => rw [hz] at p; exact p
  | err c => rw [hz] at p; exact p σ
  | ok z =>
    rw [hz] at p
    exact fun v F1 H1 Af1 C s1 t1 r1 nd un => p v σ F1 H1 Af1 C (Same.refl _ _) s1 t1 r1 nd un
theorem s_if {c : E} {a b : List S} {σ : L2.St} {H : Hp} {D : Ends} (h : TS' X cA W (asgds a ++ asgds b) (one T ev exs (.ifS c a b)) D σ H) : tIfS (TT' X cA W (truthE ev c)) (TS' X cA W (asgds a) (exs a)) (TS' X cA W (asgds b) (exs b)) D σ H := by
  refine TF.bind (rep := rB) (r := truthE ev c) (k := fun k env => if k then exs a env else exs b env) h fun k env1 k' F1 H1 Af1 C s1 r1 nd un q => ?_
  obtain rfl : k' = k := r1.2
  -- the slots that the other suite sets stay too
  have ms : ∀ (z : List Nat) (R : Res (Fl × Env)), (∀ i ∈ z, i ∈ asgds a ++ asgds b) → PF X.K cA W (asgds a ++ asgds b) σ F1 H1 Af1 R D → PF X.K cA W z σ F1 H1 Af1 R D := fun z R hz p => PF.mono hz p
  cases k' with
  | true => exact PF.tf s1 (ms _ _ (fun i hi => List.mem_append_left _ hi) q)
  | false => exact PF.tf s1 (ms _ _ (fun i hi => List.mem_append_right _ hi) q)
theorem s_for {t : Tgt} {it : I} {b : List S} {σ : L2.St} {H : Hp} {D : Ends} (h : TS' X cA W (tslots t ++ asgds b) (one T ev exs (.forS t it b)) D σ H) : tFor (TIt X cA W (items ev it)) (gT X.K t) (TS' X cA W (asgds b) (exs b)) D σ H := by
  refine TF.bind (rep := rIt X.K) (r := items ev it) (k := fun ds env => loopF (exs b) t ds env) h fun ds env1 J F1 H1 Af1 C s1 r1 nd un q => ?_
  refine ⟨fun i m σ' H' => m = ds.length - i ∧ i ≤ ds.length ∧ ∃ F' Af' env', SR X.K F' H' σ' env' Af' ∧ Ex F1 F' ∧ PF X.K cA W (tslots t ++ asgds b) σ' F' H' Af' (loopF (exs b) t (ds.drop i) env') D, ⟨ds.length, by simp, Nat.zero_le _, F1, Af1, env1, s1, Ex.refl _, q⟩, ?_⟩
  rintro i m σ2 H2 ⟨rfl, hi, F2, Af2, env2, s2, e2, q2⟩
  by_cases hlt : i < ds.length
  · refine .inr ⟨r1.2.go i F2 H2 e2 s2.ex hlt, fun σ' H' => i + 1 ≤ ds.length ∧ ∃ F' Af' env', SR X.K F' H' σ' env' Af' ∧ Ex F1 F' ∧ PF X.K cA W (tslots t ++ asgds b) σ' F' H' Af' (loopF (exs b) t (ds.drop (i + 1)) env') D,
      fun σ' H' w => ⟨ds.length - (i + 1), by omega, rfl, w⟩, fun x H3 y => ?_⟩
    have hdrop : ds.drop i = ds[i] :: ds.drop (i + 1) := List.drop_eq_getElem_cons hlt
    obtain ⟨F3, g, rx⟩ := r1.2.yld i F2 H2 x H3 ds[i] e2 s2.ex (List.getElem?_eq_getElem hlt) y
    rw [hdrop] at q2
    have q2 : PF X.K cA W (tslots t ++ asgds b) σ2 F2 H2 Af2 (match assignT t ds[i] env2 with
      | none => .stuck
      | some env1 => (exs b env1).bind fun p => match p.1 with
        | .next => loopF (exs b) t (ds.drop (i + 1)) p.2
        | .cont => loopF (exs b) t (ds.drop (i + 1)) p.2
        | .brk => .ok (.next, p.2)
        | .ret o => .ok (.ret o, p.2)) D := q2
    cases ha : assignT t ds[i] env2 with
    | none => rw [ha] at q2; exact q2.elim
    | some env3 =>
    rw [ha] at q2
    refine gT_ok t ha (s2.grow g) rx fun σ4 Af4 s4 l4 m4 => ?_
    have q4 := PF.step (js := tslots t) (fun i hi => List.mem_append_left _ hi) m4 ((Stp.grow g).trans (Stp.less l4)) q2
    refine ⟨F3, Af4, env3, s4, ?_⟩
    have hb : ∀ i ∈ asgds b, i ∈ tslots t ++ asgds b := fun i hi => List.mem_append_right _ hi
    cases he : exs b env3 with
    | stuck => simp only [he] at q4; exact q4
    | err c => simp only [he] at q4; exact q4
    | ok z =>
      obtain ⟨fl, env5⟩ := z
      simp only [he] at q4
      cases fl with
      | next => exact fun σ5 F5 H5 Af5 m5 s5 t5 => ⟨hlt, F5, Af5, env5, s5, (e2.trans g.f).trans t5.ex, PF.step (js := asgds b) hb m5 t5 q4⟩
      | cont => exact fun σ5 F5 H5 Af5 m5 s5 t5 => ⟨hlt, F5, Af5, env5, s5, (e2.trans g.f).trans t5.ex, PF.step (js := asgds b) hb m5 t5 q4⟩
      | brk => exact fun σ5 F5 H5 Af5 m5 s5 t5 => q4 σ5 F5 H5 Af5 (m5.mono hb) s5 t5
      | ret o => exact fun v σ5 F5 H5 Af5 C5 m5 s5 t5 r5 nd5 un5 => q4 v σ5 F5 H5 Af5 C5 (m5.mono hb) s5 t5 r5 nd5 un5
  · have e : i = ds.length := by omega
    subst e
    rw [List.drop_length] at q2
    exact .inl ⟨r1.2.stop F2 H2 e2 s2.ex, q2 σ2 F2 H2 Af2 (Same.refl _ _) s2 Stp.refl⟩
theorem s_while {c : E} {b : List S} {σ : L2.St} {H : Hp} {D : Ends} (h : TS' X cA W (asgds b) (one T ev exs (.whileS c b)) D σ H) : tWhile (TT' X cA W (truthE ev c)) (TS' X cA W (asgds b) (exs b)) D σ H := by
  obtain ⟨F, Af, env, s, p⟩ := h
  have p : PF X.K cA W (asgds b) σ F H Af (loopW (truthE ev c) (exs b) 100000 env) D := p
  refine ⟨fun m σ' H' => ∃ F' Af' env', SR X.K F' H' σ' env' Af' ∧ PF X.K cA W (asgds b) σ' F' H' Af' (loopW (truthE ev c) (exs b) m env') D, ⟨_, F, Af, env, s, p⟩, ?_⟩
  rintro m σ2 H2 ⟨F2, Af2, env2, s2, q2⟩
  cases m with
  | zero => exact q2.elim
  | succ k =>
    have q2 : PF X.K cA W (asgds b) σ2 F2 H2 Af2 ((truthE ev c env2).bind fun p => if p.1 then (exs b p.2).bind fun q => match q.1 with
        | .next => loopW (truthE ev c) (exs b) k q.2
        | .cont => loopW (truthE ev c) (exs b) k q.2
        | .brk => .ok (.next, q.2)
        | .ret o => .ok (.ret o, q.2)
      else .ok (.next, p.2)) D := q2
    refine PG.tg s2 (PF.bind (rep := rB) (k := fun t env => if t then (exs b env).bind fun q => match q.1 with
        | .next => loopW (truthE ev c) (exs b) k q.2
        | .cont => loopW (truthE ev c) (exs b) k q.2
        | .brk => .ok (.next, q.2)
        | .ret o => .ok (.ret o, q.2)
      else .ok (.next, env)) q2 fun t env3 t' F3 H3 Af3 C s3 t3 r3 nd un q3 => ?_)
    obtain rfl : t' = t := r3.2
    cases t' with
    | false => exact q3 σ2 F3 H3 Af3 (Same.refl _ _) s3 Stp.refl
    | true =>
      refine ⟨fun σ' H' => ∃ F' Af' env', SR X.K F' H' σ' env' Af' ∧ PF X.K cA W (asgds b) σ' F' H' Af' (loopW (truthE ev c) (exs b) k env') D, fun σ' H' w => ⟨k, Nat.lt_succ_self k, w⟩, F3, Af3, env3, s3, ?_⟩
      simp only [if_true] at q3
      cases he : exs b env3 with
      | stuck => simp only [he] at q3; exact q3
      | err c => simp only [he] at q3; exact q3
      | ok z =>
        obtain ⟨fl, env5⟩ := z
        simp only [he] at q3
        cases fl with
        | next => exact fun σ5 F5 H5 Af5 m5 s5 t5 => ⟨F5, Af5, env5, s5, PF.step (js := asgds b) (fun i h => h) m5 t5 q3⟩
        | cont => exact fun σ5 F5 H5 Af5 m5 s5 t5 => ⟨F5, Af5, env5, s5, PF.step (js := asgds b) (fun i h => h) m5 t5 q3⟩
        | brk => exact fun σ5 F5 H5 Af5 m5 s5 t5 => q3 σ5 F5 H5 Af5 m5 s5 t5
        | ret o => exact fun v σ5 F5 H5 Af5 C5 m5 s5 t5 r5 nd5 un5 => q3 v σ5 F5 H5 Af5 C5 m5 s5 t5 r5 nd5 un5
/-- name op= e -/
theorem s_aug {i : Nat} {o : Op2} {e : E} {σ : L2.St} {H : Hp} {D : Ends} {f : Int → Int → Int} (ho : ∀ k j, augF o k j = some (f k j)) (h : TS' X cA W [i] (one T ev exs (.aug i o e)) D σ H) : tAug i (TD X cA W (evD ev e)) (ipI f) D σ H := by
  obtain ⟨F, Af, env, s, p0⟩ := h
  have p : PF X.K cA W [i] σ F H Af (match (env[i]?).join with
    | some (.val (.int k)) => (evD ev e env).bind fun z => match z.1 with
      | .int j => match augF o k j with
        | some r => .ok (.next, setO z.2 i (.val (.int r)))
        | none => .stuck
      | _ => .stuck
    | _ => .stuck) D := p0
  split at p
  · rename_i k ek
    obtain ⟨v, e1, r⟩ := s.rep ek
    cases r.int_inv
    refine ⟨_, e1, PG.tg s (PF.bind (rep := rD X.K) (k := fun d env => match d with
      | .int j => match augF o k j with
        | some r => .ok (.next, setO env i (.val (.int r)))
        | none => .stuck
      | _ => .stuck) p fun d env1 w F1 H1 Af1 C s1 t1 r1 nd un q => ?_)⟩
    have hi : i < env1.length := by
      have : i < σ.length := by
        rcases Nat.lt_or_ge i σ.length with h | h
        · exact h
        · rw [List.getElem?_eq_none h] at e1; cases e1
      rw [← s1.len]; exact this
    cases d with
    | int j =>
      cases r1.2.int_inv
      simp only [ho] at q
      exact ⟨k, j, rfl, rfl, q _ F1 H1 _ (Same.set i _ σ) (s1.set hi (.val (.int _)) .nil fun _ z => nomatch z) (Stp.less (Less.set i))⟩
    | _ => exact q.elim
  · exact p.elim
/-- x.append(e) -/
theorem s_app {i : Nat} {e : E} {σ : L2.St} {H : Hp} {D : Ends} (h : TS' X cA W [] (one T ev exs (.app i e)) D σ H) : tDrop (tBM X.K "list" rAppend (tVar i) (tCons (TD X cA W (evD ev e)) tNil)) D σ H := by
  obtain ⟨F, Af, env, s, p⟩ := h
  have p : PF X.K cA W [] σ F H Af (match (env[i]?).join with
    | some (.lst _) => (evD ev e env).bind fun p => match (p.2[i]?).join with
      | some (.lst xs) => if xs.length < most then .ok (.next, setO p.2 i (.lst (xs ++ [.val p.1]))) else .stuck
      | _ => .stuck
    | _ => .stuck) D := p
  split at p
  · rename_i os0 ek
    obtain ⟨a, vs, C, e1, e2, e3, r⟩ := s.own ek
    refine ⟨_, e1, .inl ⟨rfl, vs, SqL.of e2⟩, PG.tg s (PF.bind (rep := rD X.K) (k := fun d env => match (env[i]?).join with
      | some (.lst xs) => if xs.length < most then .ok (.next, setO env i (.lst (xs ++ [.val d]))) else .stuck
      | _ => .stuck) p fun d env1 w F1 H1 Af1 C s1 t1 r1 nd un q => ?_)⟩
    split at q
    · rename_i os ek1
      split at q
      · rename_i hz
        obtain ⟨a1, vs1, C1, f1, f2, f3, fr⟩ := s1.own ek1
        rw [e1] at f1
        cases f1
        refine ⟨_, vs1, w, rfl, rfl, f2, ?_, ?_⟩
        · rw [fr.length]
          have : most < sizeLine := by decide
          omega
        · exact q σ F1 _ Af1 (Same.refl _ _) (s1.setL ek1 e1 f2 f3 (ROs.append_val r1.2 fr)) (Stp.setL (i := i) (by rw [f3]; exact List.mem_cons_self))
      · exact q.elim
    · exact q.elim
  · exact p.elim
/-- x[j] = e -/
theorem s_setIx {i : Nat} {ix e : E} {σ : L2.St} {H : Hp} {D : Ends} (h : TS' X cA W [] (one T ev exs (.setIx i ix e)) D σ H) : tAsg (TD X cA W (evD ev e)) (gSub (tVar i) (TD X cA W (evD ev ix)) rSetL) D σ H := by
  refine TF.bind (rep := rD X.K) (r := evD ev e) (k := fun d env => match (env[i]?).join with
    | some _ => (evD ev ix env).bind fun q => match (q.2[i]?).join, q.1 with
      | some (.lst xs), .int k => if 0 ≤ k ∧ k < xs.length ∧ allVal xs = true then .ok (.next, setO q.2 i (.lst (xs.set k.toNat (.val d)))) else .stuck
      | _, _ => .stuck
    | none => .stuck) h fun d env1 v F1 H1 Af1 C s1 r1 nd un q => ?_
  cases ek : (env1[i]?).join with
  | none => rw [ek] at q; exact q.elim
  | some o0 =>
  rw [ek] at q
  obtain ⟨w0, e1, r0⟩ := s1.at_ i _ (join_some ek)
  refine ⟨w0, e1, PG.tg s1 (PF.bind (rep := rD X.K) (k := fun j env => match (env[i]?).join, j with
      | some (.lst xs), .int k => if 0 ≤ k ∧ k < xs.length ∧ allVal xs = true then .ok (.next, setO env i (.lst (xs.set k.toNat (.val d)))) else .stuck
      | _, _ => .stuck) q fun j env2 w F2 H2 Af2 C2 s2 t2 r2 nd2 un2 q2 => ?_)⟩
  split at q2
  · rename_i os k ek2
    split at q2
    · rename_i hz
      obtain ⟨h0, h1, hv⟩ := hz
      cases r2.2.int_inv
      obtain ⟨a1, vs1, C1, f1, f2, f3, fr⟩ := s2.own ek2
      rw [e1] at f1
      cases f1
      obtain ⟨rfl, ds, rfl, rd⟩ := fr.all_val hv
      have hl : vs1.length = (ds.map O.val).length := fr.length
      refine ⟨_, vs1, k, k.toNat, rfl, rfl, f2, ?_, ?_⟩
      · unfold ixN
        rw [hl, if_pos h0, if_pos h1]
      · refine q2 σ F2 _ Af2 (Same.refl _ _) (s2.setL ek2 e1 f2 f3 ?_) (Stp.setL (i := i) (by rw [f3]; exact List.mem_cons_self))
        have e : (ds.map O.val).set k.toNat (O.val d) = (ds.set k.toNat d).map O.val := by rw [List.map_set]
        rw [e]
        exact ROs.vals (rd.set k.toNat (r1.2.mono t2.ex))
    · exact q2.elim
  · exact q2.elim
end
end Ev

end
section
set_option autoImplicit false
set_option linter.all false
set_option maxRecDepth 100000
/-! The evaluator is sound: expressions. -/
namespace Ev
open PySem L2 PyProof.Rows RZ

section
variable {nm : Names} {T : Tab} {cA fA : Nat → Addr} {n : Nat} {W : WX} {X : Cx} {exs : List S → Env → Res (Fl × Env)}
/-- an expression, as a value, as a test, assigned -/
structure SE (X : Cx) (cA : Nat → Addr) (W : WX) (ev : E → Env → Res (O × Env)) (e : E) (a : Expr) : Prop where
  pe : PE X a (TO X cA W (ev e))
  pt : PT X a (TT' X cA W (truthE ev e))
  pw : ∀ op es p, a = .BoolOp op es p → PW X a (TT' X cA W (truthE ev e))
  as_ : ∀ (i : Nat) (y : Str) (py spos : Pos), noComp a = false → X.N[i]? = some y → X.env.scope.names.lookup y = some .local → swapsWith a (some (.Name y py)) spos.line X.env = pure true → PS X (.Assign [.Name y py] a spos) (tAsg (TO X cA W (ev e)) (gName i))
variable {ev : E → Env → Res (O × Env)}
theorem SE.dfl (hX : At nm T cA fA n W X) {e : E} {a : Expr} (hd : dflT a = true) (hc : noComp a = true) (pe : PE X a (TO X cA W (ev e))) : SE X cA W ev e a :=
  ⟨pe, t_dfl hX hd pe, (fun op es p h => by subst h; cases hd), (fun _ _ _ _ h => by rw [hc] at h; cases h)⟩
theorem pt_ite {t b d : Expr} {tc tb td : L2.TT} {pos : Pos} (hc : PT X t tc) (hb : PT X b tb) (hd : PT X d td) : PT X (.IfExp t b d pos) (fun σ H Q => tc σ H fun k H1 => if k = true then tb σ H1 Q else td σ H1 Q) := by
  refine ⟨fun pins s σ H Q I h => ?_⟩
  have e : PySem.isTrue (.IfExp t b d pos) X.env (eval (.IfExp t b d pos) X.env) = (PySem.isTrue t X.env (eval t X.env) >>= fun k => if k = true then PySem.isTrue b X.env (eval b X.env) else PySem.isTrue d X.env (eval d X.env)) := by rw [PySem.isTrue]
  rw [e]
  refine wpAny_bind (thn (hc.run pins s σ H _ I h) fun k s1 ⟨H1, I1, q1⟩ => ?_)
  cases k with
  | true => exact hb.run pins s1 σ H1 Q I1 q1
  | false => exact hd.run pins s1 σ H1 Q I1 q1
theorem t_ite (hX : At nm T cA fA n W X) {c x y : E} {t b d : Expr} {pos : Pos} (hc : PT X t (TT' X cA W (truthE ev c))) (hb : PT X b (TT' X cA W (truthE ev x))) (hd : PT X d (TT' X cA W (truthE ev y))) : PT X (.IfExp t b d pos) (TT' X cA W (truthE (stepE T ev exs) (.ite c x y))) := by
  refine (pt_ite hc hb hd).mono fun σ H Q h => ?_
  have h' : TT' X cA W (fun env => (truthE ev c env).bind fun p => if p.1 then truthE ev x p.2 else truthE ev y p.2) σ H Q := by
    refine (show truthE (stepE T ev exs) (.ite c x y) = fun env => (truthE ev c env).bind fun p => if p.1 then truthE ev x p.2 else truthE ev y p.2 from ?_) ▸ h
    funext env
    rw [truthE_eq, stepE_ite]
    cases truthE ev c env with
    | ok p =>
      obtain ⟨k, env1⟩ := p
      cases k <;> rfl
    | err c => rfl
    | stuck => rfl
  refine TG.bind (rep := rB) (r := truthE ev c) (k := fun k env => if k then truthE ev x env else truthE ev y env) h' fun d env1 v F1 H1 Af1 C s1 r1 nd un q => ?_
  obtain rfl : v = d := r1.2
  cases v with
  | true => exact PG.tg s1 q
  | false => exact PG.tg s1 q
theorem lookup_fst {g : Str × NameKind → NameKind} {x : Str} {k : NameKind} : ∀ {l : List (Str × NameKind)}, l.lookup x = some k → (∀ n, g (n, k) = k) → (l.map fun p => (p.1, g p)).lookup x = some k
  | [], h, _ => by cases h
  | (y, u) :: r, h, hg => by
    rw [List.lookup_cons] at h
    rw [List.map_cons, List.lookup_cons]
    by_cases e : (x == y) = true
    · simp only [e] at h ⊢
      cases h
      rw [hg]
    · have e : (x == y) = false := by simpa using e
      simp only [e] at h ⊢
      exact lookup_fst h hg
theorem relS_lookup {scope sc : Scope} {x : Str} {k : NameKind} (h : scope.names.lookup x = some k) (hk : k ≠ .free) : (relS scope sc).names.lookup x = some k := by
  unfold relS
  show (scope.names.map fun (n, k) => if (k == .free && sc.kind == .function && sc.names.lookup n == some .cell) then (n, .cell) else (n, k)).lookup x = some k
  have e : (fun (p : Str × NameKind) => match p with | (n, k) => if (k == NameKind.free && sc.kind == .function && sc.names.lookup n == some .cell) then (n, NameKind.cell) else (n, k)) =
      fun p => (p.1, if (p.2 == NameKind.free && sc.kind == .function && sc.names.lookup p.1 == some .cell) then NameKind.cell else p.2) := by
    funext ⟨n, k⟩
    dsimp only
    split <;> rfl
  rw [e]
  refine lookup_fst h fun n => ?_
  have hf : (k == NameKind.free) = false := by cases k <;> first | rfl | exact absurd rfl hk
  show (if (k == NameKind.free && sc.kind == .function && sc.names.lookup n == some .cell) then NameKind.cell else k) = k
  rw [hf]
  rfl
theorem plain_fold {it : Expr} (h : plainIt it = true) : ∀ (env : PySem.Env) (x : Value), foldedSetIterable it env x = pure x := by
  intro env x
  cases it <;> first | rfl | cases h
theorem own_map (N : List Str) (t : Tgt) : (ownOf N t).map (·.2) = tslots t := by
  unfold ownOf
  rw [List.map_map]
  exact List.map_id _
theorem swapsWith_as {value : Expr} {t : Str} {py : Pos} {l : Nat} (hk : X.env.scope.kind = .function) (hv : okV value = true) : swapsWith value (some (.Name t py)) l X.env = pure (swB X.env.scope (.Name t py) value) := by
  cases value with
  | ListComp elt gs s p =>
    unfold swapsWith swB
    have hb : X.env.blockKind = .function := by unfold Env.blockKind; rw [hk]; rfl
    simp only [hb, Expr.pos]
    show pure _ = pure _
    congr 1
    have : (X.env.kindOf t == some NameKind.local) = decide (X.env.scope.names.lookup t = some .local) := by
      unfold Env.kindOf
      cases X.env.scope.names.lookup t with
      | none => rfl
      | some k => cases k <;> rfl
    rw [this]
    rfl
  | SetComp _ _ _ _ => cases hv
  | DictComp _ _ _ _ _ => cases hv
  | _ => rfl
end
end Ev

end
section
set_option autoImplicit false
set_option linter.all false
set_option maxRecDepth 100000
/-! The evaluator is sound: one step of an expression. -/
namespace Ev
open PySem L2 PyProof.Rows RZ

section
variable {nm : Names} {T : Tab} {cA fA : Nat → Addr} {j : Nat} {W : WX} {X : Cx}
theorem SE.dflj (hX : At nm T cA fA (j + 1) W X) {e : E} {a : Expr} (hd : dflT a = true) (hc : noComp a = true) (pe : PE X a (TO X cA W (stepE T (evN T j) (exN T j) e))) : SE X cA W (evN T (j + 1)) e a := SE.dfl (ev := evN T (j + 1)) hX hd hc pe
theorem isBl2 {x s : Str} (h : isBl nm X.env.scope x s = true) : x = s ∧ Gl X x ∧ x ∈ nm.bl := isBl_spec h
theorem sE_op1 (hX : At nm T cA fA (j + 1) W X) {chk : Scope → E → Expr → Bool} (ih : ∀ e a, chk X.env.scope e a = true → SE X cA W (evN T j) e a) {o : Op1} {x : E} {a : Expr} (h : chkE1 nm X.N chk X.env.scope (.op1 o x) a = true) : SE X cA W (evN T (j + 1)) (.op1 o x) a := by
  cases o with
  | isT t =>
    simp only [chkE1] at h
    split at h
    · simp only [Bool.and_eq_true] at h
      obtain ⟨h1, h2, h3, h4⟩ := h
      obtain ⟨e1, g1⟩ := isBl2 h1
      obtain ⟨e2, g2⟩ := isBl2 h2
      exact .dflj hX rfl rfl (e_isT hX e1 g1 e2 g2 h3 (ih _ _ h4).pe)
    · cases h
  | neg =>
    simp only [chkE1] at h
    split at h
    · exact .dflj hX rfl rfl (e_neg hX (ih _ _ h).pe)
    · cases h
  | listRev =>
    simp only [chkE1] at h
    split at h
    · simp only [Bool.and_eq_true] at h
      obtain ⟨h1, h2, h3, h4⟩ := h
      obtain ⟨e1, g1⟩ := isBl2 h1
      obtain ⟨e2, g2⟩ := isBl2 h2
      exact .dflj hX rfl rfl (e_listRev hX e1 g1 e2 g2 h3 (ih _ _ h4).pe)
    · cases h
  | sortedSet =>
    simp only [chkE1] at h
    split at h
    · simp only [Bool.and_eq_true] at h
      obtain ⟨h1, h2, h3, h4⟩ := h
      obtain ⟨e1, g1⟩ := isBl2 h1
      obtain ⟨e2, g2⟩ := isBl2 h2
      exact .dflj hX rfl rfl (e_sortedSet hX e1 g1 e2 g2 h3 (ih _ _ h4).pe)
    · cases h
  | listRange =>
    simp only [chkE1] at h
    split at h
    · simp only [Bool.and_eq_true] at h
      obtain ⟨h1, h2, h3, h4⟩ := h
      obtain ⟨e1, g1⟩ := isBl2 h1
      obtain ⟨e2, g2⟩ := isBl2 h2
      exact .dflj hX rfl rfl (e_listRange hX e1 g1 e2 g2 h3 (ih _ _ h4).pe)
    · cases h
  | repr =>
    simp only [chkE1] at h
    split at h
    · simp only [Bool.and_eq_true] at h
      obtain ⟨h0, h1, h3, h4⟩ := h
      obtain ⟨rfl, g1⟩ := isBl2 h1
      exact .dflj hX rfl rfl (e_op1c hX (c_repr (cA := cA) (W := W) (hX.gd h0) hX.hu) (by decide +kernel) g1 (by decide) (by decide) h3 (ih _ _ h4).pe)
    · cases h
  | rev =>
    simp only [chkE1] at h
    split at h
    · simp only [Bool.and_eq_true, decide_eq_true_eq] at h
      obtain ⟨rfl, h4⟩ := h
      exact .dflj hX rfl rfl (e_rev hX (ih _ _ h4).pe)
    · cases h
  | len =>
    simp only [chkE1, name1] at h
    split at h
    · simp only [Bool.and_eq_true] at h
      obtain ⟨h1, h3, h4⟩ := h
      obtain ⟨rfl, g1⟩ := isBl2 h1
      exact .dflj hX rfl rfl (e_op1c hX (c_len (cA := cA) (W := W)) boot_len g1 (by decide) (by decide) h3 (ih _ _ h4).pe)
    · cases h
  | all =>
    simp only [chkE1, name1] at h
    split at h
    · simp only [Bool.and_eq_true] at h
      obtain ⟨h1, h3, h4⟩ := h
      obtain ⟨rfl, g1⟩ := isBl2 h1
      exact .dflj hX rfl rfl (e_op1c hX (c_all (cA := cA) (W := W) hX.calm) (by decide +kernel) g1 (by decide) (by decide) h3 (ih _ _ h4).pe)
    · cases h
  | any =>
    simp only [chkE1, name1] at h
    split at h
    · simp only [Bool.and_eq_true] at h
      obtain ⟨h1, h3, h4⟩ := h
      obtain ⟨rfl, g1⟩ := isBl2 h1
      exact .dflj hX rfl rfl (e_op1c hX (c_any (cA := cA) (W := W) hX.calm) (by decide +kernel) g1 (by decide) (by decide) h3 (ih _ _ h4).pe)
    · cases h
  | sum =>
    simp only [chkE1, name1] at h
    split at h
    · simp only [Bool.and_eq_true] at h
      obtain ⟨h1, h3, h4⟩ := h
      obtain ⟨rfl, g1⟩ := isBl2 h1
      exact .dflj hX rfl rfl (e_op1c hX (c_sum (cA := cA) (W := W) hX.calm) (by decide +kernel) g1 (by decide) (by decide) h3 (ih _ _ h4).pe)
    · cases h
  | abs =>
    simp only [chkE1, name1] at h
    split at h
    · simp only [Bool.and_eq_true] at h
      obtain ⟨h1, h3, h4⟩ := h
      obtain ⟨rfl, g1⟩ := isBl2 h1
      exact .dflj hX rfl rfl (e_op1c hX (c_abs (cA := cA) (W := W)) (by decide +kernel) g1 (by decide) (by decide) h3 (ih _ _ h4).pe)
    · cases h
  | sorted =>
    simp only [chkE1, name1] at h
    split at h
    · simp only [Bool.and_eq_true] at h
      obtain ⟨h1, h3, h4⟩ := h
      obtain ⟨rfl, g1⟩ := isBl2 h1
      exact .dflj hX rfl rfl (e_op1c hX (c_sorted (cA := cA) (Wx := W) hX.hu) (by decide +kernel) g1 (by decide) (by decide) h3 (ih _ _ h4).pe)
    · cases h
  | min =>
    simp only [chkE1, name1] at h
    split at h
    · simp only [Bool.and_eq_true] at h
      obtain ⟨h1, h3, h4⟩ := h
      obtain ⟨rfl, g1⟩ := isBl2 h1
      exact .dflj hX rfl rfl (e_op1c hX (c_min (cA := cA) (Wx := W) hX.calm hX.hu) (by decide +kernel) g1 (by decide) (by decide) h3 (ih _ _ h4).pe)
    · cases h
  | max =>
    simp only [chkE1, name1] at h
    split at h
    · simp only [Bool.and_eq_true] at h
      obtain ⟨h1, h3, h4⟩ := h
      obtain ⟨rfl, g1⟩ := isBl2 h1
      exact .dflj hX rfl rfl (e_op1c hX (c_max (cA := cA) (Wx := W) hX.calm hX.hu) (by decide +kernel) g1 (by decide) (by decide) h3 (ih _ _ h4).pe)
    · cases h
  | int =>
    simp only [chkE1, name1] at h
    split at h
    · simp only [Bool.and_eq_true] at h
      obtain ⟨h1, h3, h4⟩ := h
      obtain ⟨rfl, g1⟩ := isBl2 h1
      exact .dflj hX rfl rfl (e_op1t hX (c_int (cA := cA) (W := W)) (by decide +kernel) g1 (by decide) (by decide) h3 (ih _ _ h4).pe)
    · cases h
  | list =>
    simp only [chkE1, name1] at h
    split at h
    · simp only [Bool.and_eq_true] at h
      obtain ⟨h1, h3, h4⟩ := h
      obtain ⟨rfl, g1⟩ := isBl2 h1
      exact .dflj hX rfl rfl (e_op1t hX (c_list (cA := cA) (W := W)) (by decide +kernel) g1 (by decide) (by decide) h3 (ih _ _ h4).pe)
    · cases h
  | tuple =>
    simp only [chkE1, name1] at h
    split at h
    · simp only [Bool.and_eq_true] at h
      obtain ⟨h1, h3, h4⟩ := h
      obtain ⟨rfl, g1⟩ := isBl2 h1
      exact .dflj hX rfl rfl (e_op1t hX (c_tuple (cA := cA) (W := W)) (by decide +kernel) g1 (by decide) (by decide) h3 (ih _ _ h4).pe)
    · cases h
  | _ =>
    simp only [chkE1, name1] at h
    split at h <;> simp at h
theorem sE_op2g (hX : At nm T cA fA (j + 1) W X) {chk : Scope → E → Expr → Bool} (ih : ∀ e a, chk X.env.scope e a = true → SE X cA W (evN T j) e a) {o : Op2} {x y : E} {a : Expr} (h : (match a with
    | .BinOp b op c _ => decide (opOf o = some op) && (chk X.env.scope x b && chk X.env.scope y c)
    | .Compare b [op] [c] _ => decide (cmpOf o = some op) && (plainIt c && (chk X.env.scope x b && chk X.env.scope y c))
    | .Call (.Name f _) [b, c] [] _ => (match name2 o with | some s => isBl nm X.env.scope f s | none => false) && (noStar b && (noStar c && (chk X.env.scope x b && chk X.env.scope y c)))
    | _ => false) = true) : SE X cA W (evN T (j + 1)) (.op2 o x y) a := by
    split at h
    · simp only [Bool.and_eq_true, decide_eq_true_eq] at h
      obtain ⟨h1, h2, h3⟩ := h
      exact .dflj hX rfl rfl (e_bin hX h1 (ih _ _ h2).pe (ih _ _ h3).pe)
    · simp only [Bool.and_eq_true, decide_eq_true_eq] at h
      obtain ⟨h1, h2, h3, h4⟩ := h
      exact ⟨e_cmp (exs := exN T j) hX h1 h2 (ih _ _ h3).pe (ih _ _ h4).pe, t_cmp (exs := exN T j) hX h1 h2 (ih _ _ h3).pe (ih _ _ h4).pe, fun _ _ _ z => (nomatch z), fun _ _ _ _ z => (nomatch z)⟩
    · simp only [Bool.and_eq_true] at h
      obtain ⟨h1, h2, h3, h4, h5⟩ := h
      cases o with
      | min2 =>
        obtain ⟨rfl, g1⟩ := isBl2 (show isBl nm X.env.scope _ "min" = true from h1)
        exact .dflj hX rfl rfl (e_c2 hX (c_min2 (cA := cA) (Wx := W) hX.calm) (by decide +kernel) g1 (by decide) (by decide) h2 h3 (ih _ _ h4).pe (ih _ _ h5).pe)
      | max2 =>
        obtain ⟨rfl, g1⟩ := isBl2 (show isBl nm X.env.scope _ "max" = true from h1)
        exact .dflj hX rfl rfl (e_c2 hX (c_max2 (cA := cA) (Wx := W) hX.calm) (by decide +kernel) g1 (by decide) (by decide) h2 h3 (ih _ _ h4).pe (ih _ _ h5).pe)
      | _ => cases h1
    · cases h
theorem sE_op2 (hX : At nm T cA fA (j + 1) W X) {chk : Scope → E → Expr → Bool} (ih : ∀ e a, chk X.env.scope e a = true → SE X cA W (evN T j) e a) {o : Op2} {x y : E} {a : Expr} (h : chkE1 nm X.N chk X.env.scope (.op2 o x y) a = true) : SE X cA W (evN T (j + 1)) (.op2 o x y) a := by
  cases o with
  | idx =>
    simp only [chkE1] at h
    split at h
    · simp only [Bool.and_eq_true] at h
      obtain ⟨h1, h2, h3⟩ := h
      exact .dflj hX rfl rfl (e_idx hX h1 (ih _ _ h2).pe (ih _ _ h3).pe)
    · cases h
  | listRange2 =>
    simp only [chkE1] at h
    split at h
    · simp only [Bool.and_eq_true] at h
      obtain ⟨h1, h2, h3, h4, h5, h6⟩ := h
      obtain ⟨e1, g1⟩ := isBl2 h1
      obtain ⟨e2, g2⟩ := isBl2 h2
      exact .dflj hX rfl rfl (e_listRange2 hX e1 g1 e2 g2 h3 h4 (ih _ _ h5).pe (ih _ _ h6).pe)
    · cases h
  | _ => exact sE_op2g hX ih h
end
end Ev

end
section
set_option autoImplicit false
set_option linter.all false
set_option maxRecDepth 100000
/-! The evaluator is sound: expressions. -/
namespace Ev
open PySem L2 PyProof.Rows RZ

section
variable {nm : Names} {T : Tab} {cA fA : Nat → Addr} {j : Nat} {W : WX} {X : Cx}
theorem i_any (hX : At nm T cA fA (j + 1) W X) {tg : Expr} {chk : Scope → E → Expr → Bool} (ih : ∀ e a, chk X.env.scope e a = true → SE X cA W (evN T j) e a) {it : I} {a : Expr} (h : chkI nm X.N chk X.env.scope it a = true) (ht : needsTup it = true → ∃ es k p, tg = .Tuple es k p) : PI X tg a (TIt X cA W (items (evN T j) it)) := by
  cases it with
  | scr i =>
    simp only [chkI] at h
    split at h
    · exact i_scr hX h
    · cases h
  | range e =>
    simp only [chkI] at h
    split at h
    · simp only [Bool.and_eq_true] at h
      obtain ⟨h1, h2, h3⟩ := h
      obtain ⟨e1, g1⟩ := isBl2 h1
      exact i_range hX e1 g1 h2 (ih _ _ h3).pe
    · cases h
  | range2 e g =>
    simp only [chkI] at h
    split at h
    · simp only [Bool.and_eq_true] at h
      obtain ⟨h1, h2, h3, h4, h5⟩ := h
      obtain ⟨e1, g1⟩ := isBl2 h1
      exact i_range2 hX e1 g1 h2 h3 (ih _ _ h4).pe (ih _ _ h5).pe
    · cases h
  | range3 e g c =>
    simp only [chkI] at h
    split at h
    · simp only [Bool.and_eq_true, decide_eq_true_eq] at h
      obtain ⟨h1, rfl, h2, h3, h4, h5⟩ := h
      obtain ⟨e1, g1⟩ := isBl2 h1
      exact i_range3 hX e1 g1 h2 h3 (ih _ _ h4).pe (ih _ _ h5).pe
    · cases h
  | rangeE e g k =>
    simp only [chkI] at h
    split at h
    · simp only [Bool.and_eq_true] at h
      obtain ⟨h1, h2, h3, h4, h5, h6, h7⟩ := h
      obtain ⟨e1, g1⟩ := isBl2 h1
      exact i_rangeE hX e1 g1 h2 h3 h4 (ih _ _ h5).pe (ih _ _ h6).pe (ih _ _ h7).pe
    · cases h
  | zip e g =>
    obtain ⟨es, k, p, rfl⟩ := ht rfl
    simp only [chkI] at h
    split at h
    · simp only [Bool.and_eq_true] at h
      obtain ⟨h1, h2, h3, h4, h5⟩ := h
      obtain ⟨e1, g1⟩ := isBl2 h1
      exact i_zip hX e1 g1 h2 h3 (ih _ _ h4).pe (ih _ _ h5).pe
    · cases h
  | enum e =>
    obtain ⟨es, k, p, rfl⟩ := ht rfl
    simp only [chkI] at h
    split at h
    · simp only [Bool.and_eq_true] at h
      obtain ⟨h1, h2, h3⟩ := h
      obtain ⟨e1, g1⟩ := isBl2 h1
      exact i_enum hX e1 g1 h2 (ih _ _ h3).pe
    · cases h
  | seq e =>
    have h : (noStar a && chk X.env.scope e a) = true := h
    rw [Bool.and_eq_true] at h
    exact i_seq (ih _ _ h.2).pe
  | _ => cases h
theorem tup_tgt {N : List Str} {sc : Scope} {t : Tgt} {tg : Expr} (h : chkT N sc t tg = true) (ht : isTup t = true) : ∃ es k p, tg = .Tuple es k p := by
  cases t with
  | nm i => cases ht
  | tup ts => cases tg with
    | Tuple es k p => exact ⟨es, k, p, rfl⟩
    | _ => cases h
theorem needs_tup {it : I} {t : Tgt} (h : (!needsTup it || isTup t) = true) (hn : needsTup it = true) : isTup t = true := by
  rw [hn] at h; exact h
theorem o_any (hX : At nm T cA fA (j + 1) W X) {chk : Scope → E → Expr → Bool} (ih : ∀ e a, chk X.env.scope e a = true → SE X cA W (evN T j) e a) {e : Option E} {a : Option Expr} (h : chkO chk X.env.scope e a = true) : PO X a (TP X cA W (optI (evN T j) e)) := by
  cases e with
  | none => cases a with
    | none => exact o_none
    | some a => cases h
  | some e => cases a with
    | none => cases h
    | some a =>
      have h : (noStar a && chk X.env.scope e a) = true := h
      rw [Bool.and_eq_true] at h
      exact o_some (ih _ _ h.2).pe
/-- a comprehension -/
theorem sE_comp (IH : ∀ X W, At nm T cA fA j W X → ∀ m e a, chkE nm X.N m X.env.scope e a = true → SE X cA W (evN T j) e a) (hX : At nm T cA fA (j + 1) W X) {m : Nat} {elt : E} {t : Tgt} {it : I} {c : Option E} {a : Expr}
    (h : chkE1 nm X.N (chkE nm X.N m) X.env.scope (.comp elt t it c) a = true) : SE X cA W (evN T (j + 1)) (.comp elt t it c) a := by
  have ih : ∀ e a, chkE nm X.N m X.env.scope e a = true → SE X cA W (evN T j) e a := IH X W (hX.down (Nat.le_succ j)) m
  simp only [chkE1] at h
  split at h
  case h_2 => cases h
  rename_i b tg i ifs k scope pos
  simp only [Bool.and_eq_true, decide_eq_true_eq] at h
  obtain ⟨rfl, h1, h2, h3, h4, h5, h6, h7, h8⟩ := h
  have ok := blkOk_by h1
  have hi : PI X tg i (TIt X cA W (items (evN T j) it)) := i_any hX ih h3 fun hn => tup_tgt h5 (needs_tup h4 hn)
  have hB : ∀ (s : Shared) (H : Hp) (C : Addr) (cl : List (Str × Addr)) (fp : List Addr), At nm T cA fA j WF (X.blk s H scope (compEnvC scope cl C X.env) fp) := fun s H C cl fp => (hX.down (Nat.le_succ j)).blk s H scope _ fp
  have hg : ∀ (s : Shared) (H : Hp) (C : Addr) (cl : List (Str × Addr)) (fp : List Addr), L2.PG (X.blk s H scope (compEnvC scope cl C X.env) fp) tg (gT X.K t) := fun s H C cl fp =>
    g_tgt (X := X.blk s H scope (compEnvC scope cl C X.env) fp) (hB s H C cl fp).nd (hB s H C cl fp).calm (sc := scope) (fun x hx => by
      rcases loc_spec hx with q | q
      · have z : (relS scope X.env.scope).names.lookup x = some .local := relS_lookup q (by decide)
        exact ⟨.inl z, .inr z⟩
      · have z : (relS scope X.env.scope).names.lookup x = some .cell := relS_lookup q (by decide)
        exact ⟨.inr z, .inl (by show (scope.names.lookup x == some .cell) = true; rw [q]; rfl)⟩) t h5
  have he : ∀ (s : Shared) (H : Hp) (C : Addr) (cl : List (Str × Addr)) (fp : List Addr), PE (X.blk s H scope (compEnvC scope cl C X.env) fp) b (TD X cA WF (evD (evN T j) elt)) := fun s H C cl fp =>
    (IH (X.blk s H scope (compEnvC scope cl C X.env) fp) WF (hB s H C cl fp) m elt b h7).pe.toD
  have ht : ∀ (s : Shared) (H : Hp) (C : Addr) (cl : List (Str × Addr)) (fp : List Addr), PTs (X.blk s H scope (compEnvC scope cl C X.env) fp) ifs (tIf1 X cA (evN T j) c) := fun s H C cl fp => by
    split at h8
    · exact pts_nil
    · exact pts_one (IH (X.blk s H scope (compEnvC scope cl C X.env) fp) WF (hB s H C cl fp) m _ _ h8).pt
    · cases h8
  have hm := own_map X.N t
  have hp : PE X (.ListComp b [⟨tg, i, ifs, 0⟩] scope pos) (TO X cA W (stepE T (evN T j) (exN T j) (.comp elt t it c))) := (pe_lc hX.calm hX.nd hi ok hg ht he (plain_fold h2 _)).mono fun σ H Q h => by
    rw [hm]; exact t_lc h
  refine ⟨hp, t_dfl (ev := evN T (j + 1)) hX rfl hp, fun _ _ _ z => (nomatch z), fun y1 y py spos _ hy hyl hsw => ?_⟩
  refine (ps_setLc hX.calm hX.nd hy hyl hsw hi ok hg ht he (plain_fold h2 _)).mono fun D σ H h => ?_
  rw [hm]
  exact t_lc (exs := exN T j) h
/-- the keys of a dict comprehension, sorted -/
theorem sE_keys (IH : ∀ X W, At nm T cA fA j W X → ∀ m e a, chkE nm X.N m X.env.scope e a = true → SE X cA W (evN T j) e a) (hX : At nm T cA fA (j + 1) W X) {m : Nat} {elt : E} {t : Tgt} {it : I} {c : Option E} {a : Expr}
    (h : chkE1 nm X.N (chkE nm X.N m) X.env.scope (.sortedKeys elt t it c) a = true) : SE X cA W (evN T (j + 1)) (.sortedKeys elt t it c) a := by
  have ih : ∀ e a, chkE nm X.N m X.env.scope e a = true → SE X cA W (evN T j) e a := IH X W (hX.down (Nat.le_succ j)) m
  simp only [chkE1] at h
  split at h
  case h_2 => cases h
  rename_i f p1 b vb p3 p4 tg i ifs k scope pos p5
  simp only [Bool.and_eq_true, decide_eq_true_eq] at h
  obtain ⟨h0, rfl, h1, h2, h3, h4, h5, h6, h7, h8⟩ := h
  obtain ⟨rfl, g0⟩ := isBl2 h0
  have ok := blkOk_by h1
  have hi : PI X tg i (TIt X cA W (items (evN T j) it)) := i_any hX ih h3 fun hn => tup_tgt h5 (needs_tup h4 hn)
  have hB : ∀ (s : Shared) (H : Hp) (C : Addr) (cl : List (Str × Addr)) (fp : List Addr), At nm T cA fA j WF (X.blk s H scope (compEnvC scope cl C X.env) fp) := fun s H C cl fp => (hX.down (Nat.le_succ j)).blk s H scope _ fp
  have hg : ∀ (s : Shared) (H : Hp) (C : Addr) (cl : List (Str × Addr)) (fp : List Addr), L2.PG (X.blk s H scope (compEnvC scope cl C X.env) fp) tg (gT X.K t) := fun s H C cl fp =>
    g_tgt (X := X.blk s H scope (compEnvC scope cl C X.env) fp) (hB s H C cl fp).nd (hB s H C cl fp).calm (sc := scope) (fun x hx => by
      rcases loc_spec hx with q | q
      · have z : (relS scope X.env.scope).names.lookup x = some .local := relS_lookup q (by decide)
        exact ⟨.inl z, .inr z⟩
      · have z : (relS scope X.env.scope).names.lookup x = some .cell := relS_lookup q (by decide)
        exact ⟨.inr z, .inl (by show (scope.names.lookup x == some .cell) = true; rw [q]; rfl)⟩) t h5
  have he : ∀ (s : Shared) (H : Hp) (C : Addr) (cl : List (Str × Addr)) (fp : List Addr), PE (X.blk s H scope (compEnvC scope cl C X.env) fp) b (TD X cA WF (evD (evN T j) elt)) := fun s H C cl fp =>
    (IH (X.blk s H scope (compEnvC scope cl C X.env) fp) WF (hB s H C cl fp) m elt b h7).pe.toD
  have ht : ∀ (s : Shared) (H : Hp) (C : Addr) (cl : List (Str × Addr)) (fp : List Addr), PTs (X.blk s H scope (compEnvC scope cl C X.env) fp) ifs (tIf1 X cA (evN T j) c) := fun s H C cl fp => by
    split at h8
    · exact pts_nil
    · exact pts_one (IH (X.blk s H scope (compEnvC scope cl C X.env) fp) WF (hB s H C cl fp) m _ _ h8).pt
    · cases h8
  have hm := own_map X.N t
  refine .dflj hX rfl rfl ?_
  refine (pe_callB (call_sortedK hX.calm hX.hu) g0.1 (hX.blt _ g0.2) (by decide +kernel) (pa_cons (pe_dc hX.calm hX.nd hi ok hg ht he (fun s H C cl fp => pe_bl) (plain_fold h2 _)) pa_nil rfl) (by decide) (by decide) rfl rfl).mono fun σ H Q h => ?_
  have q := t_dc (vb := vb) (exs := exN T j) h
  rw [← hm] at q
  exact q
theorem sE_step (IH : ∀ X W, At nm T cA fA j W X → ∀ m e a, chkE nm X.N m X.env.scope e a = true → SE X cA W (evN T j) e a) (hX : At nm T cA fA (j + 1) W X) : ∀ m e a, chkE nm X.N m X.env.scope e a = true → SE X cA W (evN T (j + 1)) e a
  | 0, _, _, h => by cases h
  | m + 1, e, a, h => by
    have ih : ∀ e a, chkE nm X.N m X.env.scope e a = true → SE X cA W (evN T j) e a := IH X W (hX.down (Nat.le_succ j)) m
    unfold chkE at h
    split at h
    · rename_i op v p
      have q := sE_step IH hX m e v h
      have pw : PW X (.BoolOp op [v] p) (TT' X cA W (truthE (evN T (j + 1)) e)) := by
        cases op with
        | And => exact pw_and1 q.pt
        | Or => exact pw_or1 q.pt
      exact ⟨pe_one q.pe, pw.pt, fun op' es p' z => by cases z; exact pw, fun _ _ _ _ z => (nomatch z)⟩
    · cases e with
      | none =>
        simp only [chkE1] at h
        split at h
        · exact .dflj hX rfl rfl (e_con pe_non fun _ => .non)
        · cases h
      | bl b =>
        simp only [chkE1] at h
        split at h
        · have h := eq_of_beq h
          subst h
          exact .dflj hX rfl rfl (e_con pe_bl fun _ => .bl _)
        · cases h
      | int i =>
        simp only [chkE1] at h
        split at h
        · rw [decide_eq_true_eq] at h
          subst h
          exact .dflj hX rfl rfl (e_con pe_int fun _ => .int _)
        · cases h
      | str z =>
        simp only [chkE1] at h
        split at h
        · rw [decide_eq_true_eq] at h
          subst h
          exact .dflj hX rfl rfl (e_con pe_str fun _ => .str _)
        · cases h
      | var i =>
        simp only [chkE1] at h
        split at h
        · exact .dflj hX rfl rfl (e_var hX h)
        · cases h
      | glb i =>
        simp only [chkE1] at h
        split at h
        · exact .dflj hX rfl rfl (e_glb hX h)
        · cases h
      | move i =>
        simp only [chkE1] at h
        split at h
        · exact .dflj hX rfl rfl (e_move hX h)
        · cases h
      | tup es =>
        simp only [chkE1] at h
        split at h
        · exact .dflj hX rfl rfl (e_tup hX (a_list hX (fun e a q => (ih e a q).pe) es _ h))
        · cases h
      | lst es =>
        simp only [chkE1] at h
        split at h
        · exact .dflj hX rfl rfl (e_lst hX (a_list hX (fun e a q => (ih e a q).pe) es _ h))
        · cases h
      | op1 o x => exact sE_op1 hX ih h
      | op2 o x y => exact sE_op2 hX ih h
      | not x =>
        simp only [chkE1] at h
        split at h
        · exact ⟨e_not (exs := exN T j) hX (ih _ _ h).pe, t_not (exs := exN T j) hX (ih _ _ h).pt, fun _ _ _ z => (nomatch z), fun _ _ _ _ z => (nomatch z)⟩
        · cases h
      | and x y =>
        simp only [chkE1] at h
        split at h
        · rw [Bool.and_eq_true] at h
          have pw := w_and (exs := exN T j) hX (ih _ _ h.1).pt ((ih _ _ h.2).pw _ _ _ rfl)
          exact ⟨e_and (exs := exN T j) hX (ih _ _ h.1).pe (ih _ _ h.2).pe, pw.pt, fun op' es p' z => by cases z; exact pw, fun _ _ _ _ z => (nomatch z)⟩
        · cases h
      | or x y =>
        simp only [chkE1] at h
        split at h
        · rw [Bool.and_eq_true] at h
          have pw := w_or (exs := exN T j) hX (ih _ _ h.1).pt ((ih _ _ h.2).pw _ _ _ rfl)
          exact ⟨e_or (exs := exN T j) hX (ih _ _ h.1).pe (ih _ _ h.2).pe, pw.pt, fun op' es p' z => by cases z; exact pw, fun _ _ _ _ z => (nomatch z)⟩
        · cases h
      | ite c x y =>
        simp only [chkE1] at h
        split at h
        · simp only [Bool.and_eq_true] at h
          exact ⟨e_ite (exs := exN T j) hX (ih _ _ h.1).pt (ih _ _ h.2.1).pe (ih _ _ h.2.2).pe, t_ite (exs := exN T j) hX (ih _ _ h.1).pt (ih _ _ h.2.1).pt (ih _ _ h.2.2).pt, fun _ _ _ z => (nomatch z), fun _ _ _ _ z => (nomatch z)⟩
        · cases h
      | chain o1 o2 x y z =>
        simp only [chkE1] at h
        split at h
        · simp only [Bool.and_eq_true, decide_eq_true_eq] at h
          obtain ⟨h1, h2, h3, h4, h5, h6⟩ := h
          exact ⟨e_chain (exs := exN T j) hX h1 h2 h3 (ih _ _ h4).pe (ih _ _ h5).pe (ih _ _ h6).pe, t_chain (exs := exN T j) hX h1 h2 h3 (ih _ _ h4).pe (ih _ _ h5).pe (ih _ _ h6).pe, fun _ _ _ z => (nomatch z), fun _ _ _ _ z => (nomatch z)⟩
        · cases h
      | rng3 t x y z =>
        simp only [chkE1] at h
        split at h
        · simp only [Bool.and_eq_true] at h
          obtain ⟨h1, h2, h3, h4, h5, h6, h7, h8⟩ := h
          obtain ⟨e1, g1⟩ := isBl2 h1
          obtain ⟨e2, g2⟩ := isBl2 h2
          exact .dflj hX rfl rfl (e_rng3 (exs := exN T j) hX t e1 g1 e2 g2 h3 h4 h5 (ih _ _ h6).pe (ih _ _ h7).pe (ih _ _ h8).pe)
        · split at h
          · simp only [Bool.and_eq_true, decide_eq_true_eq] at h
            obtain ⟨rfl, rfl, rfl, h1, h2, h3, h4⟩ := h
            obtain ⟨e1, g1⟩ := isBl2 h1
            obtain ⟨e2, g2⟩ := isBl2 h2
            exact .dflj hX rfl rfl (e_rngT (exs := exN T j) hX (fun i env => by cases j with
              | zero => exact .inr rfl
              | succ j => exact .inl rfl) e1 g1 e2 g2 h3 (ih _ _ h4).pe)
          · cases h
        · cases h
      | slice x lo hi =>
        simp only [chkE1] at h
        split at h
        · simp only [Bool.and_eq_true] at h
          obtain ⟨h1, h2, h3⟩ := h
          exact .dflj hX rfl rfl (e_slice hX (ih _ _ h1).pe (o_any hX ih h2) (o_any hX ih h3))
        · cases h
      | call f es =>
        simp only [chkE1] at h
        split at h
        · rw [Bool.and_eq_true] at h
          obtain ⟨k1, k2⟩ := a_args hX (fun e a q => (ih e a q).pe) es _ h.2
          exact .dflj hX rfl rfl (e_call hX h.1 k1 k2)
        · rw [Bool.and_eq_true] at h
          have : es = [] := by cases es with
            | nil => rfl
            | cons _ _ => cases h.2
          subst this
          exact .dflj hX rfl rfl (e_call0 hX h.1)
        · cases h
      | callS f x =>
        simp only [chkE1] at h
        split at h
        · rw [Bool.and_eq_true] at h
          exact .dflj hX rfl rfl (e_callS hX h.1 (ih _ _ h.2).pe)
        · cases h
      | sel fs ix es =>
        simp only [chkE1] at h
        split at h
        · simp only [Bool.and_eq_true, decide_eq_true_eq] at h
          obtain ⟨h1, h2, h3, h4, h5⟩ := h
          obtain ⟨k1, k2⟩ := a_args hX (fun e a q => (ih e a q).pe) es _ h5
          exact .dflj hX rfl rfl (e_sel hX h1 h2 h3 (ih _ _ h4).pe k1 k2)
        · cases h
      | pop i =>
        simp only [chkE1] at h
        split at h
        · simp only [Bool.and_eq_true, decide_eq_true_eq] at h
          obtain ⟨rfl, h2, h3⟩ := h
          exact .dflj hX rfl rfl (e_pop hX h3 h2)
        · cases h
      | lenScr i =>
        simp only [chkE1] at h
        split at h
        · rw [Bool.and_eq_true] at h
          obtain ⟨e1, g1⟩ := isBl2 h.1
          exact .dflj hX rfl rfl (e_lenScr hX e1 g1 h.2)
        · cases h
      | ixScr i y =>
        simp only [chkE1] at h
        split at h
        · simp only [Bool.and_eq_true] at h
          exact .dflj hX rfl rfl (e_ixScr hX h.1 h.2.1 (ih _ _ h.2.2).pe)
        · cases h
      | snap x =>
        have q := ih x a h
        exact ⟨e_snap (T := T) (exs := exN T j) q.pe, q.pt.mono fun _ _ _ z => snapT_mono (T := T) (exs := exN T j) z, fun op es p z => (q.pw op es p z).mono fun _ _ _ z => snapT_mono (T := T) (exs := exN T j) z,
          fun i y py spos h1 h2 h3 h4 => (q.as_ i y py spos h1 h2 h3 h4).mono fun D σ H z => snap_mono (T := T) (exs := exN T j) z⟩
      | comp elt t it c => exact sE_comp IH hX h
      | sortedKeys elt t it c => exact sE_keys IH hX h
      | _ => cases h
/-- expressions -/
theorem sE : ∀ (n : Nat) (X : Cx) (W : WX), At nm T cA fA n W X → ∀ m e a, chkE nm X.N m X.env.scope e a = true → SE X cA W (evN T n) e a
  | 0, X, W, hX, m, e, a, _ => by
    have no : ∀ {σ : L2.St} {H : Hp} {Q : VK}, TO X cA W (evN T 0 e) σ H Q → False := fun ⟨F, Af, env, s, p⟩ => p
    have noT : ∀ {σ : L2.St} {H : Hp} {Q : Bool → Hp → Prop}, TT' X cA W (truthE (evN T 0) e) σ H Q → False := fun ⟨F, Af, env, s, p⟩ => p
    exact ⟨⟨fun pins s σ H Q I h => (no h).elim⟩, ⟨fun pins s σ H Q I h => (noT h).elim⟩, fun _ _ _ _ => ⟨fun wh pins s σ H Q I h => (noT h).elim⟩, fun _ _ _ _ _ _ _ _ => ⟨fun pins s σ H D I h => (no h).elim⟩⟩
  | n + 1, X, W, hX, m, e, a, h => sE_step (fun X W hX => sE n X W hX) hX m e a h
end
end Ev

end
section
set_option autoImplicit false
set_option linter.all false
set_option maxRecDepth 100000
/-! raise, try. -/
namespace Ev
open PySem L2 PyProof.Rows RZ

section
variable {nm : Names} {T : Tab} {cA fA : Nat → Addr} {n : Nat} {W : WX} {X : Cx} {ev : E → Env → Res (O × Env)} {exs : List S → Env → Res (Fl × Env)}
theorem s_raise {c : Nat} {σ : L2.St} {H : Hp} {D : Ends} (h : TS' X cA W [] (one T ev exs (.raise c)) D σ H) : W (.ref (cA c)) none σ H := by
  obtain ⟨F, Af, env, s, p⟩ := h
  have p : PF X.K cA W [] σ F H Af (if c < T.nx then .err c else .stuck) D := p
  split at p
  · exact p σ F H (Ex.refl _) s.ex (fun a o e _ => e) fun a h => h
  · exact p.elim

/-! a value that needs nobody -/
/-- N: what is new -/
def tCst (K : PySem.W.Frag) (d : D) : TE := fun σ H Q => ∀ (v : V) (G N : Hp), Ex H G → (∀ a, N a ≠ none → H a = none) → Ex N G → Rep K N v d → Q v G
def vAtom : E → V
  | .bl b => .bl b
  | .int i => .int i
  | .str s => .str s
  | _ => .non
theorem rep_atom {K : PySem.W.Frag} {F : Hp} {e : E} {d : D} (h : atomE e = some d) : Rep K F (vAtom e) d := by
  cases e <;> simp only [atomE] at h <;> first | (cases h; done) | (cases h; constructor)
theorem c_atom {X : Cx} {e : E} {a : Expr} (h : chkAt e a = true) : PE X a (tC (vAtom e)) ∧ noStar a = true := by
  unfold chkAt at h
  split at h
  · exact ⟨pe_non, rfl⟩
  · rw [beq_iff_eq] at h; subst h; exact ⟨pe_bl, rfl⟩
  · rw [decide_eq_true_eq] at h; subst h; exact ⟨pe_int, rfl⟩
  · rw [decide_eq_true_eq] at h; subst h; exact ⟨pe_str, rfl⟩
  · cases h
theorem c_atoms {X : Cx} : ∀ {es : List E} {as : List Expr}, chkAts es as = true → PA X as (fun _ H Q => Q (es.map vAtom) H)
  | [], [], _ => pa_nil
  | [], _ :: _, h => by cases h
  | _ :: _, [], h => by cases h
  | e :: es, a :: as, h => by
    have h : (chkAt e a && chkAts es as) = true := h
    rw [Bool.and_eq_true] at h
    obtain ⟨h1, h2⟩ := c_atom (X := X) h.1
    exact (pa_cons h1 (c_atoms h.2) (star1 h2 _ _)).mono fun σ H Q q => q
theorem rep_atoms {K : PySem.W.Frag} {F : Hp} : ∀ {es : List E} {ds : List D}, atomsE es = some ds → RepAll K F (es.map vAtom) ds
  | [], _, h => by cases h; exact .nil
  | e :: es, _, h => by
    have h : (match atomE e, atomsE es with | some d, some ds => some (d :: ds) | _, _ => none) = some _ := h
    split at h
    · rename_i d ds h1 h2
      cases h
      exact .cons (rep_atom h1) (rep_atoms h2)
    · cases h
theorem rep_bools {K : PySem.W.Frag} (F : Hp) : ∀ bs : List Bool, RepAll K F (bs.map V.bl) (bs.map PyData.bool)
  | [] => .nil
  | b :: bs => .cons (.bl b) (rep_bools F bs)
theorem upd_ex {H : Hp} {p : Addr} {o : HO} (h : H p = none) : Ex H (upd H p o) := fun a u e => by
  unfold upd
  split
  · rename_i q; subst q; rw [h] at e; cases e
  · exact e
theorem c_pe {X : Cx} {e : E} {a : Expr} {d : D} (h : chkC e a = true) (hd : cstE e = some d) : PE X a (tCst X.K d) := by
  have atom : atomE e = some d → chkAt e a = true → PE X a (tCst X.K d) := fun h1 h2 => (c_atom h2).1.mono fun σ H Q q => q (vAtom e) H (fun _ => none) (Ex.refl _) (fun _ z => absurd rfl z) (fun _ _ z => nomatch z) (rep_atom h1)
  cases e with
  | tup es =>
    cases a with
    | Tuple as k p =>
      have h : (decide (es.length ≤ 1000) && chkAts es as) = true := h
      rw [Bool.and_eq_true, decide_eq_true_eq] at h
      have hd : (atomsE es).map PyData.tuple = some d := hd
      cases ha : atomsE es with
      | none => rw [ha] at hd; cases hd
      | some ds =>
        rw [ha] at hd
        cases hd
        refine (pe_tup (c_atoms h.2)).mono fun σ H Q q => ⟨?_, fun p hp => ?_⟩
        · rw [List.length_map]
          have : (1000 : Nat) ≤ sizeLine := by decide
          omega
        · refine q (.ref p) _ (upd (fun _ => none) p (.tup (es.map vAtom))) (upd_ex hp) (fun b hb => ?_) (fun b u e => ?_) (.tup ?_ (rep_atoms ha))
          · unfold upd at hb
            split at hb
            · rename_i z; rw [z]; exact hp
            · exact absurd rfl hb
          · unfold upd at e ⊢
            split at e
            · rename_i z; rw [if_pos z]; exact e
            · cases e
          · exact SqT.of upd_same
    | _ => cases h
  | none => exact atom hd h
  | bl b => exact atom hd h
  | int i => exact atom hd h
  | str s => exact atom hd h
  | _ => cases hd

/-! the clauses -/
def tsH (K : PySem.W.Frag) (cA : Nat → Addr) : List (Nat × Option Nat × List S) → List (Value × (Addr → Value → Option Addr → TS))
  | [] => []
  | (k, _, [.ret e]) :: r => (.ref (cA k), fun _ _ _ => match cstE e with
      | some d => tRet (tCst K d)
      | none => fun _ _ _ => False) :: tsH K cA r
  | _ :: r => tsH K cA r
theorem hds_ok (hX : At nm T cA fA n W X) : ∀ {hs : List (Nat × Option Nat × List S)} {hds : List ExceptHandler}, chkH nm.ex X.env.scope hs hds = true → L2N.HdsOk X hds (tsH X.K cA hs)
  | [], [], _ => .nil
  | [], _ :: _, h => by unfold chkH at h; cases h
  | q :: hs, hds, h => by
    unfold chkH at h
    split at h
    · rename_i e; cases e
    · rename_i k e r x np a p1 p2 r' e1
      cases e1
      simp only [Bool.and_eq_true] at h
      obtain ⟨h1, h2, h3⟩ := h
      obtain ⟨g1, g2, g3⟩ := isGl_spec h1
      obtain ⟨x1, _, _, _⟩ := hX.exn k x g1
      unfold tsH
      refine .cons ⟨g2, g3, .inl x1⟩ (fun a' oe cls d pn _ _ => ?_) (hds_ok hX h3)
      cases hc : cstE e with
      | none => exact (pss_cons (ps_never) pss_nil).mono fun D σ H q => q
      | some d => exact (pss_cons (ps_ret (c_pe (X := X.suite a' ((a', oe) :: pn)) h2 hc)) pss_nil).mono fun D σ H q => q
    · cases h
/-- a new thing that needs nobody is given back -/
theorem ret_new {σ : L2.St} {F H F' H' : Hp} {env : Env} {Af : Nat → List Addr} {is : List Nat} {d : D} {D : Ends} {v : V} {G N : Hp} (s : SR X.K F H σ env Af) (p : PF X.K cA W is σ F H Af (.ok (.ret (.val d), ownFree env)) D) (e1 : Ex F F') (e2 : Ex F' H') (fr : ∀ a o, H a = some o → ¬ Own Af a → H' a = some o) (dm : ∀ a, H a ≠ none → H' a ≠ none)
    (hG : Ex H' G) (hn : ∀ a, N a ≠ none → H' a = none) (hNG : Ex N G) (rv : Rep X.K N v d) : D.rt v G := by
  let F2 : Hp := fun a => match F a with
    | some o => some o
    | none => N a
  have fn : ∀ a, F a ≠ none → H' a ≠ none := fun a h => by
    cases q : F a with
    | none => exact absurd q h
    | some o => rw [e2 a o (e1 a o q)]; exact fun z => nomatch z
  have eF : Ex F F2 := fun a o h => by show (match F a with | some o => some o | none => N a) = _; rw [h]
  have eN : Ex N F2 := fun a o h => by
    show (match F a with | some o => some o | none => N a) = _
    cases q : F a with
    | none => exact h
    | some u => exact absurd (hn a (by rw [h]; exact fun z => nomatch z)) (fn a (by rw [q]; exact fun z => nomatch z))
  have eG : Ex F2 G := fun a o h => by
    have h : (match F a with | some o => some o | none => N a) = some o := h
    cases q : F a with
    | none => rw [q] at h; exact hNG a o h
    | some u => rw [q] at h; cases h; exact hG a o (e2 a o (e1 a o q))
  have sr : SR X.K F2 G σ (ownFree env) (fun _ => []) := by
    refine ⟨eG, ?_, fun i o h => ?_, fun _ => .nil, fun _ _ _ h => (nomatch h), fun _ _ h => (nomatch h), fun _ _ h => (nomatch h)⟩
    · unfold ownFree; rw [List.length_map]; exact s.len
    · unfold ownFree at h
      rw [List.getElem?_map] at h
      cases q : env[i]? with
      | none => rw [q] at h; cases h
      | some u =>
        rw [q] at h
        cases u with
        | none => cases h
        | some u =>
          cases u with
          | val d' =>
            cases h
            obtain ⟨w, w1, w2⟩ := s.at_ i _ q
            exact ⟨w, w1, .val ((RO.val_inv w2).1.mono eF)⟩
          | _ => cases h
  have st : Stp F H Af F2 G (fun _ => []) [] := by
    refine ⟨eF, fun a o h hno => hG a o (fr a o h hno), fun a h => ?_, fun a h => ?_, fun a ⟨_, h⟩ => (nomatch h), fun _ h => (nomatch h)⟩
    · have := dm a h
      cases q : H' a with
      | none => exact absurd q this
      | some o => rw [hG a o q]; exact fun z => nomatch z
    · have h : (match F a with | some o => some o | none => N a) ≠ none := h
      cases q : F a with
      | some u => exact .inl fun z => nomatch z
      | none =>
        rw [q] at h
        refine .inr (.inl (Classical.byContradiction fun z => dm a z (hn a h)))
  exact p v σ F2 G (fun _ => []) [] (Same.refl _ _) sr st (.val (rv.mono eN)) .nil fun _ z => nomatch z
theorem chkH_none {ex : List Str} {sc : Scope} : ∀ {hs : List (Nat × Option Nat × List S)} {hds : List ExceptHandler}, chkH ex sc hs hds = true → ∀ q ∈ hs, q.2.1 = none
  | [], _, _, q, hq => by cases hq
  | q0 :: hs, hds, h, q, hq => by
    unfold chkH at h
    split at h
    · rename_i e; cases e
    · rename_i k e r x np a p1 p2 r' e1
      cases e1
      simp only [Bool.and_eq_true] at h
      rcases List.mem_cons.mp hq with rfl | hq
      · rfl
      · exact chkH_none h.2.2 q hq
    · cases h
/-- a wish that does not look at the slots -/
def clW (W : WX) : WX := fun c d _ H => ∀ σ, W c d σ H
theorem ps_tryC (hX : AtF nm T cA fA n W X) {b : List S} {hs : List (Nat × Option Nat × List S)} {body : List Stmt} {h₀ : ExceptHandler} {hds : List ExceptHandler} {pos : Pos}
    (HT : ∀ (W' : WX) (pn : List (Addr × Obj)) (xe : Value → Shared → Prop), L2N.Takes (X.tr pn xe) W' → PassesOwn (model X.prog X.w) X.A X.env xe → (∀ c d σ σ' H, W' c d σ H → W' c d σ' H) → PSs (X.tr pn xe) body (TS' X cA W' (asgds b) (exN T n b)))
    (hh : chkH nm.ex X.env.scope hs (h₀ :: hds) = true) : PS X (.Try body (h₀ :: hds) [] [] pos) (TS' X cA W (asgd (.tryS b hs)) (one T (evN T n) (exN T n) (.tryS b hs))) := by
  refine (L2N.ps_try_many (tb := fun W' => TS' X cA (clW W') (asgds b) (exN T n b)) hX.stk hX.frm hX.tk (fun W' pn xe tk po => HT (clW W') pn xe (tk.imp fun c d σ H z => z σ) po fun c d σ σ' H z => z) (hds_ok hX.toAt hh)).mono fun D σ H q => ?_
  obtain ⟨F, Af, env, s, p⟩ := q
  refine ⟨F, Af, env, s, ?_⟩
  have p : PF X.K cA W (asgds b ++ asgdh hs) σ F H Af (if asgds b = [] then match exN T n b env with
    | .ok p => .ok p
    | .stuck => .stuck
    | .err c => handle T c env hs
    else .stuck) D := p
  split at p
  · rename_i hb
    have sub : ∀ i ∈ asgds b, i ∈ asgds b ++ asgdh hs := fun i hi => List.mem_append_left _ hi
    cases he : exN T n b env with
    | stuck => rw [he] at p; exact p.elim
    | ok z =>
      rw [he] at p
      have p := PF.mono (js := asgds b) sub p
      obtain ⟨fl, env'⟩ := z
      cases fl <;> exact p
    | err c =>
      rw [he] at p
      have p : PF X.K cA W (asgds b ++ asgdh hs) σ F H Af (handle T c env hs) D := p
      intro σ' F' H' e1 e2 fr dm σ''
      show L2.wMany X.K W D (tsH X.K cA hs) (.ref (cA c)) none σ'' H'
      suffices key : ∀ (hs : List (Nat × Option Nat × List S)) (is : List Nat), (∀ q ∈ hs, q.2.1 = none) → PF X.K cA W is σ F H Af (handle T c env hs) D → L2.wMany X.K W D (tsH X.K cA hs) (.ref (cA c)) none σ'' H' from key hs _ (chkH_none hh) p
      clear hh he p
      intro hs is
      induction hs with
      | nil => exact fun _ p => p σ'' F' H' e1 e2 fr dm
      | cons q r ih =>
        intro hq p
        have ih := fun p => ih (fun q h => hq q (List.mem_cons_of_mem _ h)) p
        unfold Ev.handle at p
        split at p
        · rename_i z; cases z
        · rename_i k e r' z
          cases z
          split at p
          · rename_i hk
            have p : PF X.K cA W is σ F H Af (if T.sub c k then match cstE e with
              | some d => .ok (.ret (.val d), ownFree env)
              | none => .stuck
              else handle T c env r) D := p
            unfold tsH
            refine ⟨T.sub c k, hX.exm c k hk.1 hk.2, fun hb1 a ha => ?_, fun hb1 => ?_⟩
            · rw [if_pos hb1] at p
              cases hc : cstE e with
              | none => rw [hc] at p; exact p.elim
              | some d =>
                rw [hc] at p
                have p : PF X.K cA W is σ F H Af (.ok (.ret (.val d), ownFree env)) D := p
                exact fun v G N hG hn hNG rv => ret_new s p e1 e2 fr dm hG hn hNG rv
            · rw [hb1] at p
              exact ih p
          · exact p.elim
        · rename_i z
          cases z
          cases hq _ List.mem_cons_self
        · exact p.elim
  · exact p.elim
/-! except X as e: return f(e) -/
def tsA (T : Tab) (cA : Nat → Addr) (n g i : Nat) : Addr → Value → Option Addr → TS := fun a cls d D σ H => 0 < n ∧ (∃ σ0 : L2.St, σ = σ0.set i (some (V.ref a))) ∧ ∃ c, c < T.nx ∧ cls = .ref (cA c) ∧ d = none ∧ ∀ q, H q = none → D.rt (.ref q) (upd H q (.lst ((T.fl g c).map V.bl)))
theorem suiteA (hX : AtF nm T cA fA n W X) {g i : Nat} {f m : Str} {fp mp cp rp : Pos} (hf : isGl nm.fl X.env.scope g f = true) (om : okN m = true) (hN : X.N[i]? = some m) (hl : X.env.scope.names.lookup m = some .local) (a : Addr) (oe : Obj) (cls : Value) (d : Option Addr) (pn : List (Addr × Obj)) (hz : L2N.Zn cls d oe) (hv : ∃ vs, oe.data = .fields vs) :
    PSs (X.suite a ((a, oe) :: pn)) [.Return (some (.Call (.Name f fp) [.Name m mp] [] cp)) rp] (tsA T cA n g i a cls d) := by
  refine ⟨fun pins s σ H D I h => ?_⟩
  obtain ⟨n0, ⟨σ0, hσ⟩, c, hc, rfl, rfl, q⟩ := h
  obtain ⟨f1, f2, f3⟩ := isGl_spec hf
  obtain ⟨fa, fd, ps, m1, m2, m3, m4⟩ := hX.flg g f f1
  have F := m4 c (a, oe) hc hz.1 hz.2.1 hv
  have om' := okN_spec om
  have hi : i < X.N.length := (List.getElem?_eq_some_iff.mp hN).1
  have hs : σ[i]? = some (some (V.ref a)) := by
    have hlen : σ.length = X.N.length := I.len
    rw [hσ] at hlen ⊢
    rw [List.length_set] at hlen
    rw [List.getElem?_set_self (by omega)]
  have rm : L2H.RoomH 1 X.A := L2H.roomH_of (hX.room.mono n0)
  have ht : L2H.Hot1 (X.suite a ((a, oe) :: pn)).A (a, oe) := by
    obtain ⟨vs, e⟩ := hv
    exact ⟨rfl, vs, e, hz.2.2 vs e⟩
  have pe := pe_hot (X := X.suite a ((a, oe) :: pn)) (x := f) (q := fp) (pos := cp) (E := fun _ _ _ _ => False) F ⟨rm.dp, rm.un⟩ ht List.mem_cons_self f2 m1 m2 m3 (fun σ pins H s e s' I c => by obtain ⟨_, _, _, _, _, _, _, _, _, _, _, _, z⟩ := c; exact z)
    (pa_cons (pe_var (X := X.suite a ((a, oe) :: pn)) (pos := mp) hN (.inl hl) om'.1 om'.2.1) pa_nil rfl) f3 rfl rfl
  refine (pss_cons (ps_ret pe) pss_nil).run pins s σ H D I ?_
  exact ⟨V.ref a, hs, rfl, q⟩
theorem ps_tryA (hX : AtF nm T cA fA n W X) {b : List S} {hs : List (Nat × Option Nat × List S)} {body : List Stmt} {hds : List ExceptHandler} {pos : Pos}
    (HT : ∀ (W' : WX) (pn : List (Addr × Obj)) (xe : Value → Shared → Prop), L2N.Takes (X.tr pn xe) W' → PassesOwn (model X.prog X.w) X.A X.env xe → (∀ c d σ σ' H, W' c d σ H → W' c d σ' H) → PSs (X.tr pn xe) body (TS' X cA W' (asgds b) (exN T n b)))
    (hh : chkHA nm X.N X.env.scope hs hds = true) : PS X (.Try body hds [] [] pos) (TS' X cA W (asgd (.tryS b hs)) (one T (evN T n) (exN T n) (.tryS b hs))) := by
  unfold chkHA at hh
  split at hh
  · rename_i k i g j x xp m f fp m' mp cp rp hp
    simp only [Bool.and_eq_true, decide_eq_true_eq] at hh
    obtain ⟨h1, h2, rfl, rfl, h3, h4, h5⟩ := hh
    obtain ⟨g1, g2, g3⟩ := isGl_spec h1
    obtain ⟨x1, _, _, _⟩ := hX.exn k x g1
    refine (L2N.ps_try_as (tb := fun W' => TS' X cA (clW W') (asgds b) (exN T n b)) (ts := tsA T cA n g i) (c := .ref (cA k)) hX.stk hX.frm hX.nd h4 h5 ⟨g2, g3, .inl x1⟩ hX.tk (fun W' pn xe tk po => HT (clW W') pn xe (tk.imp fun c d σ H z => z σ) po fun c d σ σ' H z => z) (fun a oe cls d pn hz hv => suiteA hX h2 h3 h4 h5 a oe cls d pn hz hv)).mono fun D σ H q => ?_
    obtain ⟨F, Af, env, s, p⟩ := q
    refine ⟨F, Af, env, s, ?_⟩
    have p : PF X.K cA W (asgds b ++ asgdh [(k, some i, [.ret (.flg g i)])]) σ F H Af (if asgds b = [] then match exN T n b env with
      | .ok p => .ok p
      | .stuck => .stuck
      | .err c => handle T c env [(k, some i, [.ret (.flg g i)])]
      else .stuck) D := p
    split at p
    · rename_i hb
      have sub : ∀ z ∈ asgds b, z ∈ asgds b ++ asgdh [(k, some i, [.ret (.flg g i)])] := fun z hz => List.mem_append_left _ hz
      cases he : exN T n b env with
      | stuck => rw [he] at p; exact p.elim
      | ok z =>
        rw [he] at p
        have p := PF.mono (js := asgds b) sub p
        obtain ⟨fl, env'⟩ := z
        cases fl with
        | next => exact fun σ' F' H' Af' m s' t => p σ' F' H' Af' m s' t
        | ret o => exact p
        | brk => exact p
        | cont => exact p
      | err c =>
        rw [he] at p
        have n0 : 0 < n := by
          cases n with
          | zero => cases he
          | succ n => exact Nat.succ_pos n
        have p : PF X.K cA W (asgds b ++ asgdh [(k, some i, [.ret (.flg g i)])]) σ F H Af (if (c < T.nx ∧ k < T.nx) ∧ i = i then
          if T.sub c k then .ok (.ret (.val (.list ((T.fl g c).map .bool))), ownFree env) else .err c
          else .stuck) D := p
        intro σ' F' H' e1 e2 fr dm σ''
        split at p
        · rename_i hk
          refine ⟨T.sub c k, hX.exm c k hk.1.1 hk.1.2, fun hb1 a ha => ?_, fun hb1 => ?_⟩
          · rw [if_pos hb1] at p
            refine ⟨n0, ⟨σ'', rfl⟩, c, hk.1.1, rfl, rfl, fun q hq => ?_⟩
            show D.rt _ _
            refine ret_new (W := W) (cA := cA) (D := D) (N := upd (fun _ => none) q (.lst ((T.fl g c).map V.bl))) s p e1 e2 fr dm (upd_ex hq) (fun z hz => ?_) (fun z u e => ?_) (.lst upd_same (rep_bools _ _))
            · unfold upd at hz
              split at hz
              · rename_i w; rw [w]; exact hq
              · exact absurd rfl hz
            · unfold upd at e ⊢
              split at e
              · rename_i w; rw [if_pos w]; exact e
              · cases e
          · rw [hb1] at p
            exact p σ'' F' H' e1 e2 fr dm
        · exact p.elim
    · exact p.elim
  · cases hh
end
end Ev

end
section
set_option autoImplicit false
set_option linter.all false
set_option maxRecDepth 100000
/-! The evaluator is sound: statements. -/
namespace Ev
open PySem L2 PyProof.Rows RZ

section
variable {nm : Names} {T : Tab} {cA fA : Nat → Addr} {n : Nat} {W : WX} {X : Cx}
theorem kind_eq (y : Str) : (X.env.kindOf y == some NameKind.local) = decide (X.env.scope.names.lookup y = some .local) := by
  unfold PySem.Env.kindOf
  cases X.env.scope.names.lookup y with
  | none => rfl
  | some k => cases k <;> rfl
theorem swN_spec (hk : X.env.scope.kind = .function) {tg value : Expr} (h : swN X.env.scope tg value = true) : swappedStores [tg] value X.env = pure none := by
  have hb : X.env.blockKind = .function := by unfold PySem.Env.blockKind; rw [hk]; rfl
  unfold swappedStores
  cases tg with
  | Tuple ts k p =>
    cases value with
    | Tuple vs k2 p2 =>
      have h : (!(ts.length == 2 || ts.length == 3) || (vs.length != ts.length || ((ts.filterMap (nameAt X.env.scope ((ts.head?.map (·.pos.line)).getD 0))).length != ts.length || vs.all (foldedForSure 8)))) = true := h
      simp only [hb]
      by_cases h1 : (!(ts.length == 2 || ts.length == 3) || vs.length != ts.length) = true
      · simp only [h1, Bool.true_or, if_true]
      · have h1 : (!(ts.length == 2 || ts.length == 3) || vs.length != ts.length) = false := by simpa using h1
        rw [← Bool.or_assoc, h1, Bool.false_or] at h
        simp only [h1]
        rw [if_neg (by decide)]
        split
        · rfl
        · rcases (Bool.or_eq_true _ _).mp h with h | h
          · exact if_pos ((Bool.or_eq_true _ _).mpr (.inl h))
          · split
            · rfl
            · first | rfl | exact if_pos h
    | _ => rfl
  | List es p =>
    cases value with
    | Tuple vs k2 p2 => cases h
    | _ => rfl
  | _ => rfl
theorem parB2_spec (hk : X.env.scope.kind = .function) {x y : Str} {px py pt pt2 : Pos} {kt k2 : Nat} {a b : Expr} (ha : noStar a = true) (hb : noStar b = true) (hx : X.env.scope.names.lookup x = some .local) (hy : X.env.scope.names.lookup y = some .local) (hl : (py.line == px.line) = true) (hxy : x ≠ y)
    (h1 : ([a, b].all (foldedForSure 8)) = false) (h2 : ([a, b].all (constantsAlone 8)) = false) : swappedStores [.Tuple [.Name x px, .Name y py] kt pt] (.Tuple [a, b] k2 pt2) X.env = pure (some [x, y]) := by
  have hbk : X.env.blockKind = .function := by unfold PySem.Env.blockKind; rw [hk]; rfl
  have kx : (X.env.kindOf x == some NameKind.local) = true := by rw [kind_eq, hx]; rfl
  have ky : (X.env.kindOf y == some NameKind.local) = true := by rw [kind_eq, hy]; rfl
  have e : ∀ f : Expr → Option Str, f (.Name x px) = some x → f (.Name y py) = some y → [Expr.Name x px, Expr.Name y py].filterMap f = [x, y] := fun f h1 h2 => by
    rw [List.filterMap_cons_some h1, List.filterMap_cons_some h2, List.filterMap_nil]
  have hd : ([x, y] : List Str).eraseDups = [x, y] := by
    have : (y == x) = false := beq_eq_false_iff_ne.mpr (Ne.symm hxy)
    rw [List.eraseDups_cons, List.filter_cons, this]
    rfl
  unfold swappedStores
  simp only [hbk]
  refine Eq.trans (if_neg (fun z => Bool.noConfusion (show false = true from z))) ?_
  refine Eq.trans (if_neg (fun z => ?_)) ?_
  · simp only [List.any_cons, List.any_nil, Bool.or_false, Bool.or_eq_true] at z
    rcases z with z | z
    · cases a <;> first | (cases ha; done) | exact Bool.noConfusion (show false = true from z)
    · cases b <;> first | (cases hb; done) | exact Bool.noConfusion (show false = true from z)
  rw [e _ (by
    show (if (X.env.kindOf x == some NameKind.local && px.line == px.line) = true then some x else none) = some x
    rw [kx, beq_self_eq_true]; rfl) (by
    show (if (X.env.kindOf y == some NameKind.local && py.line == px.line) = true then some y else none) = some y
    rw [ky, hl]; rfl)]
  refine Eq.trans (if_neg (fun z => ?_)) ?_
  · rw [hd] at z; exact Bool.noConfusion (show false = true from z)
  refine Eq.trans (if_neg (by rw [h1]; decide)) ?_
  exact Eq.trans (if_neg (by rw [h2]; decide)) rfl
theorem parB3_spec (hk : X.env.scope.kind = .function) {x y u : Str} {px py pu pt pt2 : Pos} {kt k2 : Nat} {a b c : Expr} (ha : noStar a = true) (hb : noStar b = true) (hc : noStar c = true) (hx : X.env.scope.names.lookup x = some .local) (hy : X.env.scope.names.lookup y = some .local) (hu : X.env.scope.names.lookup u = some .local)
    (hl : (py.line == px.line) = true) (hl2 : (pu.line == px.line) = true) (hxy : x ≠ y) (hxu : x ≠ u) (hyu : y ≠ u)
    (h1 : ([a, b, c].all (foldedForSure 8)) = false) (h2 : ([a, b, c].all (constantsAlone 8)) = false) : swappedStores [.Tuple [.Name x px, .Name y py, .Name u pu] kt pt] (.Tuple [a, b, c] k2 pt2) X.env = pure (some [x, y, u]) := by
  have hbk : X.env.blockKind = .function := by unfold PySem.Env.blockKind; rw [hk]; rfl
  have kx : (X.env.kindOf x == some NameKind.local) = true := by rw [kind_eq, hx]; rfl
  have ky : (X.env.kindOf y == some NameKind.local) = true := by rw [kind_eq, hy]; rfl
  have ku : (X.env.kindOf u == some NameKind.local) = true := by rw [kind_eq, hu]; rfl
  have e : ∀ f : Expr → Option Str, f (.Name x px) = some x → f (.Name y py) = some y → f (.Name u pu) = some u → [Expr.Name x px, Expr.Name y py, Expr.Name u pu].filterMap f = [x, y, u] := fun f h1 h2 h3 => by
    rw [List.filterMap_cons_some h1, List.filterMap_cons_some h2, List.filterMap_cons_some h3, List.filterMap_nil]
  have hd : ([x, y, u] : List Str).eraseDups = [x, y, u] := by
    have e1 : (y == x) = false := beq_eq_false_iff_ne.mpr (Ne.symm hxy)
    have e2 : (u == x) = false := beq_eq_false_iff_ne.mpr (Ne.symm hxu)
    have e3 : (u == y) = false := beq_eq_false_iff_ne.mpr (Ne.symm hyu)
    rw [List.eraseDups_cons, List.filter_cons, e1, List.filter_cons, e2]
    show x :: ([y, u] : List Str).eraseDups = _
    rw [List.eraseDups_cons, List.filter_cons, e3]
    rfl
  unfold swappedStores
  simp only [hbk]
  refine Eq.trans (if_neg (fun z => Bool.noConfusion (show false = true from z))) ?_
  refine Eq.trans (if_neg (fun z => ?_)) ?_
  · simp only [List.any_cons, List.any_nil, Bool.or_false, Bool.or_eq_true] at z
    rcases z with z | z | z
    · cases a <;> first | (cases ha; done) | exact Bool.noConfusion (show false = true from z)
    · cases b <;> first | (cases hb; done) | exact Bool.noConfusion (show false = true from z)
    · cases c <;> first | (cases hc; done) | exact Bool.noConfusion (show false = true from z)
  rw [e _ (by
    show (if (X.env.kindOf x == some NameKind.local && px.line == px.line) = true then some x else none) = some x
    rw [kx, beq_self_eq_true]; rfl) (by
    show (if (X.env.kindOf y == some NameKind.local && py.line == px.line) = true then some y else none) = some y
    rw [ky, hl]; rfl) (by
    show (if (X.env.kindOf u == some NameKind.local && pu.line == px.line) = true then some u else none) = some u
    rw [ku, hl2]; rfl)]
  refine Eq.trans (if_neg (fun z => ?_)) ?_
  · rw [hd] at z; exact Bool.noConfusion (show false = true from z)
  refine Eq.trans (if_neg (by rw [h1]; decide)) ?_
  exact Eq.trans (if_neg (by rw [h2]; decide)) rfl

/-! one statement -/
theorem as_any (hX : AtF nm T cA fA n W X) {ev : E → Env → Res (O × Env)} {t : Tgt} {e : E} {tg a : Expr} {pos : Pos} (se : SE X cA W ev e a) (ht : chkT X.N X.env.scope t tg = true) (hw : swN X.env.scope tg a = true) (hv : okV a = true) :
    PS X (.Assign [tg] a pos) (tAsg (TO X cA W (ev e)) (gT X.K t)) := by
  have hg := g_tgt hX.nd hX.calm hX.cel t ht
  have hw := swN_spec (X := X) hX.kind hw
  have h1 : (assignEach [tg] X.env).map (·.2) = [assign tg X.env] := by
    cases t with
    | nm i => cases tg with
      | Name x p => rfl
      | _ => cases ht
    | tup ts => cases tg with
      | Tuple es k p => rfl
      | _ => cases ht
  cases t with
  | nm i =>
    cases tg with
    | Name x p =>
      have ht : isLc X.N X.env.scope i x = true := ht
      unfold isLc at ht
      rw [Bool.and_eq_true, decide_eq_true_eq] at ht
      have hs := swapsWith_as (X := X) (value := a) (t := x) (py := p) (l := pos.line) hX.kind hv
      cases hb : swB X.env.scope (.Name x p) a with
      | false =>
        rw [hb] at hs
        exact ps_asg se.pe hg hs hw h1
      | true =>
        rw [hb] at hs
        cases a with
        | ListComp elt gs s p2 =>
          have hb : (decide (X.env.scope.names.lookup x = some .local) && (p.line == p2.line) && !(s.names.any (fun (n, k) => n == x && (k == .local || k == .cell)))) = true := hb
          simp only [Bool.and_eq_true, decide_eq_true_eq] at hb
          exact se.as_ i x p pos rfl ht.2 hb.1.1 hs
        | _ => cases hb
    | _ => cases ht
  | tup ts =>
    cases tg with
    | Tuple es k p =>
      refine ps_asg se.pe hg ?_ hw h1
      cases a <;> first | rfl | cases hv
    | _ => cases ht
theorem s_one (hX : AtF nm T cA fA (n + 1) W X) {blk : List S → List Stmt → Bool} (HB : ∀ ss sts, blk ss sts = true → PSs X sts (TS' X cA W (asgds ss) (exN T n ss))) (HT : ∀ (W' : WX) (pn : List (Addr × Obj)) (xe : Value → Shared → Prop), L2N.Takes (X.tr pn xe) W' → PassesOwn (model X.prog X.w) X.A X.env xe → (∀ c d σ σ' H, W' c d σ H → W' c d σ' H) → ∀ ss sts, blk ss sts = true → PSs (X.tr pn xe) sts (TS' X cA W' (asgds ss) (exN T n ss))) {s : S} {st : Stmt} (h : chkS1 nm X.N (chkE nm X.N 60) blk X.env.scope s st = true) : PS X st (TS' X cA W (asgd s) (one T (evN T n) (exN T n) s)) := by
  have hA : At nm T cA fA n W X := hX.toAt.down (Nat.le_succ n)
  have hF : AtF nm T cA fA n W X := ⟨hA, hX.kind, hX.cel, hX.po, hX.stk, hX.frm⟩
  have ih : ∀ e a, chkE nm X.N 60 X.env.scope e a = true → SE X cA W (evN T n) e a := sE n X W hA 60
  cases s with
  | asg t e =>
    simp only [chkS1] at h
    split at h
    · simp only [Bool.and_eq_true] at h
      obtain ⟨h1, h2, h3, h4⟩ := h
      exact (as_any hF (ih _ _ h4) h1 h2 h3).mono fun D σ H q => s_asg (fun σ H Q z => TG.freeze z) q
    · cases h
  | asgO i e =>
    simp only [chkS1] at h
    split at h
    · simp only [Bool.and_eq_true] at h
      obtain ⟨h1, h2, h3, h4⟩ := h
      exact (as_any (t := .nm i) hF (ih _ _ h4) h1 h2 h3).mono fun D σ H q => s_asgO (fun σ H Q z => z) q
    · cases h
  | par is own es =>
    simp only [chkS1] at h
    split at h
    · rw [Bool.and_eq_true] at h
      obtain ⟨k1, k2⟩ := a_os hA (fun e a q => (ih e a q).pe) own es _ h.2
      have h := h.1
      unfold parB at h
      split at h
      · simp only [Bool.and_eq_true, decide_eq_true_eq, Bool.not_eq_true'] at h
        obtain ⟨⟨⟨⟨⟨⟨⟨⟨h1, h2⟩, h3⟩, h4⟩, h5⟩, h6⟩, h7⟩, h8⟩, h9⟩ := h
        unfold isLc at h1 h2
        simp only [Bool.and_eq_true, decide_eq_true_eq] at h1 h2
        simp only [List.all_cons, List.all_nil, Bool.and_true, Bool.and_eq_true] at k2
        refine (ps_par hX.calm hX.nd h1.2 h2.2 h3 h4 h5 k1 (parB2_spec hX.kind k2.1 k2.2 h4 h5 h6 h7 h8 h9)).mono fun D σ H q => ?_
        refine TG.imp (s_par q) fun vs H1 z => ?_
        obtain ⟨z1, z2⟩ := z
        match vs, z1 with
        | [v, w], _ => exact ⟨v, w, rfl, z2⟩
      · simp only [Bool.and_eq_true, decide_eq_true_eq, Bool.not_eq_true'] at h
        obtain ⟨⟨⟨⟨⟨⟨⟨⟨⟨⟨⟨⟨⟨⟨⟨h1, h2⟩, h3⟩, h4⟩, h5⟩, h6⟩, h7⟩, h8⟩, h9⟩, h10⟩, h11⟩, h12⟩, h13⟩, h14⟩, h15⟩, h16⟩ := h
        unfold isLc at h1 h2 h3
        simp only [Bool.and_eq_true, decide_eq_true_eq] at h1 h2 h3
        simp only [List.all_cons, List.all_nil, Bool.and_true, Bool.and_eq_true] at k2
        refine (ps_par3 hX.calm hX.nd h1.2 h2.2 h3.2 h4 h5 h6 h7 h8 h9 k1 (parB3_spec hX.kind k2.1 k2.2.1 k2.2.2 h7 h8 h9 h10 h11 h12 h13 h14 h15 h16)).mono fun D σ H q => ?_
        refine TG.imp (s_par q) fun vs H1 z => ?_
        obtain ⟨z1, z2⟩ := z
        match vs, z1 with
        | [v, w, u], _ => exact ⟨v, w, u, rfl, z2⟩
      · cases h
    · cases h
  | setIx i ix e =>
    simp only [chkS1] at h
    split at h
    · simp only [Bool.and_eq_true] at h
      obtain ⟨h1, h2, h3, h4, h5⟩ := h
      obtain ⟨v1, v2, v3, v4⟩ := isVr_spec h2
      rename_i x px c ps a pos
      have hg := pg_sub (pos := ps) (pe_var (pos := px) v1 v2 v3 v4) (ih _ _ h3).pe.toD (set_list (X := X)) (by cases c <;> first | (intro _; rfl) | cases h1)
      refine (ps_asg (ih _ _ h5).pe.toD hg (by cases a <;> first | rfl | cases h4) ?_ rfl).mono fun D σ H q => s_setIx q
      refine swN_spec hX.kind ?_
      unfold swN
      cases a <;> rfl
    · cases h
  | aug i o e =>
    simp only [chkS1] at h
    split at h
    · simp only [Bool.and_eq_true, decide_eq_true_eq] at h
      obtain ⟨h1, h2, h3⟩ := h
      unfold isLc at h1
      rw [Bool.and_eq_true, decide_eq_true_eq] at h1
      have hl := hX.cel _ h1.1
      cases o with
      | add =>
        cases h2
        exact (ps_aug hX.nd h1.2 hl.1 (ih _ _ h3).pe.toD ip_add hl.2).mono fun D σ H q => s_aug (fun _ _ => rfl) q
      | sub =>
        cases h2
        exact (ps_aug hX.nd h1.2 hl.1 (ih _ _ h3).pe.toD ip_sub hl.2).mono fun D σ H q => s_aug (fun _ _ => rfl) q
      | _ => cases h2
    · cases h
  | app i e =>
    simp only [chkS1] at h
    split at h
    · simp only [Bool.and_eq_true, decide_eq_true_eq] at h
      obtain ⟨rfl, h2, h3, h4, h5⟩ := h
      obtain ⟨v1, v2, v3, v4⟩ := isVr_spec h2
      refine (ps_expr (pe_bm PySem.F.plainAttrs_list PySem.F.slot_list_append PySem.F.type_list_append mt_append (pe_var v1 v2 v3 v4) (pa_cons (ih _ _ h5).pe.toD pa_nil (star1 h3 _ _)) rfl ?_ h4 (star1 h3 _ _) rfl) rfl).mono fun D σ H q => s_app q
      rw [star1 h3]; rfl
    · cases h
  | expr e =>
    simp only [chkS1] at h
    split at h
    · rw [Bool.and_eq_true] at h
      refine (ps_expr (ih _ _ h.2).pe ?_).mono fun D σ H q => s_expr q
      rename_i a pos
      cases a <;> first | rfl | cases h.1
    · cases h
  | ifS c a b =>
    simp only [chkS1] at h
    split at h
    · simp only [Bool.and_eq_true] at h
      exact (ps_if (ih _ _ h.1).pt (HB _ _ h.2.1) (HB _ _ h.2.2)).mono fun D σ H q => s_if q
    · cases h
  | forS t it b =>
    simp only [chkS1] at h
    split at h
    · simp only [Bool.and_eq_true] at h
      obtain ⟨h1, h2, h3, h4, h5⟩ := h
      refine (ps_for hX.po hX.calm (i_any hX.toAt ih h1 fun hn => tup_tgt h3 (needs_tup h2 hn)) (g_tgt hX.nd hX.calm hX.cel t h3) (HB _ _ h5) (plain_fold h4 _)).mono fun D σ H q => s_for q
    · cases h
  | whileS c b =>
    simp only [chkS1] at h
    split at h
    · rw [Bool.and_eq_true] at h
      exact (ps_while hX.po (ih _ _ h.1).pt (HB _ _ h.2)).mono fun D σ H q => s_while q
    · cases h
  | ret e =>
    simp only [chkS1] at h
    split at h
    · exact (ps_ret (ih _ _ h).pe.toD).mono fun D σ H q => s_ret q
    · split at h
      · refine ps_retN.mono fun D σ H ⟨F, Af, env, s, p⟩ => ?_
        cases n with
        | zero => exact p.elim
        | succ n => exact p .non σ F H Af [] (Same.refl _ _) s Stp.refl (.val .non) .nil fun _ z => nomatch z
      · cases h
    · cases h
  | retO e =>
    simp only [chkS1] at h
    split at h
    · exact (ps_ret (ih _ _ h).pe).mono fun D σ H q => s_retO q
    · cases h
  | brk =>
    simp only [chkS1] at h
    split at h
    · exact ps_break.mono fun D σ H ⟨F, Af, env, s, p⟩ => p σ F H Af (Same.refl _ _) s Stp.refl
    · cases h
  | cont =>
    simp only [chkS1] at h
    split at h
    · exact ps_continue.mono fun D σ H ⟨F, Af, env, s, p⟩ => p σ F H Af (Same.refl _ _) s Stp.refl
    · cases h
  | pass =>
    simp only [chkS1] at h
    split at h
    · exact ps_pass.mono fun D σ H ⟨F, Af, env, s, p⟩ => p σ F H Af (Same.refl _ _) s Stp.refl
    · cases h
  | raise c =>
    simp only [chkS1] at h
    split at h
    · obtain ⟨h1, h2, h3⟩ := isGl_spec h
      obtain ⟨e1, e2, e3, e4⟩ := hX.exn c _ h1
      exact (L2N.ps_raise hX.calm hX.tk (L2N.pmk_own PySem.F.excBase_ValueError e2 e1 e3 e4 h2 h3)).mono fun D σ H q => s_raise q
    · cases h
  | tryS b hs =>
    simp only [chkS1] at h
    split at h
    · rw [Bool.and_eq_true] at h
      rw [Bool.or_eq_true] at h
      rcases h.2 with h2 | h2
      · exact (ps_tryC hF (fun W' pn xe tk po ww => HT W' pn xe tk po ww _ _ h.1) h2).mono fun D σ H q => q
      · exact (ps_tryA hF (fun W' pn xe tk po ww => HT W' pn xe tk po ww _ _ h.1) h2).mono fun D σ H q => q
    · cases h
  | _ => cases h
theorem PSs.mono' {sts : List Stmt} {t t' : L2.TS} (h : PSs X sts t) (m : ∀ D σ H, t' D σ H → t D σ H) : PSs X sts t' := h.mono m
theorem s_seq (hX : AtF nm T cA fA (n + 1) W X) {one' : S → Stmt → Bool} (H1 : ∀ s st, one' s st = true → PS X st (TS' X cA W (asgd s) (one T (evN T n) (exN T n) s))) : ∀ (ss : List S) (sts : List Stmt), chkSs one' ss sts = true → PSs X sts (TS' X cA W (asgds ss) (seqS (one T (evN T n) (exN T n)) ss))
  | [], [], _ => pss_nil.mono fun D σ H ⟨F, Af, env, s, p⟩ => p σ F H Af (Same.refl _ _) s Stp.refl
  | [], _ :: _, h => by cases h
  | s :: ss, sts, h => by
    by_cases hf : ∃ is, s = .frz is
    · obtain ⟨is, rfl⟩ := hf
      have h : chkSs one' ss sts = true := by cases sts <;> exact h
      refine (s_seq hX H1 ss sts h).mono fun D σ H ⟨F, Af, env, s, p⟩ => ?_
      obtain ⟨F', Af', s', t'⟩ := s.freezeAt is
      have p : PF X.K cA W (asgds ss) σ F H Af (seqS (one T (evN T n) (exN T n)) ss (freezeAt env is)) D := p
      exact ⟨F', Af', _, s', PF.step (js := []) (fun _ z => nomatch z) (Same.refl _ _) t' p⟩
    · cases sts with
      | nil => cases s <;> first | cases h | exact absurd ⟨_, rfl⟩ hf
      | cons st sts =>
        have h : (one' s st && chkSs one' ss sts) = true := by
          cases s <;> first | exact h | exact absurd ⟨_, rfl⟩ hf
        rw [Bool.and_eq_true] at h
        refine (pss_cons (H1 s st h.1) (s_seq hX H1 ss sts h.2)).mono fun D σ H ⟨F, Af, env, s0, p⟩ => ⟨F, Af, env, s0, ?_⟩
        have p : PF X.K cA W (asgd s ++ asgds ss) σ F H Af ((one T (evN T n) (exN T n) s env).bind fun p => match p.1 with
          | .next => seqS (one T (evN T n) (exN T n)) ss p.2
          | o => .ok (o, p.2)) D := p
        have hl : ∀ i ∈ asgd s, i ∈ asgd s ++ asgds ss := fun i hi => List.mem_append_left _ hi
        cases he : one T (evN T n) (exN T n) s env with
        | stuck => rw [he] at p; exact p
        | err c => rw [he] at p; exact p
        | ok z =>
          obtain ⟨fl, env1⟩ := z
          rw [he] at p
          cases fl with
          | next => exact fun σ1 F1 H1' Af1 m s1 t1 => ⟨F1, Af1, env1, s1, PF.mono (fun i hi => List.mem_append_right _ hi) (PF.step (js := asgd s) hl m t1 p)⟩
          | brk => exact fun σ5 F5 H5 Af5 m5 s5 t5 => p σ5 F5 H5 Af5 (m5.mono hl) s5 t5
          | cont => exact fun σ5 F5 H5 Af5 m5 s5 t5 => p σ5 F5 H5 Af5 (m5.mono hl) s5 t5
          | ret o => exact fun v σ5 F5 H5 Af5 C5 m5 s5 t5 r5 nd5 un5 => p v σ5 F5 H5 Af5 C5 (m5.mono hl) s5 t5 r5 nd5 un5
theorem sS : ∀ (n m : Nat) (X : Cx) (W : WX), AtF nm T cA fA n W X → ∀ ss sts, chkB nm X.N X.env.scope m ss sts = true → PSs X sts (TS' X cA W (asgds ss) (exN T n ss))
  | _, 0, _, _, _, _, _, h => by cases h
  | 0, m + 1, X, W, hX, ss, sts, h => ⟨fun pins s σ H D I ⟨F, Af, env, s', p⟩ => p.elim⟩
  | n + 1, m + 1, X, W, hX, ss, sts, h => s_seq hX (fun s st q => s_one hX (fun ss sts q => sS n m X W ⟨hX.toAt.down (Nat.le_succ n), hX.kind, hX.cel, hX.po, hX.stk, hX.frm⟩ ss sts q) (fun W' pn xe tk po ww ss sts q => sS n m (X.tr pn xe) W' ⟨((hX.toAt.down (Nat.le_succ n)).tr tk ww), hX.kind, hX.cel, po, hX.stk, hX.frm⟩ ss sts q) q) ss sts h
end
end Ev

end
section
set_option autoImplicit false
set_option linter.all false
set_option maxRecDepth 100000
/-! The evaluator is sound: defs. -/
namespace Ev
open PySem L2 PyProof.Rows RZ

/-- what the checks say of the text's defs -/
structure DefOk (P : Program) (w : World) (K : PySem.W.Frag) (mg : Str → Option Value) (nm : Names) (T : Tab) (f : Addr) (i : Nat) (x : Str) : Prop where
  ex : ∃ (fd : FuncData) (ps N : List Str) (y qual : Str) (params : Arguments) (body : List Stmt) (scope : Scope) (dvs : List V) (kws : List (Str × V)) (d : FDef), mg x = some (.ref f) ∧ PySem.W.keepIn K (.ref f) = true ∧ Binds K fd ps [] ∧ L2.FunD K y qual params body scope dvs kws f fd ∧
    FnScope N ps scope ∧ T.fs[i]? = some d ∧ d.np = ps.length ∧ d.ns = N.length ∧ chkB { nm with rp := false } N scope 40 d.body body = true
structure TextOk (P : Program) (w : World) (K : PySem.W.Frag) (mg : Str → Option Value) (nm : Names) (T : Tab) (cA fA : Nat → Addr) : Prop where
  blt : ∀ x ∈ nm.bl, mg x = none
  cst : ∀ (i : Nat) (x : Str), nm.cn[i]? = some x → ∃ (u : Value) (v : V) (d : D), mg x = some u ∧ RelV v u ∧ T.cs[i]? = some d ∧ Rep K (fun _ => none) v d
  defs : ∀ (i : Nat) (x : Str), nm.fn[i]? = some x → DefOk P w K mg nm T (fA i) i x
  exn : ∀ (c : Nat) (x : Str), nm.ex[c]? = some x → mg x = some (.ref (cA c)) ∧ PySem.W.excIn K (cA c) [.type "ValueError", .type "Exception", .type "BaseException", .type "object"] "ValueError.__new__" = true ∧ PySem.W.keepIn K (.ref (cA c)) = true ∧ PySem.W.subIn K (.ref (cA c)) (.type "BaseException") = some true ∧ PySem.W.typeIn K (.ref (cA c)) = some (.type "type")
  exm : ∀ c k, c < T.nx → k < T.nx → PySem.W.exmOne K (.ref (cA c)) (.ref (cA k)) = some (T.sub c k)
  flg : ∀ (g : Nat) (x : Str), nm.fl[g]? = some x → FlgOk K mg cA nm T g x
section
variable {P : Program} {w : World} {K : PySem.W.Frag} {mg : Str → Option Value} {base : Heap} {nm : Names} {T : Tab} {cA fA : Nat → Addr}
theorem start_sr {F H : Hp} {vs : List V} {os : List O} {Af : Nat → List Addr} {N : List Str} {d : FDef} (s : SR K F H (vs.map some) (os.map some) Af) (h1 : vs.length = d.np) (h2 : d.ns = N.length) : SR K F H (L2.start N vs) (os.map some ++ List.replicate (d.ns - d.np) none) Af := by
  have hl : vs.length = os.length := by have := s.len; rwa [List.length_map, List.length_map] at this
  refine ⟨s.ex, ?_, fun i o e => ?_, s.nd, s.dj, s.un, s.th⟩
  · unfold L2.start
    rw [List.length_append, List.length_append, s.len, List.length_replicate, List.length_replicate, h1, h2]
  · by_cases hi : i < os.length
    · rw [List.getElem?_append_left (by rw [List.length_map]; exact hi)] at e
      obtain ⟨v, q1, q2⟩ := s.at_ i o e
      refine ⟨v, ?_, q2⟩
      unfold L2.start
      rw [List.getElem?_append_left (by rw [List.length_map, hl]; exact hi)]
      exact q1
    · rw [List.getElem?_append_right (by rw [List.length_map]; omega), List.getElem?_replicate] at e
      split at e <;> cases e
theorem end_sr {F H : Hp} {vs : List V} {Af : Nat → List Addr} {N : List Str} {np : Nat} {σ' : L2.St} {env' : Env} {is : List Nat} (m : Same is (L2.start N vs) σ') (s : SR K F H σ' env' Af) (h1 : vs.length = np) (h2 : np ≤ N.length) : SR K F H (vs.map some) (wipeE (env'.take np) is) Af := by
  have hl : env'.length = N.length := by
    rw [← s.len, m.1]
    unfold L2.start
    rw [List.length_append, List.length_map, List.length_replicate, h1]; omega
  refine ⟨s.ex, ?_, fun i o e => ?_, s.nd, s.dj, s.un, s.th⟩
  · rw [wipeE_length, List.length_take, List.length_map, hl, h1]; omega
  · by_cases hi : i ∈ is
    · exact absurd e ((wipeE_get _ i is).2 hi o)
    · rw [(wipeE_get _ i is).1 hi] at e
      by_cases hn : i < np
      · rw [List.getElem?_take_of_lt hn] at e
        obtain ⟨v, q1, q2⟩ := s.at_ i o e
        refine ⟨v, ?_, q2⟩
        rw [m.2 i hi] at q1
        unfold L2.start at q1
        rw [List.getElem?_append_left (by rw [List.length_map, h1]; exact hn)] at q1
        exact q1
      · rw [List.getElem?_take, if_neg hn] at e
        cases e
theorem body_ok (h : TextOk P w K mg nm T cA fA) (rp : Bool) (j : Nat) (IH : ∀ j', j' < j → ∀ (i : Nat) (x : Str), nm.fn[i]? = some x → ∃ fd ps, mg x = some (.ref (fA i)) ∧ PySem.W.keepIn K (.ref (fA i)) = true ∧ Binds K fd ps [] ∧ FnOk P w K mg base (L2N.CX P w) (j' + 1) (fA i) fd ps (spF K cA T j' i))
    {i : Nat} {f : Addr} {ps N : List Str} {qual : Str} {body : List Stmt} {scope : Scope} {d : FDef} (S : FnScope N ps scope) (hd : T.fs[i]? = some d) (h1 : d.np = ps.length) (h2 : d.ns = N.length)
    (hc : chkB { nm with rp := rp } N scope 40 d.body body = true) {cdv : Value} {A : Around} {outer : List PySem.Env} {s : Shared} {H : Hp} {vs : List V} {Q : VK} {E : XK} (hr : Room j (A.deeper (envOfC qual scope s.heap.objs.size f cdv))) (hg : rp = true → A.guards = some []) (hsp : spF K cA T j i vs H Q E) :
    ∃ t, PSs (cxOf (L2N.CX P w) P w K mg base N qual scope f cdv A outer s H E) body t ∧ t { nx := fun _ H' => Q .non H', rt := Q } (L2.start N vs) H := by
  have hpl : ps.length ≤ N.length := by have := congrArg List.length S.pre; rw [List.length_take] at this; omega
  obtain ⟨F, Af, os, d', e1, e2, sr, ha, pg⟩ := hsp
  rw [hd] at e1
  cases e1
  have hA : AtF { nm with rp := rp } T cA fA j (fun cls d _ H => E cls d H) (cxOf (L2N.CX P w) P w K mg base N qual scope f cdv A outer s H E) :=
    { nd := S.nd, calm := rfl, room := hr, tk := L2N.takes_of rfl rfl rfl rfl, blt := h.blt, cst := h.cst, fns := fun j' hj i x hx => IH j' hj i x hx, wσ := fun _ _ _ _ _ h => h, exn := fun c x e => h.exn c x e |>.imp id fun z => ⟨z.1, z.2.1, L2.raises_own z.2.2.1 z.2.2.2⟩, exm := h.exm, flg := fun g x hg => flg_at h.blt (h.flg g x hg), gd := hg,
      kind := S.kind, cel := fun x hx => ⟨loc_spec hx, .inl rfl⟩, po := passes_of rfl, stk := rfl, frm := rfl }
  refine ⟨_, sS j 40 _ _ hA d.body body hc, F, Af, os.map some ++ List.replicate (d.ns - d.np) none, start_sr sr e2 h2, ?_⟩
  have hos : os.length = d.np := by rw [← e2]; have := sr.len; rw [List.length_map, List.length_map] at this; exact this.symm
  have pg : PG K cA (fun cls x _ H => E cls x H) (rO K) (vs.map some) F H Af ((exN T j d.body (os.map some ++ List.replicate (d.ns - d.np) none)).bind fun p => match p.1 with
        | .next => .ok (.val .none, wipeE (p.2.take d.np) (asgds d.body))
        | .ret o => .ok (o, wipeE (p.2.take d.np) (asgds d.body))
        | _ => .stuck) Q := by
    have e : callF T (exN T j) i os = (exN T j d.body (os.map some ++ List.replicate (d.ns - d.np) none)).bind fun p => match p.1 with
        | .next => .ok (.val .none, wipeE (p.2.take d.np) (asgds d.body))
        | .ret o => .ok (o, wipeE (p.2.take d.np) (asgds d.body))
        | _ => .stuck := by
      unfold callF
      rw [hd]
      exact if_pos hos
    rw [← e]; exact pg
  have hnp : d.np ≤ N.length := by rw [h1]; exact hpl
  cases he : exN T j d.body (os.map some ++ List.replicate (d.ns - d.np) none) with
  | stuck => rw [he] at pg; exact pg
  | err c => rw [he] at pg; exact fun σ' => pg
  | ok z =>
    obtain ⟨fl, env'⟩ := z
    rw [he] at pg
    cases fl with
    | next => exact fun σ' F' H' Af' m s' t => pg .non F' H' Af' [] (end_sr m s' e2 hnp) t (.val .non) .nil fun _ z => nomatch z
    | ret o => exact fun v σ' F' H' Af' C m s' t r nd un => pg v F' H' Af' C (end_sr m s' e2 hnp) t r nd un
    | brk => exact pg.elim
    | cont => exact pg.elim
theorem fn_core (h : TextOk P w K mg nm T cA fA) (j : Nat) (IH : ∀ j', j' < j → ∀ (i : Nat) (x : Str), nm.fn[i]? = some x → ∃ fd ps, mg x = some (.ref (fA i)) ∧ PySem.W.keepIn K (.ref (fA i)) = true ∧ Binds K fd ps [] ∧ FnOk P w K mg base (L2N.CX P w) (j' + 1) (fA i) fd ps (spF K cA T j' i))
    {i : Nat} {f : Addr} {fd : FuncData} {ps N : List Str} {y qual : Str} {params : Arguments} {body : List Stmt} {scope : Scope} {dvs : List V} {kws : List (Str × V)} {d : FDef} (FD : L2.FunD K y qual params body scope dvs kws f fd) (S : FnScope N ps scope) (hd : T.fs[i]? = some d) (h1 : d.np = ps.length) (h2 : d.ns = N.length)
    (hc : chkB { nm with rp := false } N scope 40 d.body body = true) : FnOk P w K mg base (L2N.CX P w) (j + 1) f fd ps (spF K cA T j i) :=
  FD.ok S (fun vs H Q E ⟨F, Af, os, d', e1, e2, _⟩ => by rw [hd] at e1; cases e1; rw [e2, h1]) fun _ _ _ _ _ _ _ _ hr hs => body_ok h false j IH S hd h1 h2 hc hr (fun z => nomatch z) hs
theorem fns (h : TextOk P w K mg nm T cA fA) : ∀ (j : Nat) (i : Nat) (x : Str), nm.fn[i]? = some x → ∃ fd ps, mg x = some (.ref (fA i)) ∧ PySem.W.keepIn K (.ref (fA i)) = true ∧ Binds K fd ps [] ∧ FnOk P w K mg base (L2N.CX P w) (j + 1) (fA i) fd ps (spF K cA T j i) := by
  intro j
  induction j using Nat.strongRecOn with
  | _ j IH =>
  intro i x hx
  obtain ⟨fd, ps, N, y, qual, params, body, scope, dvs, kws, d, m1, m2, m3, FD, S, hd, h1, h2, hc⟩ := (h.defs i x hx).ex
  exact ⟨fd, ps, m1, m2, m3, fn_core h j IH FD S hd h1 h2 hc⟩
theorem fn_at (h : TextOk P w K mg nm T cA fA) (n i : Nat) {f : Addr} {fd : FuncData} {ps N : List Str} {y qual : Str} {params : Arguments} {body : List Stmt} {scope : Scope} {dvs : List V} {kws : List (Str × V)} {d : FDef} (FD : L2.FunD K y qual params body scope dvs kws f fd) (S : FnScope N ps scope) (hd : T.fs[i]? = some d) (h1 : d.np = ps.length) (h2 : d.ns = N.length)
    (hc : chkB { nm with rp := false } N scope 40 d.body body = true) : FnOk P w K mg base (L2N.CX P w) (n + 1) f fd ps (spF K cA T n i) := fn_core h n (fun j _ => fns h j) FD S hd h1 h2 hc
/-- a def where repr may stand: by its call, at a machine that is in no repr -/
theorem run_rp (h : TextOk P w K mg nm T cA fA) (n i : Nat) {f : Addr} {fd : FuncData} {ps N : List Str} {y qual : Str} {params : Arguments} {body : List Stmt} {scope : Scope} {dvs : List V} {kws : List (Str × V)} {d : FDef} (FD : L2.FunD K y qual params body scope dvs kws f fd) (S : FnScope N ps scope) (hd : T.fs[i]? = some d) (h1 : d.np = ps.length) (h2 : d.ns = N.length)
    (hc : chkB { nm with rp := true } N scope 40 d.body body = true) {A : Around} {outer : List PySem.Env} {s : Shared} {H : Hp} {us : List Value} {vs : List V} {Q : VK} {E : XK} (hg : A.guards = some []) (hr : Room (n + 1) A) (e0 : Env0 P w K mg base A outer s H) (hb : BindsTo s fd ⟨us, []⟩ (ps.zip us)) (rv : Vals vs us) (hs : spF K cA T n i vs H Q E) :
    codeAny (model P w) A (.call (.ref f) ⟨us, []⟩) (CR (L2N.CX P w) outer P w H s Q E) s := by
  obtain ⟨oc, od, dV, kV, doc, pm, an, cdv, ct, osl, rfl, lk, hcd, _, _⟩ := FD.ex
  have hl : vs.length = ps.length := by
    obtain ⟨F, Af, os, d', e1, e2, _⟩ := hs
    rw [hd] at e1
    cases e1
    rw [e2, h1]
  refine StX.run_bnd lk hcd S hr e0 (G := fun xs H2 => xs = vs ∧ H2 = H) (fun A' Ex Q' q => hb _ _ _ _ (q s H vs us e0 .refl rfl (fun _ _ z => z) rv hl ⟨rfl, rfl⟩)) fun s2 H2 xs g hr' => ?_
  obtain ⟨g1, g2⟩ := g
  subst g1 g2
  exact body_ok h true n (fun j _ => fns h j) S hd h1 h2 hc hr' (fun _ => hg) hs
end
end Ev

end
section
set_option autoImplicit false
set_option linter.all false
set_option maxRecDepth 100000
/-! The end: from the evaluator to a law's row. -/
namespace Ev
open PySem PySem.Spec PyProof.Rows L2

def AllM (p : Str → Prop) : List Str → Prop
  | [] => True
  | x :: r => p x ∧ AllM p r
theorem all_mem {p : Str → Prop} : ∀ {l : List Str}, AllM p l → ∀ x ∈ l, p x
  | _ :: _, h, x, hx => by
    rcases List.mem_cons.mp hx with e | e
    · subst e; exact h.1
    · exact all_mem h.2 x e
def AllI (p : Nat → Str → Prop) : Nat → List Str → Prop
  | _, [] => True
  | i, x :: r => p i x ∧ AllI p (i + 1) r
theorem all_ix {p : Nat → Str → Prop} : ∀ {l : List Str} {k : Nat}, AllI p k l → ∀ (i : Nat) (x : Str), l[i]? = some x → p (k + i) x
  | [], _, _, i, x, hx => by simp at hx
  | y :: r, k, h, 0, x, hx => by cases hx; exact h.1
  | y :: r, k, h, i + 1, x, hx => by
    have := all_ix h.2 i x (by simpa using hx)
    rwa [show k + 1 + i = k + (i + 1) by omega] at this
def AllN : Nat → (Nat → Prop) → Prop
  | 0, _ => True
  | n + 1, p => p n ∧ AllN n p
theorem all_n {p : Nat → Prop} : ∀ {n : Nat}, AllN n p → ∀ i, i < n → p i
  | 0, _, i, hi => absurd hi (Nat.not_lt_zero i)
  | n + 1, h, i, hi => by
    by_cases e : i = n
    · subst e; exact h.1
    · exact all_n h.2 i (by omega)
section
variable {P : Program} {w : World} {K : PySem.W.Frag} {mg : Str → Option Value} {nm : Names} {T : Tab} {cA fA : Nat → Addr}
theorem all_def (h : AllI (fun i x => DefOk P w K mg nm T (fA i) i x) 0 nm.fn) : ∀ (i : Nat) (x : Str), nm.fn[i]? = some x → DefOk P w K mg nm T (fA i) i x := fun i x hx => by
  have := all_ix h i x hx
  rwa [Nat.zero_add] at this
theorem all_cst (h : AllI (fun i x => ∃ (u : Value) (v : V) (d : D), mg x = some u ∧ RelV v u ∧ T.cs[i]? = some d ∧ Rep K (fun _ => none) v d) 0 nm.cn) : ∀ (i : Nat) (x : Str), nm.cn[i]? = some x → ∃ (u : Value) (v : V) (d : D), mg x = some u ∧ RelV v u ∧ T.cs[i]? = some d ∧ Rep K (fun _ => none) v d := fun i x hx => by
  have := all_ix h i x hx
  rwa [Nat.zero_add] at this
theorem all_exn {cA : Nat → Addr} (h : AllI (fun c x => mg x = some (.ref (cA c)) ∧ PySem.W.excIn K (cA c) [.type "ValueError", .type "Exception", .type "BaseException", .type "object"] "ValueError.__new__" = true ∧ PySem.W.keepIn K (.ref (cA c)) = true ∧ PySem.W.subIn K (.ref (cA c)) (.type "BaseException") = some true ∧ PySem.W.typeIn K (.ref (cA c)) = some (.type "type")) 0 nm.ex) :
    ∀ (c : Nat) (x : Str), nm.ex[c]? = some x → mg x = some (.ref (cA c)) ∧ PySem.W.excIn K (cA c) [.type "ValueError", .type "Exception", .type "BaseException", .type "object"] "ValueError.__new__" = true ∧ PySem.W.keepIn K (.ref (cA c)) = true ∧ PySem.W.subIn K (.ref (cA c)) (.type "BaseException") = some true ∧ PySem.W.typeIn K (.ref (cA c)) = some (.type "type") := fun c x hx => by
  have := all_ix h c x hx
  rwa [Nat.zero_add] at this
theorem cst_int {x : Str} {k : Int} {o : Option D} (h : ∃ t, mg x = some (.int k t)) (ho : o = some (.int k)) : ∃ (u : Value) (v : V) (d : D), mg x = some u ∧ RelV v u ∧ o = some d ∧ Rep K (fun _ => none) v d := by
  obtain ⟨t, e⟩ := h
  exact ⟨_, .int k, _, e, ⟨t, rfl⟩, ho, .int k⟩
end
theorem room_at {n : Nat} (h : n ≤ 220) : Room (n + 1) callerA := by
  have h0 : callerA.depth ≤ 301 := by decide +kernel
  have h1 : callerA.units ≤ 100 := by decide +kernel
  have h2 : cLine = 9900 := rfl
  have h3 : recursionLimit = 1000 := rfl
  exact ⟨rfl, by omega, by omega⟩
theorem walk_end {l : PySem.W.OpenLaw} {n k : Nat} {q : Program} {loose : List Str} {XP : (Str → Option Value) → Heap → Prop} {YP : World → Heap → Prop} {d : DefRec} {x : Str}
    (hn : l.most = some n) (hn2 : n ≤ sizeLine) (hdf : d.params.defaults = []) (hr : Room k callerA)
    (F : ∀ (w : World) (mg : Str → Option Value) (fa : Addr) (h : Heap), YP w h → h.Ns mainGlobals mg → mg d.name = some (.ref fa) →
      ∃ (K : PySem.W.Frag) (fd : FuncData) (sp : Sp), K.In h ∧ (∀ (s : Shared) (u : Value), BindsTo s fd ⟨[u], []⟩ [(x, u)]) ∧
        (∀ (H : Hp) (a : Addr) (ns : List Int), ns.length ≤ n → (∀ z ∈ ns, Builtin.Int.intBits z ≤ 1048576) → Only H → SqL K H a (ns.map V.int) → sp [.ref a] H (fun v _ => v = .bl true) fun _ _ _ => False) ∧
        ∀ base : Heap, K.In base → base.Ns mainGlobals mg → FnOk l.prog w K mg base (L2N.CX l.prog w) k fa fd [x] sp) :
    PySem.W.WalkO q loose XP YP l.row.toRowW d [] (fun f vs => PySem.call f vs) := by
  refine Att.attach_callB hn hdf fun w s₀ s₁ mg mb fa o pm cd doc a vs ns G Y ho hd hcd hmg hobj hints hlen hbits hg => ?_
  obtain ⟨K, fd, sp, KX, hb, hsp, hF⟩ := F w mg fa _ Y G.T.g hmg
  refine law_call KX G.T.g G.T.b G.T.builtins G.T.nolimit hg hobj hints (Nat.le_trans hlen hn2) hr hF hb (fun H hO hS => hsp H a ns hlen hbits hO hS) fun H e s' hc => ?_
  obtain ⟨_, _, _, _, _, _, _, _, _, _, _, _, f⟩ := hc
  exact f
/-- the law's call, where the machine is in no repr: what HandS asks of a promise is asked at the caller's machine alone -/
theorem law_at {P : Program} {w : World} {K : PySem.W.Frag} {mg mb : Str → Option Value} {fa a : Addr} {t : Shared} {us : List Value} {ns : List Int}
    (kin : K.In t.heap) (nm : t.heap.Ns mainGlobals mg) (nb : t.heap.Ns builtinsNs mb) (bb : ∀ x : Str, x ≠ "__name__" → mb x = bootBuiltins x) (nl : t.heap.NoLimit) (g0 : t.gens = #[])
    (oa : t.heap.get? a = some { cls := .type "list", data := .seq us.toArray }) (ia : IntsAre us ns) (la : ns.length ≤ sizeLine)
    (run : ∀ (b0 : Heap) (H : Hp), K.In b0 → b0.Ns mainGlobals mg → Env0 P w K mg b0 callerA [] t H → SqL K H a (ns.map V.int) → codeAny (model P w) callerA (.call (.ref fa) ⟨[.ref a], []⟩) (CR (L2N.CX P w) [] P w H t (fun v _ => v = .bl true) fun _ _ _ => False) t) :
    codeAny (model P w) callerA (.call (.ref fa) ⟨[.ref a], []⟩) (fun r t' => r = .ok (.ret (.bool true)) ∧ OldK t.heap t'.heap ∧ t'.os = t.os ∧ AllBare t'.gens) t := by
  let ob : Obj := { cls := .type "list", data := .seq us.toArray }
  let H : Hp := fun b => if b = a ∧ K.lookup a = none then some (.frz ob (.lst (ns.map V.int))) else none
  have HS : ∀ b u, H b = some u → b = a ∧ K.lookup a = none ∧ u = .frz ob (.lst (ns.map V.int)) := fun b u e => by
    by_cases c : b = a ∧ K.lookup a = none
    · have e' : (some (HO.frz ob (.lst (ns.map V.int)))) = some u := (if_pos c).symm.trans e
      exact ⟨c.1, c.2, (Option.some.inj e').symm⟩
    · have e' : (none : Option HO) = some u := (if_neg c).symm.trans e
      cases e'
  have vi := vals_ints ia
  have li : (ns.map V.int).length ≤ sizeLine := by rw [List.length_map]; exact la
  have hok : HOk P w H t.heap := fun b u e => by
    obtain ⟨rfl, _, rfl⟩ := HS b u e
    exact ⟨oa, li, us, _, vi, oa⟩
  have sq : SqL K H a (ns.map V.int) := by
    cases ek : K.lookup a with
    | none => exact .inl (.inr ⟨ob, if_pos ⟨rfl, ek⟩⟩)
    | some o =>
      have := (kin a o ek).symm.trans oa
      cases this
      exact .inr ⟨ob, us.toArray, _, ek, rfl, rfl, rfl, by rw [List.size_toArray, ia.length]; exact la, by simpa using vi⟩
  have free : ∀ {b : Addr} {o : Obj}, t.heap.get? b = some o → (∀ vs n, o.data ≠ .seq vs n) → H b = none := fun {b o} e d => by
    cases q : H b with
    | none => rfl
    | some u =>
      obtain ⟨rfl, _, _⟩ := HS b u q
      rw [oa] at e
      cases e
      exact absurd rfl (d us.toArray _)
  have nsb : ∀ {b : Addr} {m : Str → Option Value}, t.heap.Ns b m → (hidT t.heap H).Ns b m := fun {b m} ⟨o, es, ep, e, d, r⟩ => ⟨o, es, ep, hidT_get e (free e fun vs n z => by rw [d] at z; cases z), d, r⟩
  have kb : K.In (hidT t.heap H) := fun b o e => hidT_get (kin b o e) (by
    cases q : H b with
    | none => rfl
    | some u =>
      obtain ⟨rfl, k0, _⟩ := HS b u q
      rw [k0] at e
      cases e)
  have e0 : Env0 P w K mg (hidT t.heap H) callerA [] t H :=
    { frames := rfl, mod := ⟨kb, nsb nm, ⟨mb, nsb nb, bb⟩, nl.imp fun _ z => ⟨nsb z.1, z.2⟩⟩, bs := fun _ _ => of_hidT, bsz := Nat.le_of_eq (hidT_size _ _), funs := trivial, frf := fun b z => (nomatch (show b ∈ ([] : List Addr) from z)), hok := hok, bare := .of_eq g0 }
  refine codeAny_mono (run _ H kb (nsb nm) e0 sq) fun r t' z => ?_
  match r, z with
  | .ok (.ret u), z =>
    obtain ⟨v, H', z1, z2, z3, z4, z5, z6⟩ := z
    cases z6
    cases z5
    refine ⟨rfl, .of_keep fun b o e => ?_, z1, z2⟩
    cases q : H b with
    | none => exact z3.keep b o e q (fun y => (nomatch (show b ∈ ([] : List Addr) from y))) (fun y => nomatch y)
    | some u =>
      obtain ⟨_, _, rfl⟩ := HS b u q
      have k1 := (z4 b _ (z3.frzs b ob _ q)).1
      have k2 := (hok b _ q).1
      rw [e] at k2
      rw [Option.some.inj k2]
      exact k1
  | .error e, z => exact (by obtain ⟨_, _, _, _, _, _, _, _, _, _, _, _, f⟩ := z; exact f.elim)
  | .ok .next, z => exact z.elim
  | .ok .brk, z => exact z.elim
  | .ok .cont, z => exact z.elim
theorem walk_endR {l : PySem.W.OpenLaw} {n : Nat} {q : Program} {loose : List Str} {XP : (Str → Option Value) → Heap → Prop} {YP : World → Heap → Prop} {d : DefRec}
    (hn : l.most = some n) (hn2 : n ≤ sizeLine) (hdf : d.params.defaults = [])
    (F : ∀ (w : World) (mg : Str → Option Value) (fa : Addr) (h : Heap), YP w h → h.Ns mainGlobals mg → mg d.name = some (.ref fa) →
      ∃ (K : PySem.W.Frag), K.In h ∧ ∀ (t : Shared) (a : Addr) (ns : List Int), ns.length ≤ n → (∀ z ∈ ns, Builtin.Int.intBits z ≤ 1048576) →
        ∀ (b0 : Heap) (H : Hp), K.In b0 → b0.Ns mainGlobals mg → Env0 l.prog w K mg b0 callerA [] t H → SqL K H a (ns.map V.int) → codeAny (model l.prog w) callerA (.call (.ref fa) ⟨[.ref a], []⟩) (CR (L2N.CX l.prog w) [] l.prog w H t (fun v _ => v = .bl true) fun _ _ _ => False) t) :
    PySem.W.WalkO q loose XP YP l.row.toRowW d [] (fun f vs => PySem.call f vs) := by
  refine Att.attach_callB hn hdf fun w s₀ t mg mb fa o pm cd doc a us ns G Y _ _ _ hmg oa ia hl hb hg => ?_
  obtain ⟨K, kin, run⟩ := F w mg fa _ Y G.T.g hmg
  exact law_at kin G.T.g G.T.b G.T.builtins G.T.nolimit hg oa ia (Nat.le_trans hl hn2) (run t a ns hl hb)
theorem sp_law {K : PySem.W.Frag} {cA : Nat → Addr} {T : Tab} {n i : Nat} {H : Hp} {a : Addr} {ns : List Int} {d : FDef} (hd : T.fs[i]? = some d) (hp : d.np = 1) (hS : SqL K H a (ns.map V.int)) (law : ∃ env, callF T (exN T n) i [.scr ns] = .ok (.val (.bool true), env)) :
    spF K cA T n i [.ref a] H (fun v _ => v = .bl true) fun _ _ _ => False := by
  obtain ⟨env, e⟩ := law
  refine ⟨H, fun _ => [], [.scr ns], d, hd, by rw [hp]; rfl, ⟨Ex.refl _, rfl, fun j o h => ?_, fun _ => .nil, fun _ _ _ h => (nomatch h), fun _ _ h => (nomatch h), fun _ _ h => (nomatch h)⟩, fun _ _ => rfl, ?_⟩
  · cases j with
    | zero => cases h; exact ⟨_, rfl, .scr hS⟩
    | succ j => simp at h
  · rw [e]
    intro v F' H' Af' C s t r nd un
    exact (RO.val_inv r).1.bl_inv
end Ev

end
section
set_option autoImplicit false
set_option linter.all false
set_option maxRecDepth 100000
/-! Running the evaluator: what the plain part of a law uses. -/
namespace Ev
open PySem
section
variable {T : Tab} {n : Nat} {ev : E → Env → Res (O × Env)} {exs : List S → Env → Res (Fl × Env)}
theorem evS (e : E) (env : Env) : evN T (n + 1) e env = stepE T (evN T n) (exN T n) e env := rfl
theorem exS (ss : List S) (env : Env) : exN T (n + 1) ss env = seqS (one T (evN T n) (exN T n)) ss env := rfl
theorem okb {α β : Type} (a : α) (f : α → Res β) : (Res.ok a).bind f = f a := rfl
theorem stb {α β : Type} (f : α → Res β) : (Res.stuck : Res α).bind f = .stuck := rfl

/-- what a def gives, its values told -/
def Ret (T : Tab) (n f : Nat) (os : List O) (o : O) : Prop := ∃ env, callF T (exN T n) f os = .ok (o, env)
theorem lentOk_none {f : Nat} {as : List (Option Nat × D)} (h : as.all (fun a => a.1.isNone) = true) (hf : ∃ d, T.fs[f]? = some d) : lentOk T f as = true := by
  obtain ⟨d, hd⟩ := hf
  unfold lentOk
  rw [hd]
  refine List.all_eq_true.mpr fun j hj => ?_
  cases e : as[j]? with
  | none => rfl
  | some a =>
    obtain ⟨i, d'⟩ := a
    have := List.all_eq_true.mp h _ (List.mem_of_getElem? e)
    cases i with
    | none => rfl
    | some i => cases this
theorem callF_fs {f : Nat} {os : List O} {p : O × Env} (h : callF T exs f os = .ok p) : ∃ d, T.fs[f]? = some d := by
  unfold callF at h
  cases e : T.fs[f]? with
  | none => rw [e] at h; cases h
  | some d => exact ⟨d, rfl⟩
theorem callA_pure {f : Nat} {ds : List D} {o : O} (env : Env) (h : Ret T n f (ds.map .val) o) : callA T (exN T n) f (ds.map fun d => (none, d)) env = .ok (o, env) := by
  obtain ⟨env', h⟩ := h
  have h1 : lent (ds.map fun d => ((none : Option Nat), d)) = [] := by
    clear h
    induction ds with
    | nil => rfl
    | cons d ds ih => exact ih
  have h2 : argOs env (ds.map fun d => ((none : Option Nat), d)) = some (ds.map .val) := by
    clear h h1
    induction ds with
    | nil => rfl
    | cons d ds ih => show (match some (O.val d), argOs env _ with | some o, some os => some (o :: os) | _, _ => none) = _; rw [ih]; rfl
  have h3 : ∀ env' : Env, backs env (ds.map fun d => ((none : Option Nat), d)) env' = env := by
    clear h h1 h2
    induction ds with
    | nil => intro env'; cases env' <;> rfl
    | cons d ds ih => intro env'; cases env' with
      | nil => rfl
      | cons o os => exact ih os
  unfold callA
  rw [if_pos ⟨by rw [h1]; exact .nil, lentOk_none (List.all_eq_true.mpr fun a ha => by obtain ⟨d, _, rfl⟩ := List.mem_map.mp ha; rfl) (callF_fs h)⟩, h2]
  show ((callF T (exN T n) f (ds.map .val)).bind fun p => .ok (p.1, backs env (ds.map fun d => (none, d)) p.2)) = _
  rw [h]
  show Res.ok (o, backs env _ env') = _
  rw [h3]
theorem call0 {f : Nat} {o : O} (env : Env) (h : Ret T n f [] o) : callA T (exN T n) f [] env = .ok (o, env) := callA_pure (ds := []) env h
theorem call1 {f : Nat} {a : D} {o : O} (env : Env) (h : Ret T n f [.val a] o) : callA T (exN T n) f [(none, a)] env = .ok (o, env) := callA_pure (ds := [a]) env h
theorem call2 {f : Nat} {a b : D} {o : O} (env : Env) (h : Ret T n f [.val a, .val b] o) : callA T (exN T n) f [(none, a), (none, b)] env = .ok (o, env) := callA_pure (ds := [a, b]) env h
theorem call3 {f : Nat} {a b c : D} {o : O} (env : Env) (h : Ret T n f [.val a, .val b, .val c] o) : callA T (exN T n) f [(none, a), (none, b), (none, c)] env = .ok (o, env) := callA_pure (ds := [a, b, c]) env h

/-! comprehensions -/
theorem wipeE_idem (env : Env) (vs : List Nat) : wipeE (wipeE env vs) vs = wipeE env vs := by
  apply List.ext_getElem?
  intro j
  have key : ∀ (env : Env) (vs : List Nat), j ∈ vs → (wipeE env vs)[j]? = (env[j]?).map fun _ => none := by
    intro env vs
    induction vs with
    | nil => intro h; cases h
    | cons a r ih =>
      intro h
      show ((wipeE env r).set a none)[j]? = _
      by_cases ha : a = j
      · subst ha
        rw [List.getElem?_set_self']
        by_cases hr : a ∈ r
        · rw [ih hr]; cases env[a]? <;> rfl
        · rw [(wipeE_get env a r).1 hr]; cases env[a]? <;> rfl
      · rw [List.getElem?_set_ne ha]
        rcases List.mem_cons.mp h with e | e
        · exact absurd e.symm ha
        · exact ih e
  by_cases h : j ∈ vs
  · rw [key _ _ h, key _ _ h]; cases env[j]? <;> rfl
  · rw [(wipeE_get _ j vs).1 h]
theorem backE_wipe {env env' : Env} {vs : List Nat} (h : wipeE env' vs = wipeE env vs) : backE env env' vs = env := by
  apply List.ext_getElem?
  intro j
  have hl : env'.length = env.length := by rw [← wipeE_length env' vs, h, wipeE_length]
  by_cases hj : j ∈ vs
  · have key : ∀ (vs : List Nat), j ∈ vs → (backE env env' vs)[j]? = (env'[j]?).map fun _ => (env[j]?).join := by
      intro vs
      induction vs with
      | nil => intro h; cases h
      | cons a r ih =>
        intro h
        show ((backE env env' r).set a _)[j]? = _
        by_cases ha : a = j
        · subst ha
          rw [List.getElem?_set_self']
          by_cases hr : a ∈ r
          · rw [ih hr]; cases env'[a]? <;> rfl
          · rw [(backE_get env env' a r).1 hr]; cases env'[a]? <;> rfl
        · rw [List.getElem?_set_ne ha]
          rcases List.mem_cons.mp h with e | e
          · exact absurd e.symm ha
          · exact ih e
    rw [key vs hj]
    rcases Nat.lt_or_ge j env.length with hk | hk
    · have e1 : env'[j]? = some (env'[j]'(by rw [hl]; exact hk)) := List.getElem?_eq_getElem _
      have e2 : env[j]? = some env[j] := List.getElem?_eq_getElem hk
      rw [e1, e2]; rfl
    · have e1 : env'[j]? = none := List.getElem?_eq_none (by rw [hl]; exact hk)
      have e2 : env[j]? = none := List.getElem?_eq_none hk
      rw [e1, e2]; rfl
  · rw [(backE_get env env' j vs).1 hj]
    have := congrArg (fun l => l[j]?) h
    simp only [(wipeE_get env' j vs).1 hj, (wipeE_get env j vs).1 hj] at this
    exact this
/-- turns whose test is b and whose value is g -/
theorem turns_pure {elt : E} {t : Tgt} {c : Option E} {own : List Nat} {b : D → Bool} {g : D → D} {env0 : Env} : ∀ {ds : List D} {env : Env}, wipeE env own = env0 →
    (∀ d ∈ ds, ∃ env1, assignT t d env0 = some env1 ∧ wipeE env1 own = env0 ∧ (match c with | none => b d = true | some c => truthE ev c env1 = .ok (b d, env1)) ∧ (b d = true → evD ev elt env1 = .ok (g d, env1))) →
    ∃ envE, turns ev elt t c own ds env = .ok (((ds.filter b).map g).map .val, envE) ∧ wipeE envE own = env0
  | [], env, he, _ => ⟨env, rfl, he⟩
  | d :: ds, env, he, h => by
    obtain ⟨env1, h1, h2, h3, h4⟩ := h d List.mem_cons_self
    have ih := fun (env : Env) (q : wipeE env own = env0) => turns_pure (ds := ds) (env := env) q fun d hd => h d (List.mem_cons_of_mem _ hd)
    obtain ⟨envE, e1, e2⟩ := ih env1 h2
    refine ⟨envE, ?_, e2⟩
    unfold turns
    rw [he, h1]
    dsimp only
    have key : ∀ z : Res (Bool × Env), z = .ok (b d, env1) → (z.bind fun p =>
        if p.1 then (evD ev elt p.2).bind fun q => (turns ev elt t c own ds q.2).bind fun r => .ok (O.val q.1 :: r.1, r.2)
        else turns ev elt t c own ds p.2) = .ok ((((d :: ds).filter b).map g).map .val, envE) := by
      rintro z rfl
      show (if b d then (evD ev elt env1).bind fun q => (turns ev elt t c own ds q.2).bind fun r => .ok (O.val q.1 :: r.1, r.2) else turns ev elt t c own ds env1) = _
      cases hb : b d with
      | true =>
        rw [if_pos rfl, h4 hb]
        show ((turns ev elt t c own ds env1).bind fun r => .ok (O.val (g d) :: r.1, r.2)) = _
        rw [e1, List.filter_cons, hb]
        rfl
      | false =>
        rw [if_neg (by decide), e1, List.filter_cons, hb]
        rfl
    refine key _ ?_
    cases c with
    | none => dsimp only at h3 ⊢; rw [h3]
    | some c => exact h3
theorem toDs_val (ds : List D) : O.toDs (ds.map .val) = ds := by
  induction ds with
  | nil => rfl
  | cons d ds ih => show d :: O.toDs (ds.map .val) = _; rw [ih]
theorem trees_val (ds : List D) : O.trees (ds.map .val) = true := by
  induction ds with
  | nil => rfl
  | cons d ds ih => show (true && O.trees (ds.map .val)) = _; rw [ih]; rfl
/-- a list comprehension -/
theorem comp_pure {elt : E} {t : Tgt} {it : I} {c : Option E} {ds : List D} {env env1 : Env} (b : D → Bool) (g : D → D) (hi : items ev it env = .ok (ds, env1)) (hl : ds.length ≤ most) (hp : (tslots t).all (plainAt env1) = true)
    (h : ∀ d ∈ ds, ∃ env2, assignT t d (wipeE env1 (tslots t)) = some env2 ∧ wipeE env2 (tslots t) = wipeE env1 (tslots t) ∧ (match c with | none => b d = true | some c => truthE ev c env2 = .ok (b d, env2)) ∧ (b d = true → evD ev elt env2 = .ok (g d, env2))) :
    stepE T ev exs (.comp elt t it c) env = .ok (.lst (((ds.filter b).map g).map .val), env1) := by
  rw [stepE_comp, hi]
  show (if ds.length ≤ most ∧ (tslots t).all (plainAt env1) = true then _ else _) = _
  rw [if_pos ⟨hl, hp⟩]
  obtain ⟨envE, e1, e2⟩ := turns_pure (ev := ev) (elt := elt) (t := t) (c := c) (own := tslots t) (b := b) (g := g) (env0 := wipeE env1 (tslots t)) (ds := ds) (env := env1) rfl h
  rw [e1]
  show Res.ok (O.lst _, backE env1 envE (tslots t)) = _
  rw [backE_wipe e2]
/-- sorted keys -/
theorem keys_pure {elt : E} {t : Tgt} {it : I} {c : Option E} {ds : List D} {env env1 : Env} (b : D → Bool) (g : D → Int) (hi : items ev it env = .ok (ds, env1)) (hl : ds.length ≤ most) (hp : (tslots t).all (plainAt env1) = true)
    (h : ∀ d ∈ ds, ∃ env2, assignT t d (wipeE env1 (tslots t)) = some env2 ∧ wipeE env2 (tslots t) = wipeE env1 (tslots t) ∧ (match c with | none => b d = true | some c => truthE ev c env2 = .ok (b d, env2)) ∧ (b d = true → evD ev elt env2 = .ok (.int (g d), env2))) :
    stepE T ev exs (.sortedKeys elt t it c) env = .ok (.lst ((sortI ((ds.filter b).map g)).map fun i => .val (.int i)), env1) := by
  have e0 : stepE T ev exs (.sortedKeys elt t it c) env = ((items ev it env).bind fun p => if p.1.length ≤ most ∧ (tslots t).all (plainAt p.2) = true then
      (noErr (turns ev elt t c (tslots t) p.1 p.2)).bind fun q => match ints? (O.toDs q.1) with
        | some ns => .ok (.lst ((sortI ns).map fun i => .val (.int i)), backE p.2 q.2 (tslots t))
        | none => .stuck
      else .stuck) := rfl
  rw [e0, hi]
  show (if ds.length ≤ most ∧ (tslots t).all (plainAt env1) = true then _ else _) = _
  rw [if_pos ⟨hl, hp⟩]
  obtain ⟨envE, e1, e2⟩ := turns_pure (ev := ev) (elt := elt) (t := t) (c := c) (own := tslots t) (b := b) (g := fun d => .int (g d)) (env0 := wipeE env1 (tslots t)) (ds := ds) (env := env1) rfl h
  rw [e1]
  show (match ints? (O.toDs (((ds.filter b).map fun d => PyData.int (g d)).map .val)) with
        | some ns => Res.ok (O.lst ((sortI ns).map fun i => O.val (.int i)), backE env1 envE (tslots t))
        | none => .stuck) = _
  have hn : ∀ l : List D, ints? (O.toDs ((l.map fun d => PyData.int (g d)).map .val)) = some (l.map g) := by
    intro l
    rw [toDs_val]
    induction l with
    | nil => rfl
    | cons d l ih => show (ints? (l.map fun d => PyData.int (g d))).map (g d :: ·) = _; rw [ih]; rfl
  rw [hn, backE_wipe e2]
/-! loops -/
theorem loop_inv {body : Env → Res (Fl × Env)} {t : Tgt} (Inv : Env → Prop) : ∀ {ds : List D} {env : Env}, Inv env → (∀ d ∈ ds, ∀ env, Inv env → ∃ env1 env2, assignT t d env = some env1 ∧ body env1 = .ok (.next, env2) ∧ Inv env2) → ∃ env', loopF body t ds env = .ok (.next, env') ∧ Inv env'
  | [], env, h, _ => ⟨env, rfl, h⟩
  | d :: ds, env, h, step => by
    obtain ⟨env1, env2, h1, h2, h3⟩ := step d List.mem_cons_self env h
    obtain ⟨env', e1, e2⟩ := loop_inv Inv (ds := ds) h3 fun d hd => step d (List.mem_cons_of_mem _ hd)
    refine ⟨env', ?_, e2⟩
    unfold loopF
    rw [h1]
    dsimp only
    rw [h2]
    exact e1
end
end Ev
namespace Ev
open PySem
theorem alike_ints' : ∀ ns : List Int, alikeB (ns.map PyData.int) = true := alike_ints
end Ev
namespace Ev
open PySem
section
variable (a b : Int) (x y z : D) (xs ys : List D)
theorem v_add : ev2 .add (.int a) (.int b) = some (.val (.int (a + b))) := rfl
theorem v_sub : ev2 .sub (.int a) (.int b) = some (.val (.int (a - b))) := rfl
theorem v_le : ev2 .le (.int a) (.int b) = some (.val (.bool (decide (a ≤ b)))) := rfl
theorem v_lt : ev2 .lt (.int a) (.int b) = some (.val (.bool (decide (a < b)))) := rfl
theorem v_ge : ev2 .ge (.int a) (.int b) = some (.val (.bool (decide (b ≤ a)))) := rfl
theorem v_gt : ev2 .gt (.int a) (.int b) = some (.val (.bool (decide (b < a)))) := rfl
theorem v_min : ev2 .min2 (.int a) (.int b) = some (.val (.int (if b < a then b else a))) := rfl
theorem v_max : ev2 .max2 (.int a) (.int b) = some (.val (.int (if b > a then b else a))) := rfl
theorem v_eq : ev2 .eq (.int a) (.int b) = some (.val (.bool (a == b))) := by
  simp [ev2, PyData.plain, PyData.depth, PyData.eqv]
theorem v_ne : ev2 .ne (.int a) (.int b) = some (.val (.bool (!(a == b)))) := by
  simp [ev2, PyData.plain, PyData.depth, PyData.eqv]
variable {a b}
theorem v_mul (h1 : Sm a) (h2 : Sm b) : ev2 .mul (.int a) (.int b) = some (.val (.int (a * b))) := by
  simp only [ev2]
  rw [if_pos (And.intro h1 h2)]
theorem v_mod (h : 0 < b) : ev2 .mod (.int a) (.int b) = some (.val (.int (a % b))) := by
  simp only [ev2]
  rw [if_pos h]
theorem v_fdiv (h : 0 < b) (h2 : SmD b) : ev2 .fdiv (.int a) (.int b) = some (.val (.int (a / b))) := by
  simp only [ev2]
  rw [if_pos (And.intro h h2)]
variable (c d : Bool)
theorem v_is : ev2 .is (.bool c) (.bool d) = some (.val (.bool (c == d))) := rfl
theorem v_isnt : ev2 .isnt (.bool c) (.bool d) = some (.val (.bool (!(c == d)))) := rfl
theorem v_t20 : ev2 .idx (.tuple [x, y]) (.int 0) = some (.val x) := rfl
theorem v_t21 : ev2 .idx (.tuple [x, y]) (.int 1) = some (.val y) := rfl
theorem u_lenL : ev1 .len (.list xs) = some (.val (.int xs.length)) := rfl
theorem u_lenT2 : ev1 .len (.tuple [x, y]) = some (.val (.int 2)) := rfl
theorem u_lenT : ev1 .len (.tuple xs) = some (.val (.int xs.length)) := rfl
theorem u_isT (t : Ty) : ev1 (.isT t) x = some (.val (.bool (isTy t x))) := rfl
theorem u_int : ev1 .int (.int a) = some (.val (.int a)) := rfl
theorem u_intB : ev1 .int (.bool c) = some (.val (.int (if c then 1 else 0))) := rfl
theorem u_abs : ev1 .abs (.int a) = some (.val (.int (if a < 0 then -a else a))) := rfl
theorem u_neg : ev1 .neg (.int a) = some (.val (.int (-a))) := rfl
theorem u_tupL : ev1 .tuple (.list xs) = some (.val (.tuple xs)) := rfl
theorem u_revT : ev1 .rev (.tuple xs) = some (.val (.tuple xs.reverse)) := rfl
end
end Ev
namespace Ev
open PySem
theorem u_max2 (a b : Int) : ev1 .max (.list [.int a, .int b]) = some (.val (.int (max a b))) := by
  have h := alike_ints [a, b]
  have e := W.maxD_ints a [b]
  simp only [List.map_cons, List.map_nil, List.foldl_cons, List.foldl_nil] at h e
  simp only [ev1, h, e, if_true]
theorem most_ok {k : Nat} (h : k ≤ 1000000) : k ≤ most := h
end Ev
namespace Ev
open PySem
def minL : List Int → Int
  | [] => 0
  | n :: ns => ns.foldl min n
theorem u_minL {ns : List Int} (h : ns ≠ []) : ev1 .min (.list (ns.map .int)) = some (.val (.int (minL ns))) := by
  cases ns with
  | nil => exact absurd rfl h
  | cons n ns =>
    have h1 := alike_ints (n :: ns)
    have e := W.minD_ints n ns
    rw [List.map_cons] at h1 ⊢
    simp only [ev1, h1, e, if_true]
    rfl
theorem foldl_min_le : ∀ (ns : List Int) (n : Int), (ns.foldl min n ≤ n ∧ ∀ k ∈ ns, ns.foldl min n ≤ k) ∧ (ns.foldl min n = n ∨ ns.foldl min n ∈ ns)
  | [], n => ⟨⟨Int.le_refl _, fun _ h => nomatch h⟩, .inl rfl⟩
  | m :: ns, n => by
    obtain ⟨⟨h1, h2⟩, h3⟩ := foldl_min_le ns (min n m)
    rw [List.foldl_cons]
    refine ⟨⟨by omega, fun k hk => ?_⟩, ?_⟩
    · rcases List.mem_cons.mp hk with rfl | hk
      · omega
      · exact h2 k hk
    · rcases h3 with h3 | h3
      · rcases Int.le_total n m with q | q
        · exact .inl (by omega)
        · exact .inr (by rw [h3, Int.min_eq_right q]; exact List.mem_cons_self)
      · exact .inr (List.mem_cons_of_mem _ h3)
theorem minL_spec {ns : List Int} (h : ns ≠ []) : minL ns ∈ ns ∧ ∀ k ∈ ns, minL ns ≤ k := by
  cases ns with
  | nil => exact absurd rfl h
  | cons n ns =>
    obtain ⟨⟨h1, h2⟩, h3⟩ := foldl_min_le ns n
    refine ⟨?_, fun k hk => ?_⟩
    · rcases h3 with h3 | h3
      · show ns.foldl min n ∈ _; rw [h3]; exact List.mem_cons_self
      · exact List.mem_cons_of_mem _ h3
    · rcases List.mem_cons.mp hk with rfl | hk
      · exact h1
      · exact h2 k hk
end Ev
namespace Ev
open PySem
theorem items_range {ev : E → Env → Res (O × Env)} {e : E} {env env1 : Env} {j : Int} {l : List D} (h : evD ev e env = .ok (.int j, env1)) (hj : 0 ≤ j ∧ j ≤ 1000000) (hl : rangeD 0 j = l) : items ev (.range e) env = .ok (l, env1) := by
  have e1 : (okRange j && decide (j ≤ most)) = true := by
    simp only [okRange, Bool.and_eq_true, decide_eq_true_eq]
    refine ⟨⟨by omega, by omega⟩, ?_⟩
    show j ≤ ((1000000 : Nat) : Int)
    omega
  show (evD ev e env).bind _ = _
  rw [h]
  show (if (okRange j && decide (j ≤ most)) = true then Res.ok (rangeD 0 j, env1) else .stuck) = _
  rw [if_pos e1, hl]
end Ev

end
section
set_option autoImplicit false
set_option linter.all false
set_option maxRecDepth 100000
/-! More for the plain part: comprehensions over things of a kind, calls that lend. -/
namespace Ev
open PySem
section
variable {T : Tab} {n : Nat} {ev : E → Env → Res (O × Env)} {exs : List S → Env → Res (Fl × Env)}
theorem turnsA {α : Type} {elt : E} {t : Tgt} {c : Option E} {own : List Nat} {emb : α → D} {env2 : α → Env} {p : α → Bool} {g : α → D} {env0 : Env} : ∀ {ms : List α} {env : Env}, wipeE env own = env0 →
    (∀ a ∈ ms, assignT t (emb a) env0 = some (env2 a) ∧ wipeE (env2 a) own = env0) →
    (∀ a ∈ ms, (match c with | none => p a = true | some c => truthE ev c (env2 a) = .ok (p a, env2 a)) ∧ (p a = true → evD ev elt (env2 a) = .ok (g a, env2 a))) →
    ∃ envE, turns ev elt t c own (ms.map emb) env = .ok (((ms.filter p).map g).map .val, envE) ∧ wipeE envE own = env0
  | [], env, he, _, _ => ⟨env, rfl, he⟩
  | a :: ms, env, he, h1, h2 => by
    have ih := fun (env : Env) (q : wipeE env own = env0) => turnsA (elt := elt) (t := t) (c := c) (own := own) (emb := emb) (env2 := env2) (p := p) (g := g) (ms := ms) (env := env) q (fun a ha => h1 a (List.mem_cons_of_mem _ ha)) (fun a ha => h2 a (List.mem_cons_of_mem _ ha))
    obtain ⟨a1, a2⟩ := h1 a List.mem_cons_self
    obtain ⟨b1, b2⟩ := h2 a List.mem_cons_self
    obtain ⟨envE, e1, e2⟩ := ih (env2 a) a2
    refine ⟨envE, ?_, e2⟩
    rw [List.map_cons]
    unfold turns
    rw [he, a1]
    dsimp only
    have key : ∀ z : Res (Bool × Env), z = .ok (p a, env2 a) → (z.bind fun q =>
        if q.1 then (evD ev elt q.2).bind fun q => (turns ev elt t c own (ms.map emb) q.2).bind fun r => .ok (O.val q.1 :: r.1, r.2)
        else turns ev elt t c own (ms.map emb) q.2) = .ok ((((a :: ms).filter p).map g).map .val, envE) := by
      rintro z rfl
      show (if p a then (evD ev elt (env2 a)).bind fun q => (turns ev elt t c own (ms.map emb) q.2).bind fun r => .ok (O.val q.1 :: r.1, r.2) else turns ev elt t c own (ms.map emb) (env2 a)) = _
      cases hb : p a with
      | true =>
        rw [if_pos rfl, b2 hb]
        show ((turns ev elt t c own (ms.map emb) (env2 a)).bind fun r => .ok (O.val (g a) :: r.1, r.2)) = _
        rw [e1, List.filter_cons, hb]
        rfl
      | false =>
        rw [if_neg (by decide), e1, List.filter_cons, hb]
        rfl
    refine key _ ?_
    cases c with
    | none => dsimp only at b1 ⊢; rw [b1]
    | some c => exact b1
/-- a list comprehension over things of a kind -/
theorem compA {α : Type} {elt : E} {t : Tgt} {it : I} {c : Option E} {env env1 : Env} (emb : α → D) (ms : List α) (env2 : α → Env) (p : α → Bool) (g : α → D)
    (hi : items ev it env = .ok (ms.map emb, env1)) (hl : ms.length ≤ most) (hp : (tslots t).all (plainAt env1) = true)
    (h1 : ∀ a ∈ ms, assignT t (emb a) (wipeE env1 (tslots t)) = some (env2 a) ∧ wipeE (env2 a) (tslots t) = wipeE env1 (tslots t))
    (h2 : ∀ a ∈ ms, (match c with | none => p a = true | some c => truthE ev c (env2 a) = .ok (p a, env2 a)) ∧ (p a = true → evD ev elt (env2 a) = .ok (g a, env2 a))) :
    stepE T ev exs (.comp elt t it c) env = .ok (.lst (((ms.filter p).map g).map .val), env1) := by
  rw [stepE_comp, hi]
  show (if (ms.map emb).length ≤ most ∧ (tslots t).all (plainAt env1) = true then _ else _) = _
  rw [if_pos ⟨by rw [List.length_map]; exact hl, hp⟩]
  obtain ⟨envE, e1, e2⟩ := turnsA (ev := ev) (elt := elt) (t := t) (c := c) (own := tslots t) (emb := emb) (env2 := env2) (p := p) (g := g) (env0 := wipeE env1 (tslots t)) (ms := ms) (env := env1) rfl h1 h2
  rw [e1]
  show Res.ok (O.lst _, backE env1 envE (tslots t)) = _
  rw [backE_wipe e2]
theorem compM {α : Type} {elt : E} {t : Tgt} {it : I} {env env1 : Env} (emb : α → D) (ms : List α) (env2 : α → Env) (g : α → D)
    (hi : items ev it env = .ok (ms.map emb, env1)) (hl : ms.length ≤ most) (hp : (tslots t).all (plainAt env1) = true)
    (h1 : ∀ a ∈ ms, assignT t (emb a) (wipeE env1 (tslots t)) = some (env2 a) ∧ wipeE (env2 a) (tslots t) = wipeE env1 (tslots t))
    (h2 : ∀ a ∈ ms, evD ev elt (env2 a) = .ok (g a, env2 a)) :
    stepE T ev exs (.comp elt t it none) env = .ok (.lst ((ms.map g).map .val), env1) := by
  have := compA (T := T) (exs := exs) (c := none) emb ms env2 (fun _ => true) g hi hl hp h1 fun a ha => ⟨rfl, fun _ => h2 a ha⟩
  rwa [show ms.filter (fun _ => true) = ms from List.filter_eq_self.mpr fun _ _ => rfl] at this
theorem compF {α : Type} {elt : E} {t : Tgt} {it : I} {c : E} {env env1 : Env} (emb : α → D) (ms : List α) (env2 : α → Env) (p : α → Bool) (g : α → D)
    (hi : items ev it env = .ok (ms.map emb, env1)) (hl : ms.length ≤ most) (hp : (tslots t).all (plainAt env1) = true)
    (h1 : ∀ a ∈ ms, assignT t (emb a) (wipeE env1 (tslots t)) = some (env2 a) ∧ wipeE (env2 a) (tslots t) = wipeE env1 (tslots t))
    (h2 : ∀ a ∈ ms, truthE ev c (env2 a) = .ok (p a, env2 a)) (h3 : ∀ a ∈ ms, evD ev elt (env2 a) = .ok (g a, env2 a)) :
    stepE T ev exs (.comp elt t it (some c)) env = .ok (.lst (((ms.filter p).map g).map .val), env1) :=
  compA (T := T) (exs := exs) (c := some c) emb ms env2 p g hi hl hp h1 fun a ha => ⟨h2 a ha, fun _ => h3 a ha⟩
/-- a call that lends -/
theorem callA_run {f : Nat} {as : List (Option Nat × D)} {env env' : Env} {os : List O} {o : O} (hl : (lent as).Nodup) (hk : lentOk T f as = true) (ha : argOs env as = some os) (h : callF T exs f os = .ok (o, env')) : callA T exs f as env = .ok (o, backs env as env') := by
  unfold callA
  rw [if_pos ⟨hl, hk⟩, ha]
  show (callF T exs f os).bind _ = _
  rw [h]
  rfl
theorem items_seq {e : E} {env env1 : Env} {xs : List D} (h : evD ev e env = .ok (.list xs, env1)) : items ev (.seq e) env = .ok (xs, env1) := by
  show (evD ev e env).bind _ = _; rw [h]; rfl
theorem items_seqT {e : E} {env env1 : Env} {xs : List D} (h : evD ev e env = .ok (.tuple xs, env1)) : items ev (.seq e) env = .ok (xs, env1) := by
  show (evD ev e env).bind _ = _; rw [h]; rfl
theorem items_zipT {a b : E} {env env1 env2 : Env} {xs ys : List D} (h : evD ev a env = .ok (.tuple xs, env1)) (h2 : evD ev b env1 = .ok (.tuple ys, env2)) : items ev (.zip a b) env = .ok (List.zipWith (fun x y => .tuple [x, y]) xs ys, env2) := by
  show (evD ev a env).bind _ = _; rw [h, okb, h2]; rfl
theorem items_range2 {a b : E} {env env1 env2 : Env} {i j : Int} (h : evD ev a env = .ok (.int i, env1)) (h2 : evD ev b env1 = .ok (.int j, env2)) (h3 : -1000000 ≤ i ∧ i ≤ 1000000 ∧ -1000000 ≤ j ∧ j ≤ 1000000 ∧ j - i ≤ 1000000) : items ev (.range2 a b) env = .ok (rangeD i j, env2) := by
  have e1 : (okRange i && okRange j && decide (j - i ≤ most)) = true := by
    simp only [okRange, Bool.and_eq_true, decide_eq_true_eq]
    refine ⟨⟨⟨by omega, by omega⟩, by omega, by omega⟩, ?_⟩
    show j - i ≤ ((1000000 : Nat) : Int)
    omega
  show (evD ev a env).bind _ = _
  rw [h, okb, h2]
  show (if (okRange i && okRange j && decide (j - i ≤ most)) = true then Res.ok (rangeD i j, env2) else .stuck) = _
  rw [if_pos e1]
/-- a told list, a told number -/
theorem evD_lst {e : E} {env env1 : Env} {ds : List D} (h : ev e env = .ok (.lst (ds.map .val), env1)) : evD ev e env = .ok (.list ds, env1) := by
  unfold evD
  rw [h, okb]
  show (if O.trees (ds.map .val) = true then Res.ok (PyData.list (O.toDs (ds.map .val)), env1) else .stuck) = _
  rw [if_pos (trees_val ds), toDs_val]
theorem evD_val {e : E} {env env1 : Env} {d : D} (h : ev e env = .ok (.val d, env1)) : evD ev e env = .ok (d, env1) := by
  unfold evD
  rw [h, okb]
  rfl
theorem bools_map {α : Type} (q : α → Bool) : ∀ ms : List α, bools? (ms.map fun a => PyData.bool (q a)) = some (ms.map q)
  | [] => rfl
  | a :: ms => by show (bools? (ms.map _)).map _ = _; rw [bools_map q ms]; rfl
theorem u_all {α : Type} (q : α → Bool) (ms : List α) : ev1 .all (.list (ms.map fun a => .bool (q a))) = some (.val (.bool (ms.all q))) := by
  show (bools? _).map _ = _
  rw [bools_map]
  show some (O.val (.bool ((ms.map q).all id))) = _
  rw [List.all_map]
  rfl
theorem u_any {α : Type} (q : α → Bool) (ms : List α) : ev1 .any (.list (ms.map fun a => .bool (q a))) = some (.val (.bool (ms.any q))) := by
  show (bools? _).map _ = _
  rw [bools_map]
  show some (O.val (.bool ((ms.map q).any id))) = _
  rw [List.any_map]
  rfl
end
/-! values that are the same -/
theorem plain_ints : ∀ ns : List Int, PyData.plainAll (ns.map .int) = true
  | [] => rfl
  | n :: ns => by show (true && PyData.plainAll (ns.map .int)) = true; rw [plain_ints ns]; rfl
theorem v_eqA {α : Type} [DecidableEq α] [W.Datum α] (x y : α) (h : W.Datum.depth α ≤ 20) : ev2 .eq (W.Datum.toD x) (W.Datum.toD y) = some (.val (.bool (decide (x = y)))) := by
  simp only [ev2]
  rw [W.Datum.plain, W.Datum.plain, W.Datum.eqv, decide_eq_true (Nat.le_trans (W.Datum.depth_le x) h)]
  rfl
theorem v_neA {α : Type} [DecidableEq α] [W.Datum α] (x y : α) (h : W.Datum.depth α ≤ 20) : ev2 .ne (W.Datum.toD x) (W.Datum.toD y) = some (.val (.bool (!decide (x = y)))) := by
  simp only [ev2]
  rw [W.Datum.plain, W.Datum.plain, W.Datum.eqv, decide_eq_true (Nat.le_trans (W.Datum.depth_le x) h)]
  rfl
theorem v_innA {α : Type} [DecidableEq α] [W.Datum α] (x : α) (ys : List α) (h : W.Datum.depth α ≤ 20) : ev2 .inn (W.Datum.toD x) (.list (ys.map W.Datum.toD)) = some (.val (.bool (decide (x ∈ ys)))) := by
  simp only [ev2, seq?]
  rw [W.Datum.plain, W.plainAll_map, W.any_datum, decide_eq_true (Nat.le_trans (W.Datum.depth_le x) h)]
  rfl
theorem v_ninA {α : Type} [DecidableEq α] [W.Datum α] (x : α) (ys : List α) (h : W.Datum.depth α ≤ 20) : ev2 .nin (W.Datum.toD x) (.list (ys.map W.Datum.toD)) = some (.val (.bool (!decide (x ∈ ys)))) := by
  simp only [ev2, seq?]
  rw [W.Datum.plain, W.plainAll_map, W.any_datum, decide_eq_true (Nat.le_trans (W.Datum.depth_le x) h)]
  rfl
theorem v_eqL (xs ys : List Int) : ev2 .eq (.list (xs.map .int)) (.list (ys.map .int)) = some (.val (.bool (decide (xs = ys)))) := v_eqA xs ys (by decide)
theorem v_neL (xs ys : List Int) : ev2 .ne (.list (xs.map .int)) (.list (ys.map .int)) = some (.val (.bool (!decide (xs = ys)))) := v_neA xs ys (by decide)
theorem v_neL0 (xs : List Int) : ev2 .ne (.list (xs.map .int)) (.list []) = some (.val (.bool (!decide (xs = [])))) := v_neA xs [] (by decide)
theorem v_eqL0 (xs : List Int) : ev2 .eq (.list (xs.map .int)) (.list []) = some (.val (.bool (decide (xs = [])))) := v_eqA xs [] (by decide)
theorem v_innI (x : Int) (ys : List Int) : ev2 .inn (.int x) (.list (ys.map .int)) = some (.val (.bool (decide (x ∈ ys)))) := v_innA x ys (by decide)
theorem v_ninI (x : Int) (ys : List Int) : ev2 .nin (.int x) (.list (ys.map .int)) = some (.val (.bool (!decide (x ∈ ys)))) := v_ninA x ys (by decide)
theorem v_neP (a b c d : Int) : ev2 .ne (.tuple [.int a, .int b]) (.tuple [.int c, .int d]) = some (.val (.bool (!decide ((a, b) = (c, d))))) := v_neA (a, b) (c, d) (by decide)
theorem v_eqP (a b c d : Int) : ev2 .eq (.tuple [.int a, .int b]) (.tuple [.int c, .int d]) = some (.val (.bool (decide ((a, b) = (c, d))))) := v_eqA (a, b) (c, d) (by decide)
end Ev
namespace Ev
open PySem
section
variable {T : Tab} {ev : E → Env → Res (O × Env)} {exs : List S → Env → Res (Fl × Env)}
theorem seq_next {f : S → Env → Res (Fl × Env)} {s : S} {r : List S} {env env1 : Env} {X : Res (Fl × Env)} (h1 : f s env = .ok (.next, env1)) (h2 : seqS f r env1 = X) : seqS f (s :: r) env = X := by
  show (f s env).bind _ = _; rw [h1]; exact h2
theorem seq_ret {f : S → Env → Res (Fl × Env)} {s : S} {r : List S} {env env1 : Env} {o : O} (h1 : f s env = .ok (.ret o, env1)) : seqS f (s :: r) env = .ok (.ret o, env1) := by
  show (f s env).bind _ = _; rw [h1]; rfl
theorem seq_nil {f : S → Env → Res (Fl × Env)} {env : Env} : seqS f [] env = .ok (.next, env) := rfl
theorem one_asg {i : Nat} {e : E} {env env1 : Env} {d : D} (he : evD ev e env = .ok (d, env1)) (hi : i < env1.length) : one T ev exs (.asg (.nm i) e) env = .ok (.next, setO env1 i (.val d)) := by
  show (evD ev e env).bind _ = _
  rw [he]
  show (match (if i < env1.length then some (setO env1 i (.val d)) else none) with | some env' => Res.ok (Fl.next, env') | none => .stuck) = _
  rw [if_pos hi]
theorem one_ifT {c : E} {a b : List S} {env env1 : Env} {X : Res (Fl × Env)} (hc : truthE ev c env = .ok (true, env1)) (h : exs a env1 = X) : one T ev exs (.ifS c a b) env = X := by
  show (truthE ev c env).bind _ = _; rw [hc]; exact h
theorem one_ifF {c : E} {a b : List S} {env env1 : Env} {X : Res (Fl × Env)} (hc : truthE ev c env = .ok (false, env1)) (h : exs b env1 = X) : one T ev exs (.ifS c a b) env = X := by
  show (truthE ev c env).bind _ = _; rw [hc]; exact h
theorem one_for {t : Tgt} {it : I} {body : List S} {env env1 : Env} {ds : List D} {X : Res (Fl × Env)} (hi : items ev it env = .ok (ds, env1)) (h : loopF (exs body) t ds env1 = X) : one T ev exs (.forS t it body) env = X := by
  show (items ev it env).bind _ = _; rw [hi]; exact h
theorem one_app {i : Nat} {e : E} {env : Env} {d : D} {xs : List O} (h0 : (env[i]?).join = some (.lst xs)) (he : evD ev e env = .ok (d, env)) (hl : xs.length < most) : one T ev exs (.app i e) env = .ok (.next, setO env i (.lst (xs ++ [.val d]))) := by
  show (match (env[i]?).join with
    | some (.lst _) => (evD ev e env).bind fun p => match (p.2[i]?).join with
      | some (.lst xs) => if xs.length < most then (Res.ok (Fl.next, setO p.2 i (.lst (xs ++ [O.val p.1]))) : Res (Fl × Env)) else .stuck
      | _ => .stuck
    | _ => .stuck) = _
  rw [h0]
  dsimp only
  rw [he, okb]
  dsimp only
  rw [h0]
  dsimp only
  rw [if_pos hl]
theorem loop_cnt {body : Env → Res (Fl × Env)} {t : Tgt} (Inv : Nat → Env → Prop) : ∀ {ds : List D} {env : Env}, Inv ds.length env → (∀ d ∈ ds, ∀ k env, Inv (k + 1) env → ∃ env1 env2, assignT t d env = some env1 ∧ body env1 = .ok (.next, env2) ∧ Inv k env2) → ∃ env', loopF body t ds env = .ok (.next, env') ∧ Inv 0 env'
  | [], env, h, _ => ⟨env, rfl, h⟩
  | d :: ds, env, h, step => by
    obtain ⟨env1, env2, h1, h2, h3⟩ := step d List.mem_cons_self ds.length env h
    obtain ⟨env', e1, e2⟩ := loop_cnt Inv (ds := ds) h3 fun d hd => step d (List.mem_cons_of_mem _ hd)
    refine ⟨env', ?_, e2⟩
    unfold loopF
    rw [h1]
    dsimp only
    rw [h2]
    exact e1
/-- a loop that puts item behind item -/
theorem loop_all {α : Type} {body : Env → Res (Fl × Env)} {t : Tgt} (emb : α → D) (st : List α → Option O → Env) (m : Nat) (P : α → Prop) (Q : Option O → Prop)
    (step : ∀ done a x, done.length ≤ m → P a → ∃ env1 y, assignT t (emb a) (st done x) = some env1 ∧ body env1 = .ok (.next, st (done ++ [a]) y) ∧ Q y) :
    ∀ (ms done : List α) (x : Option O), Q x → done.length + ms.length ≤ m → (∀ a ∈ ms, P a) → ∃ y, Q y ∧ loopF body t (ms.map emb) (st done x) = .ok (.next, st (done ++ ms) y)
  | [], done, x, q, _, _ => ⟨x, q, by rw [List.append_nil]; rfl⟩
  | a :: ms, done, x, q, h, hp => by
    have h' : done.length + (ms.length + 1) ≤ m := h
    obtain ⟨env1, y, h1, h2, hq⟩ := step done a x (by omega) (hp a List.mem_cons_self)
    obtain ⟨y', hy', e⟩ := loop_all emb st m P Q step ms (done ++ [a]) y hq (by rw [List.length_append, List.length_singleton]; omega) fun b hb => hp b (List.mem_cons_of_mem _ hb)
    refine ⟨y', hy', ?_⟩
    rw [List.append_assoc, List.singleton_append] at e
    rw [List.map_cons]
    unfold loopF
    rw [h1]
    dsimp only
    rw [h2]
    exact e
theorem Sm_of18 {i : Int} (h1 : -1000000000000000000 ≤ i) (h2 : i ≤ 1000000000000000000) : Sm i := sm_le (m := 2 ^ 60) (by omega) (pow_k (k := big) (by decide))
theorem Sm_bits {i j : Int} (h : i.natAbs < 2 ^ 1048576) (hj : j.natAbs ≤ i.natAbs + 1) : Sm j := by
  refine sm_le (m := 2 ^ 1048577) ?_ (Nat.pow_le_pow_right (by decide) (by decide))
  rw [show (1048577 : Nat) = 1048576 + 1 from rfl, Nat.pow_succ]
  generalize 2 ^ 1048576 = M at *
  omega
end
end Ev
namespace Ev
open PySem
section
variable {T : Tab} {n : Nat} {exs : List S → Env → Res (Fl × Env)} {ev : E → Env → Res (O × Env)}
theorem evD_op1 {o : Op1} {a : E} {env env1 : Env} {x r : D} (ha : evD (evN T n) a env = .ok (x, env1)) (h : ev1 o x = some (.val r)) : evD (evN T (n + 1)) (.op1 o a) env = .ok (r, env1) := by
  refine evD_val ?_
  rw [evS, stepE_op1, ha, okb]
  dsimp only
  rw [h]
theorem one_ret {e : E} {env env1 : Env} {d : D} (h : evD ev e env = .ok (d, env1)) : one T ev exs (.ret e) env = .ok (.ret (.val d), env1) := by
  show (evD ev e env).bind _ = _
  rw [h]; rfl
theorem one_expr {e : E} {env env1 : Env} {o : O} (h : ev e env = .ok (o, env1)) : one T ev exs (.expr e) env = .ok (.next, env1) := by
  show (ev e env).bind _ = _
  rw [h]; rfl
theorem callF_ret {f : Nat} {d : FDef} {n : Nat} {os : List O} {env : Env} {o : O} {e0 x : Env} (hf : T.fs[f]? = some d) (hl : os.length = d.np) (h0 : os.map some ++ List.replicate (d.ns - d.np) none = e0) (hx : exN T n d.body e0 = .ok (.ret o, env)) (hw : wipeE (env.take d.np) (asgds d.body) = x) : callF T (exN T n) f os = .ok (o, x) := by
  unfold callF
  rw [hf]
  dsimp only
  rw [if_pos hl, h0, hx, okb]
  dsimp only
  rw [hw]
end
end Ev

end
section
set_option autoImplicit false
set_option linter.all false
set_option maxRecDepth 100000
/-! What the head says, and that its errors may be asked by isinstance. -/
namespace Ev
open PySem PySem.Spec PyProof.Rows L2
def excB (K : PySem.W.Frag) (C : Addr) : Bool :=
  He.eqO (PySem.W.findIn K (.ref C) "__getattribute__") (some (some (.builtin "BaseException.__getattribute__"))) &&
  (He.eqO (PySem.W.findIn K (.ref C) "__getattr__") (some none) &&
  (decide (PySem.W.subIn K (.ref C) (.type "BaseException") = some true) &&
  (PySem.W.hasDictIn K C &&
  (He.eqO (PySem.W.findIn K (.ref C) "__class__") (some (some (.builtin "object.__class__"))) &&
  (He.eqO (PySem.W.specialIn K (.builtin "object.__class__") "__get__") (some (some (.builtin "getset_descriptor.__get__"))) &&
  (decide (PySem.W.takesIn K (.builtin "object.__class__") = some true) &&
  decide (PySem.W.mroIn K C (.type "object") = some true)))))))
theorem excB_ok {K : PySem.W.Frag} {C : Addr} (h : excB K C = true) : L2.ExcC K C := by
  unfold excB at h
  simp only [Bool.and_eq_true, decide_eq_true_eq] at h
  obtain ⟨h1, h2, h3, h4, h5, h6, h7, h8⟩ := h
  exact ⟨He.eqO_ok h1, He.eqO_ok h2, h3, h4, He.eqO_ok h5, He.eqO_ok h6, h7, h8⟩
def obsE (n : Nat) (fa : List He.Fa) (fn : List He.DefD) (xs : List Str) (g : Addr → Option Obj) : He.AlD × Bool :=
  (He.obsDG n fa fn g, xs.all fun x => excB (He.frG g (He.asD g n)) (He.ga (He.frG g (He.asD g n)) x))
def SaysE (fa : List He.Fa) (fn : List He.DefD) (xs : List Str) (K : PySem.W.Frag) : Prop := He.SaysD fa fn K ∧ ∀ x ∈ xs, excB K (He.ga K x) = true
def hookE (n : Nat) (fa : List He.Fa) (fn : List He.DefD) (xs : List Str) : PySem.W.Hook where
  α := He.AlD × Bool
  obs := fun s => obsE n fa fn xs s.heap.get?
  val := fun _ => (He.valD fn, true)
  says := fun _ h => ∃ K : PySem.W.Frag, K.In h ∧ SaysE fa fn xs K
  of := fun _ s e => ⟨_, He.frG_in, congrArg Prod.fst e, fun x hx => List.all_eq_true.mp (congrArg Prod.snd e) x hx⟩
  keeps := fun _ _ _ ⟨K, hK, c⟩ k => ⟨K, hK.keeps k, c⟩
theorem obsE_eq {n : Nat} {fa : List He.Fa} {fn : List He.DefD} {xs : List Str} {g : Addr → Option Obj} {s : Shared} (h : ∀ a, g a = s.heap.get? a) : obsE n fa fn xs g = (hookE n fa fn xs).obs s := by
  rw [show g = s.heap.get? from funext h]; rfl
theorem SaysE.exc {fa : List He.Fa} {fn : List He.DefD} {xs : List Str} {K : PySem.W.Frag} (c : SaysE fa fn xs K) (i : Nat) (x : Str) (h : xs[i]? = some x) : L2.ExcC K (He.ga K x) := excB_ok (c.2 x (List.mem_of_getElem? h))
/-- isinstance, where the head says of except -/
theorem kit_of {K : PySem.W.Frag} {t c : Value} {b : Bool} (h1 : PySem.W.exmOne K t t = some true) (h : PySem.W.exmOne K t c = some b) : PySem.W.kitOne K t c = some b := by
  unfold PySem.W.kitOne
  by_cases e : (t == c) = true
  · rw [if_pos e]
    have e' : t = c := by simpa using e
    subst e'
    rw [h1] at h
    exact h
  · rw [if_neg e]
    unfold PySem.W.exmOne at h
    split at h
    · exact h
    · cases h
end Ev

end
section
set_option Elab.async false
set_option linter.all false
set_option maxRecDepth 100000
set_option maxHeartbeats 0
namespace Hd
open PySem PySem.Spec PyProof.Rows L2
def top (i : Nat) : Stmt := PySem.Challenge.pw_chimeward_k03_whole_discs_of_many_teeth.main.body.getD i (.Pass ⟨0, 0, 0, 0⟩)
def d0 : He.DefD := ⟨("is_integer", none), "is_integer", "is_integer", defArgs (top 4), defBody (top 4), defScope (top 4), [], []⟩
def d1 : He.DefD := ⟨("is_within", none), "is_within", "is_within", defArgs (top 5), defBody (top 5), defScope (top 5), [], []⟩
def d2 : He.DefD := ⟨("check", none), "check", "check", defArgs (top 6), defBody (top 6), defScope (top 6), [], []⟩
def d3 : He.DefD := ⟨("check_there", none), "check_there", "check_there", defArgs (top 7), defBody (top 7), defScope (top 7), [], []⟩
def d4 : He.DefD := ⟨("shared", none), "shared", "shared", defArgs (top 8), defBody (top 8), defScope (top 8), [], []⟩
def d5 : He.DefD := ⟨("ratio", none), "ratio", "ratio", defArgs (top 9), defBody (top 9), defScope (top 9), [], []⟩
def d6 : He.DefD := ⟨("is_count", none), "is_count", "is_count", defArgs (top 10), defBody (top 10), defScope (top 10), [], []⟩
def d7 : He.DefD := ⟨("is_disc", none), "is_disc", "is_disc", defArgs (top 18), defBody (top 18), defScope (top 18), [], []⟩
def d8 : He.DefD := ⟨("is_ratio_moons", none), "is_ratio", "is_ratio", defArgs (top 19), defBody (top 19), defScope (top 19), [], []⟩
def d9 : He.DefD := ⟨("is_true_round", none), "is_true_round", "is_true_round", defArgs (top 21), defBody (top 21), defScope (top 21), [], []⟩
def d10 : He.DefD := ⟨("check_disc", none), "check_disc", "check_disc", defArgs (top 22), defBody (top 22), defScope (top 22), [], []⟩
def d11 : He.DefD := ⟨("check_both", none), "check_both", "check_both", defArgs (top 23), defBody (top 23), defScope (top 23), [], []⟩
def d12 : He.DefD := ⟨("round_by", none), "round_by", "round_by", defArgs (top 24), defBody (top 24), defScope (top 24), [], []⟩
def d13 : He.DefD := ⟨("drift_by", none), "drift_by", "drift_by", defArgs (top 25), defBody (top 25), defScope (top 25), [], []⟩
def d14 : He.DefD := ⟨("round_of_disc", none), "round_of_disc", "round_of_disc", defArgs (top 26), defBody (top 26), defScope (top 26), [], []⟩
def d15 : He.DefD := ⟨("drift_of", none), "drift_of", "drift_of", defArgs (top 27), defBody (top 27), defScope (top 27), [], []⟩
def d16 : He.DefD := ⟨("rounds_within", none), "rounds_within", "rounds_within", defArgs (top 28), defBody (top 28), defScope (top 28), [], []⟩
def d17 : He.DefD := ⟨("wrong_by", none), "wrong_by", "wrong_by", defArgs (top 29), defBody (top 29), defScope (top 29), [], []⟩
def d18 : He.DefD := ⟨("is_less", none), "is_less", "is_less", defArgs (top 30), defBody (top 30), defScope (top 30), [], []⟩
def d19 : He.DefD := ⟨("best_with", none), "best_with", "best_with", defArgs (top 31), defBody (top 31), defScope (top 31), [], []⟩
def d20 : He.DefD := ⟨("check_most", none), "check_most", "check_most", defArgs (top 32), defBody (top 32), defScope (top 32), [], []⟩
def d21 : He.DefD := ⟨("bests_by", none), "bests_by", "bests_by", defArgs (top 33), defBody (top 33), defScope (top 33), [], []⟩
def d22 : He.DefD := ⟨("best_disc", none), "best_disc", "best_disc", defArgs (top 34), defBody (top 34), defScope (top 34), [], []⟩
def d23 : He.DefD := ⟨("row_of_bests", none), "row_of_bests", "row_of_bests", defArgs (top 35), defBody (top 35), defScope (top 35), [], []⟩
def d24 : He.DefD := ⟨("tooth_by", none), "tooth_by", "tooth_by", defArgs (top 36), defBody (top 36), defScope (top 36), [], []⟩
def d25 : He.DefD := ⟨("check_hours", none), "check_hours", "check_hours", defArgs (top 37), defBody (top 37), defScope (top 37), [], []⟩
def d26 : He.DefD := ⟨("tooth_at", none), "tooth_at", "tooth_at", defArgs (top 38), defBody (top 38), defScope (top 38), [], []⟩
def d27 : He.DefD := ⟨("next_at", none), "next_at", "next_at", defArgs (top 39), defBody (top 39), defScope (top 39), [], []⟩
def d28 : He.DefD := ⟨("phase_at", none), "phase_at", "phase_at", defArgs (top 40), defBody (top 40), defScope (top 40), [], []⟩
def d29 : He.DefD := ⟨("least_correction", none), "least_correction", "least_correction", defArgs (top 41), defBody (top 41), defScope (top 41), [], []⟩
def d30 : He.DefD := ⟨("same_show", none), "same_show", "same_show", defArgs (top 42), defBody (top 42), defScope (top 42), [], []⟩
def d31 : He.DefD := ⟨("lettings_until", none), "lettings_until", "lettings_until", defArgs (top 43), defBody (top 43), defScope (top 43), [], []⟩
def d32 : He.DefD := ⟨("visits_all", none), "visits_all", "visits_all", defArgs (top 44), defBody (top 44), defScope (top 44), [], []⟩
def d33 : He.DefD := ⟨("is_ratio", none), "is_ratio", "is_ratio", defArgs (top 46), defBody (top 46), defScope (top 46), [], []⟩
def d34 : He.DefD := ⟨("is_ratio_checktower", none), "is_ratio", "is_ratio", defArgs (top 46), defBody (top 46), defScope (top 46), [], []⟩
def d35 : He.DefD := ⟨("takes_drift", none), "takes_drift", "takes_drift", defArgs (top 48), defBody (top 48), defScope (top 48), [], []⟩
def d36 : He.DefD := ⟨("_law_draws", none), "_law_draws", "_law_draws", defArgs (top 50), defBody (top 50), defScope (top 50), [], []⟩
def d37 : He.DefD := ⟨("_law_same", none), "_law_same", "_law_same", defArgs (top 51), defBody (top 51), defScope (top 51), [], []⟩
def d38 : He.DefD := ⟨("_law_take", none), "_law_take", "_law_take", defArgs (top 52), defBody (top 52), defScope (top 52), [], []⟩
def d39 : He.DefD := ⟨("_law_pick", none), "_law_pick", "_law_pick", defArgs (top 53), defBody (top 53), defScope (top 53), [], []⟩
def d40 : He.DefD := ⟨("_law_ratio", none), "_law_ratio", "_law_ratio", defArgs (top 54), defBody (top 54), defScope (top 54), [], []⟩
def d41 : He.DefD := ⟨("_law_plus", none), "_law_plus", "_law_plus", defArgs (top 55), defBody (top 55), defScope (top 55), [], []⟩
def d42 : He.DefD := ⟨("_law_is_at_most", none), "_law_is_at_most", "_law_is_at_most", defArgs (top 56), defBody (top 56), defScope (top 56), [], []⟩
def d43 : He.DefD := ⟨("_law_disc", none), "_law_disc", "_law_disc", defArgs (top 57), defBody (top 57), defScope (top 57), [], []⟩
def d44 : He.DefD := ⟨("_law_round", none), "_law_round", "_law_round", defArgs (top 58), defBody (top 58), defScope (top 58), [], []⟩
def d45 : He.DefD := ⟨("_law_drift", none), "_law_drift", "_law_drift", defArgs (top 59), defBody (top 59), defScope (top 59), [], []⟩
def d46 : He.DefD := ⟨("_law_true", none), "_law_true", "_law_true", defArgs (top 60), defBody (top 60), defScope (top 60), [], []⟩
def d47 : He.DefD := ⟨("_law_off", none), "_law_off", "_law_off", defArgs (top 61), defBody (top 61), defScope (top 61), [], []⟩
def d48 : He.DefD := ⟨("_law_are_bests_due", none), "_law_are_bests_due", "_law_are_bests_due", defArgs (top 62), defBody (top 62), defScope (top 62), [], []⟩
def d49 : He.DefD := ⟨("law", none), "law", "law", defArgs (top 63), defBody (top 63), defScope (top 63), [], []⟩
def fn : List He.DefD := ([d0, d1, d2, d3, d4, d5, d6, d7, d8, d9, d10, d11, d12, d13, d14, d15, d16, d17, d18, d19, d20, d21, d22, d23, d24, d25, d26, d27, d28, d29] : List He.DefD) ++ ([d30, d31, d32, d33, d34, d35, d36, d37, d38, d39, d40, d41, d42, d43, d44, d45, d46, d47, d48, d49] : List He.DefD)
def fa : List He.Fa := ([.glo "is_integer", .glo "is_within", .glo "check", .glo "check_there", .glo "shared", .glo "ratio", .glo "is_count", .glo "is_disc", .glo "is_ratio_moons", .glo "is_true_round", .glo "check_disc", .glo "check_both", .glo "round_by", .glo "drift_by", .glo "round_of_disc", .glo "drift_of", .glo "rounds_within", .glo "wrong_by", .glo "is_less", .glo "best_with", .glo "check_most", .glo "bests_by", .glo "best_disc", .glo "row_of_bests", .glo "tooth_by", .glo "check_hours", .glo "tooth_at", .glo "next_at", .glo "phase_at", .glo "least_correction"] : List He.Fa) ++ ([.glo "same_show", .glo "lettings_until", .glo "visits_all", .glo "is_ratio", .glo "is_ratio_checktower", .glo "takes_drift", .glo "_law_draws", .glo "_law_same", .glo "_law_take", .glo "_law_pick", .glo "_law_ratio", .glo "_law_plus", .glo "_law_is_at_most", .glo "_law_disc", .glo "_law_round", .glo "_law_drift", .glo "_law_true", .glo "_law_off", .glo "_law_are_bests_due", .glo "law", .free "abs", .free "all", .free "bool", .free "dict", .free "int", .free "isinstance", .free "len", .free "list", .free "max", .free "min"] : List He.Fa) ++ ([.free "range", .free "repr", .free "reversed", .free "sorted", .free "str", .free "tuple", .int "LEAST_TEETH" 2, .int "MOST_TEETH" 400, .int "MOST_EVERY" 48, .int "LONGEST" 10000, .int "MOST_ROUNDS" 1000, .int "MOST_PARTS" 100, .glo "ChimeError", .keep "ChimeError", .glo "NotRight", .keep "NotRight", .glo "NotThere", .keep "NotThere", .exc "ChimeError", .exc "NotRight", .exc "NotThere", .exm "ChimeError" "ChimeError" true, .exm "ChimeError" "NotRight" false, .exm "ChimeError" "NotThere" false, .exm "NotRight" "ChimeError" true, .exm "NotRight" "NotRight" true, .exm "NotRight" "NotThere" false, .exm "NotThere" "ChimeError" true, .exm "NotThere" "NotRight" false, .exm "NotThere" "NotThere" true] : List He.Fa)
abbrev R : PySem.W.OpenRow := PySem.W.OpenLaw.row PySem.Challenge.rw_chimeward_k03_whole_discs_of_many_teeth
def exn : List Str := []
abbrev hk : PySem.W.Hook := Ev.hookE 5 fa fn exn
def ob (s : PySem.W.SharedT) : He.AlD × Bool := Ev.obsE 5 fa fn exn (HandSHeadRun.getT s)
theorem ob_eq (s : PySem.W.SharedT) : ob s = hk.obs s.abs := Ev.obsE_eq (HandSHeadRun.getT_eq s)
def loose : List Str := (["is_integer", "is_within", "check", "check_there", "shared", "ratio", "is_count", "is_disc", "is_ratio_moons", "is_true_round", "check_disc", "check_both", "round_by", "drift_by", "round_of_disc", "drift_of", "rounds_within", "wrong_by", "is_less", "best_with", "check_most", "bests_by", "best_disc", "row_of_bests", "tooth_by", "check_hours", "tooth_at", "next_at", "phase_at", "least_correction"] : List Str) ++ (["same_show", "lettings_until", "visits_all", "is_ratio", "is_ratio_checktower", "takes_drift", "_law_draws", "_law_same", "_law_take", "_law_pick", "_law_ratio", "_law_plus", "_law_is_at_most", "_law_disc", "_law_round", "_law_drift", "_law_true", "_law_off", "_law_are_bests_due", "LEAST_TEETH", "MOST_TEETH", "MOST_EVERY", "LONGEST", "MOST_ROUNDS", "MOST_PARTS", "ChimeError", "NotRight", "NotThere"] : List Str)
theorem run (w : World) : HandSHeadRun.RunEq R (PySem.W.view R.prog [63]) hk ob 4000 loose w := by
  intro os
  kernel_rfl

def f0 : Ev.FDef := ⟨1, 1, [(.ret (.and (.op1 (.isT .int) (.var 0)) (.not (.op1 (.isT .bool) (.var 0)))))]⟩ -- is_integer
def f1 : Ev.FDef := ⟨3, 3, [(.ret (.and (.call 0 [(.var 0)]) (.chain .le .le (.var 1) (.var 0) (.var 2))))]⟩ -- is_within
def f2 : Ev.FDef := ⟨1, 1, [(.ifS (.not (.var 0)) [(.raise 1)] [])]⟩ -- check
def f3 : Ev.FDef := ⟨1, 1, [(.ifS (.not (.var 0)) [(.raise 2)] [])]⟩ -- check_there
def f4 : Ev.FDef := ⟨2, 2, [(.par [0, 1] [false, false] [(.op1 .abs (.var 0)), (.op1 .abs (.var 1))]), (.whileS (.op2 .gt (.var 1) (.int 0)) [(.par [0, 1] [false, false] [(.var 1), (.op2 .mod (.var 0) (.var 1))])]), (.ret (.var 0))]⟩ -- shared
def f5 : Ev.FDef := ⟨2, 3, [(.asg (.nm 2) (.call 4 [(.var 0), (.var 1)])), (.ret (.tup [(.op2 .fdiv (.var 0) (.var 2)), (.op2 .fdiv (.var 1) (.var 2))]))]⟩ -- ratio
def f6 : Ev.FDef := ⟨1, 1, [(.ret (.and (.call 0 [(.var 0)]) (.op2 .ge (.var 0) (.int 0))))]⟩ -- is_count
def f7 : Ev.FDef := ⟨1, 1, [(.ifS (.or (.not (.op1 (.isT .tuple) (.var 0))) (.or (.op2 .ne (.op1 .len (.var 0)) (.int 3)) (.not (.call 1 [(.op2 .idx (.var 0) (.int 0)), (.glb 0), (.glb 1)])))) [(.ret (.bl false))] []), (.ret (.and (.call 1 [(.op2 .idx (.var 0) (.int 1)), (.int 1), (.op2 .idx (.var 0) (.int 0))]) (.call 1 [(.op2 .idx (.var 0) (.int 2)), (.int 1), (.glb 2)])))]⟩ -- is_disc
def f8 : Ev.FDef := ⟨1, 1, [(.ifS (.or (.not (.op1 (.isT .tuple) (.var 0))) (.or (.op2 .ne (.op1 .len (.var 0)) (.int 2)) (.or (.not (.call 0 [(.op2 .idx (.var 0) (.int 0))])) (.not (.call 0 [(.op2 .idx (.var 0) (.int 1))]))))) [(.ret (.bl false))] []), (.ret (.and (.op2 .gt (.op2 .idx (.var 0) (.int 1)) (.int 0)) (.op2 .eq (.call 4 [(.op2 .idx (.var 0) (.int 0)), (.op2 .idx (.var 0) (.int 1))]) (.int 1))))]⟩ -- is_ratio_moons
def f9 : Ev.FDef := ⟨1, 1, [(.ret (.and (.call 8 [(.var 0)]) (.chain .le .le (.op2 .idx (.var 0) (.int 1)) (.op2 .idx (.var 0) (.int 0)) (.op2 .mul (.glb 3) (.op2 .idx (.var 0) (.int 1))))))]⟩ -- is_true_round
def f10 : Ev.FDef := ⟨1, 1, [(.expr (.call 2 [(.call 7 [(.var 0)])]))]⟩ -- check_disc
def f11 : Ev.FDef := ⟨2, 2, [(.expr (.call 10 [(.var 0)])), (.expr (.call 2 [(.call 9 [(.var 1)])]))]⟩ -- check_both
def f12 : Ev.FDef := ⟨1, 4, [(.asg (.tup [(.nm 1), (.nm 2), (.nm 3)]) (.var 0)), (.retO (.call 5 [(.op2 .mul (.var 1) (.var 3)), (.var 2)]))]⟩ -- round_by
def f13 : Ev.FDef := ⟨2, 4, [(.asg (.tup [(.nm 2), (.nm 3)]) (.call 12 [(.var 0)])), (.retO (.call 5 [(.op2 .sub (.op2 .mul (.var 2) (.op2 .idx (.var 1) (.int 1))) (.op2 .mul (.op2 .idx (.var 1) (.int 0)) (.var 3))), (.op2 .mul (.var 3) (.op2 .idx (.var 1) (.int 1)))]))]⟩ -- drift_by
def f14 : Ev.FDef := ⟨1, 1, [(.expr (.call 10 [(.var 0)])), (.retO (.call 12 [(.var 0)]))]⟩ -- round_of_disc
def f15 : Ev.FDef := ⟨2, 2, [(.expr (.call 11 [(.var 0), (.var 1)])), (.retO (.call 13 [(.var 0), (.var 1)]))]⟩ -- drift_of
def f16 : Ev.FDef := ⟨4, 5, [(.expr (.call 11 [(.var 0), (.var 1)])), (.expr (.call 2 [(.and (.call 8 [(.tup [(.var 2), (.var 3)])]) (.op2 .gt (.var 2) (.int 0)))])), (.asg (.nm 4) (.call 13 [(.var 0), (.var 1)])), (.ret (.ite (.op2 .eq (.op2 .idx (.var 4) (.int 0)) (.int 0)) .none (.op2 .fdiv (.op2 .mul (.var 2) (.op2 .idx (.var 4) (.int 1))) (.op2 .mul (.var 3) (.op1 .abs (.op2 .idx (.var 4) (.int 0)))))))]⟩ -- rounds_within
def f17 : Ev.FDef := ⟨2, 4, [(.asg (.tup [(.nm 2), (.nm 3)]) (.call 13 [(.var 0), (.var 1)])), (.ret (.tup [(.op1 .abs (.var 2)), (.var 3)]))]⟩ -- wrong_by
def f18 : Ev.FDef := ⟨2, 2, [(.ret (.op2 .lt (.op2 .mul (.op2 .idx (.var 0) (.int 0)) (.op2 .idx (.var 1) (.int 1))) (.op2 .mul (.op2 .idx (.var 1) (.int 0)) (.op2 .idx (.var 0) (.int 1)))))]⟩ -- is_less
def f19 : Ev.FDef := ⟨3, 7, [(.asg (.nm 3) (.op2 .fdiv (.op2 .mul (.op2 .mul (.var 2) (.var 1)) (.op2 .idx (.var 0) (.int 1))) (.op2 .idx (.var 0) (.int 0)))), (.asg (.nm 4) (.sortedKeys (.op2 .max2 (.int 1) (.op2 .min2 (.var 2) (.var 6))) (.nm 6) (.seq (.tup [(.var 3), (.op2 .add (.var 3) (.int 1))])) none)), (.asg (.nm 5) (.tup [(.var 2), (.op2 .idx (.var 4) (.int 0)), (.var 1)])), (.forS (.nm 6) (.seq (.slice (.var 4) (some (.int 1)) none)) [(.ifS (.call 18 [(.call 17 [(.tup [(.var 2), (.var 6), (.var 1)]), (.var 0)]), (.call 17 [(.var 5), (.var 0)])]) [(.asg (.nm 5) (.tup [(.var 2), (.var 6), (.var 1)]))] [])]), (.ret (.var 5))]⟩ -- best_with
def f20 : Ev.FDef := ⟨3, 3, [(.expr (.call 2 [(.call 9 [(.var 0)])])), (.expr (.call 2 [(.and (.call 1 [(.var 1), (.int 1), (.glb 2)]) (.call 1 [(.var 2), (.glb 0), (.glb 1)]))]))]⟩ -- check_most
def f21 : Ev.FDef := ⟨3, 6, [(.asgO 3 (.lst [])), (.forS (.nm 4) (.range2 (.glb 0) (.op2 .add (.var 2) (.int 1))) [(.asg (.nm 5) (.call 19 [(.var 0), (.var 1), (.var 4)])), (.ifS (.snap (.or (.op2 .eq (.op1 .len (.var 3)) (.int 0)) (.call 18 [(.call 17 [(.var 5), (.var 0)]), (.call 17 [(.op2 .idx (.var 3) (.op1 .neg (.int 1))), (.var 0)])]))) [(.app 3 (.var 5))] [])]), (.retO (.move 3))]⟩ -- bests_by
def f22 : Ev.FDef := ⟨3, 3, [(.expr (.call 20 [(.var 0), (.var 1), (.var 2)])), (.ret (.op2 .idx (.call 21 [(.var 0), (.var 1), (.var 2)]) (.op1 .neg (.int 1))))]⟩ -- best_disc
def f23 : Ev.FDef := ⟨3, 3, [(.expr (.call 20 [(.var 0), (.var 1), (.var 2)])), (.retO (.call 21 [(.var 0), (.var 1), (.var 2)]))]⟩ -- row_of_bests
def f24 : Ev.FDef := ⟨2, 5, [(.asg (.tup [(.nm 2), (.nm 3), (.nm 4)]) (.var 0)), (.ret (.op2 .mod (.op2 .mul (.op2 .fdiv (.var 1) (.var 4)) (.var 3)) (.var 2)))]⟩ -- tooth_by
def f25 : Ev.FDef := ⟨2, 2, [(.expr (.call 10 [(.var 0)])), (.expr (.call 2 [(.call 6 [(.var 1)])]))]⟩ -- check_hours
def f26 : Ev.FDef := ⟨2, 2, [(.expr (.call 25 [(.var 0), (.var 1)])), (.retO (.call 24 [(.var 0), (.var 1)]))]⟩ -- tooth_at
def f27 : Ev.FDef := ⟨3, 8, [(.expr (.call 10 [(.var 0)])), (.expr (.call 2 [(.and (.call 0 [(.var 1)]) (.call 6 [(.var 2)]))])), (.asg (.tup [(.nm 5), (.nm 6), (.nm 7)]) (.var 0)), (.expr (.call 3 [(.chain .le .lt (.int 0) (.var 1) (.var 5))])), (.asg (.nm 3) (.op2 .fdiv (.var 2) (.var 7))), (.forS (.nm 4) (.range2 (.var 3) (.op2 .add (.var 3) (.var 5))) [(.ifS (.op2 .eq (.op2 .mod (.op2 .mul (.var 4) (.var 6)) (.var 5)) (.var 1)) [(.ret (.op2 .max2 (.var 2) (.op2 .mul (.var 4) (.var 7))))] [])]), (.ret .none)]⟩ -- next_at
def f28 : Ev.FDef := ⟨3, 3, [(.expr (.call 25 [(.var 0), (.var 1)])), (.expr (.call 2 [(.call 1 [(.var 2), (.int 1), (.glb 5)])])), (.ret (.op2 .fdiv (.op2 .mul (.call 24 [(.var 0), (.var 1)]) (.var 2)) (.op2 .idx (.var 0) (.int 0))))]⟩ -- phase_at
def f29 : Ev.FDef := ⟨3, 11, [(.expr (.call 11 [(.var 0), (.var 1)])), (.expr (.call 2 [(.call 1 [(.var 2), (.int 0), (.glb 4)])])), (.asg (.tup [(.nm 5), (.nm 6), (.nm 7)]) (.var 0)), (.asg (.tup [(.nm 8), (.nm 9)]) (.tup [(.op2 .mul (.var 2) (.op2 .sub (.op2 .mul (.op2 .mul (.var 5) (.var 7)) (.op2 .idx (.var 1) (.int 1))) (.op2 .mul (.op2 .idx (.var 1) (.int 0)) (.var 6)))), (.op2 .mul (.var 7) (.op2 .idx (.var 1) (.int 1)))])), (.asg (.nm 3) (.op2 .fdiv (.var 8) (.var 9))), (.asg (.nm 4) (.comp (.tup [(.op1 .abs (.op2 .sub (.op2 .mul (.var 10) (.var 9)) (.var 8))), (.op1 .abs (.var 10)), (.var 10)]) (.nm 10) (.seq (.tup [(.var 3), (.op2 .add (.var 3) (.int 1))])) none)), (.ret (.op2 .idx (.op1 .min (.var 4)) (.int 2)))]⟩ -- least_correction
def f30 : Ev.FDef := ⟨2, 2, [(.expr (.call 10 [(.var 0)])), (.expr (.call 10 [(.var 1)])), (.ret (.op2 .eq (.call 12 [(.var 0)]) (.call 12 [(.var 1)])))]⟩ -- same_show
def f31 : Ev.FDef := ⟨2, 2, [(.expr (.call 25 [(.var 0), (.var 1)])), (.ret (.op2 .fdiv (.var 1) (.op2 .idx (.var 0) (.int 2))))]⟩ -- lettings_until
def f32 : Ev.FDef := ⟨1, 1, [(.expr (.call 10 [(.var 0)])), (.ret (.op2 .eq (.call 4 [(.op2 .idx (.var 0) (.int 0)), (.op2 .idx (.var 0) (.int 1))]) (.int 1)))]⟩ -- visits_all
def f33 : Ev.FDef := ⟨1, 2, [(.ifS (.or (.not (.op1 (.isT .tuple) (.var 0))) (.or (.op2 .ne (.op1 .len (.var 0)) (.int 2)) (.not (.op1 .all (.comp (.call 0 [(.var 1)]) (.nm 1) (.seq (.var 0)) none))))) [(.ret (.bl false))] []), (.ret (.and (.op2 .gt (.op2 .idx (.var 0) (.int 1)) (.int 0)) (.op2 .eq (.call 5 [(.op2 .idx (.var 0) (.int 0)), (.op2 .idx (.var 0) (.int 1))]) (.var 0))))]⟩ -- is_ratio_checktower
def f34 : Ev.FDef := ⟨4, 7, [(.expr (.call 2 [(.and (.op1 (.isT .tuple) (.var 0)) (.and (.op2 .eq (.op1 .len (.var 0)) (.int 3)) (.and (.call 1 [(.op2 .idx (.var 0) (.int 0)), (.int 2), (.int 400)]) (.call 1 [(.op2 .idx (.var 0) (.int 2)), (.int 1), (.int 48)]))))])), (.expr (.call 2 [(.call 1 [(.op2 .idx (.var 0) (.int 1)), (.int 1), (.op2 .idx (.var 0) (.int 0))])])), (.ifS (.or (.not (.call 33 [(.var 1)])) (.not (.chain .le .le (.op2 .idx (.var 1) (.int 1)) (.op2 .idx (.var 1) (.int 0)) (.op2 .mul (.int 10000) (.op2 .idx (.var 1) (.int 1)))))) [(.ret (.bl false))] []), (.asg (.tup [(.nm 4), (.nm 5), (.nm 6)]) (.var 0)), (.ret (.op2 .eq (.tup [(.var 2), (.var 3)]) (.call 5 [(.op2 .sub (.op2 .mul (.op2 .mul (.var 4) (.var 6)) (.op2 .idx (.var 1) (.int 1))) (.op2 .mul (.op2 .idx (.var 1) (.int 0)) (.var 5))), (.op2 .mul (.var 5) (.op2 .idx (.var 1) (.int 1)))])))]⟩ -- takes_drift
def f35 : Ev.FDef := ⟨1, 6, [(.asgO 1 (.lst [])), (.asg (.nm 2) (.int 11)), (.forS (.nm 3) (.scr 0) [(.asg (.nm 5) (.op1 .abs (.op1 .int (.var 3)))), (.asg (.nm 2) (.op2 .mod (.op1 .int (.op2 .add (.op2 .add (.op2 .mul (.var 2) (.int 48271)) (.var 5)) (.int 1))) (.int 2147483647))), (.ifS (.op2 .lt (.var 5) (.op2 .pow (.int 10) (.int 18))) [(.app 1 (.op2 .mod (.op1 .int (.var 5)) (.int 997))), (.app 1 (.op2 .mod (.op1 .int (.var 2)) (.int 65521))), (.asg (.nm 5) (.int 0))] []), (.forS (.nm 4) (.range (.int 60)) [(.ifS (.op2 .gt (.var 5) (.int 0)) [(.app 1 (.op2 .mod (.op1 .int (.var 5)) (.int 997))), (.asg (.nm 5) (.op2 .fdiv (.var 5) (.int 997)))] [])])]), (.forS (.nm 4) (.range (.int 1200)) [(.asg (.nm 2) (.op2 .mod (.op1 .int (.op2 .add (.op2 .mul (.var 2) (.int 48271)) (.int 69621))) (.int 2147483647))), (.app 1 (.op2 .fdiv (.var 2) (.int 5)))]), (.frz [1]), (.retO (.op1 .listRev (.var 1)))]⟩ -- _law_draws
def f36 : Ev.FDef := ⟨2, 2, [(.ifS (.snap (.op2 .eq (.op1 .len (.var 0)) (.int 0))) [(.ret (.int 0))] []), (.ret (.op2 .mod (.op1 .int (.pop 0)) (.var 1)))]⟩ -- _law_take
def f37 : Ev.FDef := ⟨2, 2, [(.ret (.op2 .idx (.var 1) (.call 36 [(.lend 0), (.op1 .len (.var 1))])))]⟩ -- _law_pick
def f38 : Ev.FDef := ⟨2, 5, [(.par [3, 4] [false, false] [(.op1 .abs (.var 0)), (.op1 .abs (.var 1))]), (.forS (.nm 2) (.range (.int 4000)) [(.ifS (.op2 .eq (.var 4) (.int 0)) [.brk] []), (.par [3, 4] [false, false] [(.var 4), (.op2 .mod (.op1 .int (.var 3)) (.var 4))])]), (.ret (.tup [(.op2 .fdiv (.var 0) (.var 3)), (.op2 .fdiv (.var 1) (.var 3))]))]⟩ -- _law_ratio
def f39 : Ev.FDef := ⟨2, 2, [(.retO (.call 38 [(.op2 .add (.op2 .mul (.op2 .idx (.var 0) (.int 0)) (.op2 .idx (.var 1) (.int 1))) (.op2 .mul (.op2 .idx (.var 1) (.int 0)) (.op2 .idx (.var 0) (.int 1)))), (.op2 .mul (.op2 .idx (.var 0) (.int 1)) (.op2 .idx (.var 1) (.int 1)))]))]⟩ -- _law_plus
def f40 : Ev.FDef := ⟨2, 2, [(.ret (.op2 .le (.op2 .mul (.op2 .idx (.var 0) (.int 0)) (.op2 .idx (.var 1) (.int 1))) (.op2 .mul (.op2 .idx (.var 1) (.int 0)) (.op2 .idx (.var 0) (.int 1)))))]⟩ -- _law_is_at_most
def f41 : Ev.FDef := ⟨2, 3, [(.asg (.nm 2) (.op2 .add (.int 2) (.call 36 [(.lend 0), (.op2 .sub (.var 1) (.int 1))]))), (.ret (.tup [(.var 2), (.call 37 [(.lend 0), (.lst [(.int 1), (.op2 .add (.int 1) (.call 36 [(.lend 0), (.var 2)])), (.var 2)])]), (.call 37 [(.lend 0), (.lst [(.int 1), (.int 12), (.op2 .add (.int 1) (.call 36 [(.lend 0), (.int 48)]))])])]))]⟩ -- _law_disc
def f42 : Ev.FDef := ⟨1, 1, [(.retO (.call 38 [(.op2 .mul (.op2 .idx (.var 0) (.int 0)) (.op2 .idx (.var 0) (.int 2))), (.op2 .idx (.var 0) (.int 1))]))]⟩ -- _law_round
def f43 : Ev.FDef := ⟨2, 2, [(.retO (.call 39 [(.call 42 [(.var 0)]), (.tup [(.op2 .sub (.int 0) (.op2 .idx (.var 1) (.int 0))), (.op2 .idx (.var 1) (.int 1))])]))]⟩ -- _law_drift
def f44 : Ev.FDef := ⟨2, 5, [(.par [3, 4] [false, false] [(.call 42 [(.var 1)]), (.call 38 [(.call 36 [(.lend 0), (.int 9)]), (.op2 .add (.int 1) (.call 36 [(.lend 0), (.int 30)]))])]), (.asg (.nm 2) (.call 37 [(.lend 0), (.lst [(.var 3), (.call 39 [(.var 3), (.var 4)]), (.call 39 [(.var 3), (.tup [(.op2 .sub (.int 0) (.op2 .idx (.var 4) (.int 0))), (.op2 .idx (.var 4) (.int 1))])]), (.tup [(.op2 .add (.int 1) (.call 36 [(.lend 0), (.int 900)])), (.int 1)])])])), (.ifS (.or (.not (.call 40 [(.tup [(.int 1), (.int 1)]), (.var 2)])) (.not (.call 40 [(.var 2), (.tup [(.int 10000), (.int 1)])]))) [(.asg (.nm 2) (.tup [(.int 29), (.int 2)]))] []), (.ret (.var 2))]⟩ -- _law_true
def f45 : Ev.FDef := ⟨1, 1, [(.ret (.tup [(.op1 .abs (.op2 .idx (.var 0) (.int 0))), (.op2 .idx (.var 0) (.int 1))]))]⟩ -- _law_off
def f46 : Ev.FDef := ⟨4, 15, [(.asg (.tup [(.nm 6), (.nm 7)]) (.tup [(.call 22 [(.var 1), (.var 2), (.var 3)]), (.call 23 [(.var 1), (.var 2), (.var 3)])])), (.ifS (.or (.op2 .ne (.op2 .idx (.var 7) (.op2 .sub (.op1 .len (.var 7)) (.int 1))) (.var 6)) (.op2 .ne (.comp (.var 13) (.nm 13) (.seq (.var 7)) (some (.or (.not (.call 7 [(.var 13)])) (.or (.op2 .ne (.op2 .idx (.var 13) (.int 2)) (.var 2)) (.op2 .gt (.op2 .idx (.var 13) (.int 0)) (.var 3)))))) (.lst []))) [(.ret (.bl false))] []), (.asg (.nm 4) (.comp (.call 45 [(.call 43 [(.var 13), (.var 1)])]) (.nm 13) (.seq (.var 7)) none)), (.ifS (.op2 .ne (.comp (.var 14) (.nm 14) (.range (.op2 .sub (.op1 .len (.var 7)) (.int 1))) (some (.or (.op2 .ge (.op2 .idx (.op2 .idx (.var 7) (.var 14)) (.int 0)) (.op2 .idx (.op2 .idx (.var 7) (.op2 .add (.var 14) (.int 1))) (.int 0))) (.call 40 [(.op2 .idx (.var 4) (.var 14)), (.op2 .idx (.var 4) (.op2 .add (.var 14) (.int 1)))])))) (.lst [])) [(.ret (.bl false))] []), (.forS (.nm 5) (.range (.int 20)) [(.asg (.nm 8) (.op2 .add (.int 2) (.call 36 [(.lend 0), (.op2 .sub (.var 3) (.int 1))]))), (.asg (.nm 9) (.op2 .fdiv (.op2 .mul (.op2 .mul (.var 8) (.var 2)) (.op2 .idx (.var 1) (.int 1))) (.op2 .idx (.var 1) (.int 0)))), (.asg (.nm 10) (.tup [(.var 8), (.op2 .max2 (.int 1) (.op2 .min2 (.var 8) (.call 37 [(.lend 0), (.lst [(.var 9), (.op2 .add (.var 9) (.int 1)), (.op2 .add (.int 1) (.call 36 [(.lend 0), (.var 8)]))])]))), (.var 2)])), (.asg (.nm 11) (.slice (.comp (.var 14) (.nm 14) (.range (.op1 .len (.var 7))) (some (.op2 .le (.op2 .idx (.op2 .idx (.var 7) (.var 14)) (.int 0)) (.var 8)))) (some (.op1 .neg (.int 1))) none)), (.asg (.nm 12) (.call 45 [(.call 43 [(.var 10), (.var 1)])])), (.ifS (.or (.op2 .eq (.var 11) (.lst [])) (.or (.not (.call 40 [(.op2 .idx (.var 4) (.op2 .idx (.var 11) (.int 0))), (.var 12)])) (.and (.op2 .eq (.var 12) (.op2 .idx (.var 4) (.op2 .idx (.var 11) (.int 0)))) (.op2 .lt (.tup [(.op2 .idx (.var 10) (.int 0)), (.op2 .idx (.var 10) (.int 1))]) (.tup [(.op2 .idx (.op2 .idx (.var 7) (.op2 .idx (.var 11) (.int 0))) (.int 0)), (.op2 .idx (.op2 .idx (.var 7) (.op2 .idx (.var 11) (.int 0))) (.int 1))]))))) [(.ret (.bl false))] []), (.ifS (.op2 .ne (.call 22 [(.var 1), (.var 2), (.var 8)]) (.op2 .idx (.var 7) (.op2 .idx (.var 11) (.int 0)))) [(.ret (.bl false))] [])]), (.ret (.bl true))]⟩ -- _law_are_bests_due
def f47 : Ev.FDef := ⟨1, 24, [(.asgO 1 (.call 35 [(.lend 0)])), (.forS (.nm 2) (.range (.int 3)) [(.asg (.nm 3) (.call 41 [(.lend 1), (.int 400)])), (.asg (.nm 4) (.call 44 [(.lend 1), (.var 3)])), (.par [12, 13] [false, false] [(.call 15 [(.var 3), (.var 4)]), (.call 14 [(.var 3)])]), (.ifS (.op2 .ne (.op1 .repr (.lst [(.call 7 [(.var 3)]), (.var 13), (.var 12), (.call 34 [(.var 3), (.var 4), (.op2 .idx (.var 12) (.int 0)), (.op2 .idx (.var 12) (.int 1))])])) (.op1 .repr (.lst [(.bl true), (.call 42 [(.var 3)]), (.call 43 [(.var 3), (.var 4)]), (.bl true)]))) [(.ret (.bl false))] []), (.asg (.tup [(.nm 14), (.nm 15)]) (.call 38 [(.op2 .add (.int 1) (.call 36 [(.lend 1), (.int 4000)])), (.op2 .add (.int 1) (.call 36 [(.lend 1), (.int 9)]))])), (.asg (.nm 5) (.call 16 [(.var 3), (.var 4), (.var 14), (.var 15)])), (.ifS (.op2 .ne (.op2 .is (.var 5) .none) (.op2 .eq (.op2 .idx (.var 12) (.int 0)) (.int 0))) [(.ret (.bl false))] []), (.ifS (.and (.op2 .isnt (.var 5) .none) (.not (.call 40 [(.tup [(.op2 .mul (.op1 .abs (.op2 .idx (.var 12) (.int 0))) (.var 5)), (.op2 .idx (.var 12) (.int 1))]), (.tup [(.var 14), (.var 15)])]))) [(.ret (.bl false))] []), (.ifS (.and (.op2 .isnt (.var 5) .none) (.call 40 [(.tup [(.op2 .mul (.op1 .abs (.op2 .idx (.var 12) (.int 0))) (.op2 .add (.var 5) (.int 1))), (.op2 .idx (.var 12) (.int 1))]), (.tup [(.var 14), (.var 15)])])) [(.ret (.bl false))] []), (.forS (.nm 6) (.range (.int 6)) [(.par [19, 20] [false, false] [(.call 37 [(.lend 1), (.lst [(.call 36 [(.lend 1), (.op2 .pow (.int 10) (.int 9))]), (.call 36 [(.lend 1), (.int 3000)])])]), (.op2 .add (.int 1) (.call 36 [(.lend 1), (.int 100)]))]), (.par [21, 22] [false, false] [(.call 26 [(.var 3), (.var 19)]), (.call 31 [(.var 3), (.var 19)])]), (.ifS (.or (.op2 .ne (.var 21) (.op2 .mod (.op1 .int (.op2 .mul (.var 22) (.op2 .idx (.var 3) (.int 1)))) (.op2 .idx (.var 3) (.int 0)))) (.or (.not (.chain .le .lt (.op2 .mul (.var 22) (.op2 .idx (.var 3) (.int 2))) (.var 19) (.op2 .mul (.op2 .add (.var 22) (.int 1)) (.op2 .idx (.var 3) (.int 2))))) (.op2 .ne (.call 26 [(.var 3), (.op2 .add (.var 19) (.op2 .mul (.op2 .idx (.var 3) (.int 0)) (.op2 .idx (.var 3) (.int 2))))]) (.var 21)))) [(.ret (.bl false))] []), (.ifS (.or (.op2 .ne (.call 27 [(.var 3), (.var 21), (.var 19)]) (.var 19)) (.op2 .ne (.call 28 [(.var 3), (.var 19), (.var 20)]) (.op2 .fdiv (.op2 .mul (.var 21) (.var 20)) (.op2 .idx (.var 3) (.int 0))))) [(.ret (.bl false))] []), (.asg (.nm 16) (.call 36 [(.lend 1), (.op2 .idx (.var 3) (.int 0))])), (.asg (.nm 17) (.call 27 [(.var 3), (.var 16), (.var 19)])), (.ifS (.and (.op2 .is (.var 17) .none) (.call 32 [(.var 3)])) [(.ret (.bl false))] []), (.ifS (.and (.op2 .isnt (.var 17) .none) (.or (.op2 .ne (.call 26 [(.var 3), (.var 17)]) (.var 16)) (.or (.op2 .lt (.var 17) (.var 19)) (.op2 .gt (.var 17) (.op2 .add (.var 19) (.op2 .mul (.op2 .idx (.var 3) (.int 0)) (.op2 .idx (.var 3) (.int 2)))))))) [(.ret (.bl false))] []), (.ifS (.and (.op2 .isnt (.var 17) .none) (.and (.op2 .gt (.var 17) (.var 19)) (.op2 .eq (.call 26 [(.var 3), (.op2 .sub (.var 17) (.int 1))]) (.var 16)))) [(.ret (.bl false))] []), (.forS (.nm 18) (.range (.int 6)) [(.asg (.nm 23) (.op2 .add (.var 19) (.call 36 [(.lend 1), (.op2 .mul (.op2 .idx (.var 3) (.int 0)) (.op2 .idx (.var 3) (.int 2)))]))), (.ifS (.and (.op2 .eq (.call 26 [(.var 3), (.var 23)]) (.var 16)) (.or (.op2 .is (.var 17) .none) (.op2 .lt (.var 23) (.var 17)))) [(.ret (.bl false))] [])])]), (.asg (.nm 7) (.call 36 [(.lend 1), (.int 1001)])), (.asg (.nm 8) (.call 29 [(.var 3), (.var 4), (.var 7)])), (.asg (.nm 9) (.call 38 [(.op2 .mul (.op2 .mul (.op2 .idx (.var 12) (.int 0)) (.var 7)) (.op2 .idx (.var 3) (.int 1))), (.op2 .mul (.op2 .idx (.var 12) (.int 1)) (.op2 .idx (.var 3) (.int 2)))])), (.asg (.nm 10) (.op1 .abs (.op2 .sub (.op2 .mul (.var 8) (.op2 .idx (.var 9) (.int 1))) (.op2 .idx (.var 9) (.int 0))))), (.ifS (.or (.op2 .gt (.op2 .mul (.int 2) (.var 10)) (.op2 .idx (.var 9) (.int 1))) (.or (.and (.op2 .eq (.op2 .mul (.int 2) (.var 10)) (.op2 .idx (.var 9) (.int 1))) (.op2 .gt (.op2 .mul (.op1 .abs (.var 8)) (.op2 .idx (.var 9) (.int 1))) (.op1 .abs (.op2 .idx (.var 9) (.int 0))))) (.or (.op2 .lt (.op2 .mul (.var 8) (.op2 .idx (.var 9) (.int 0))) (.int 0)) (.op2 .ne (.call 29 [(.var 3), (.var 4), (.int 0)]) (.int 0))))) [(.ret (.bl false))] []), (.asg (.nm 11) (.tup [(.op2 .idx (.var 3) (.int 0)), (.op2 .idx (.var 3) (.int 1)), (.op2 .idx (.var 3) (.int 2))])), (.ifS (.op2 .le (.op2 .idx (.var 3) (.int 0)) (.int 200)) [(.asg (.nm 11) (.tup [(.op2 .mul (.op2 .idx (.var 3) (.int 0)) (.int 2)), (.op2 .mul (.op2 .idx (.var 3) (.int 1)) (.int 2)), (.op2 .idx (.var 3) (.int 2))]))] []), (.ifS (.or (.not (.call 30 [(.var 3), (.var 11)])) (.or (.op2 .ne (.call 15 [(.var 11), (.var 4)]) (.var 12)) (.op2 .ne (.call 16 [(.var 11), (.var 4), (.var 14), (.var 15)]) (.var 5)))) [(.ret (.bl false))] [])]), (.retO (.call 46 [(.lend 1), (.var 4), (.op2 .idx (.var 3) (.int 2)), (.call 37 [(.lend 1), (.lst [(.int 12), (.int 60), (.int 400)])])]))]⟩ -- law
def fs : List Ev.FDef := ([f0, f1, f2, f3, f4, f5, f6, f7, f8, f9, f10, f11, f12, f13, f14, f15, f16, f17, f18, f19, f20, f21, f22, f23, f24, f25, f26, f27, f28, f29] : List Ev.FDef) ++ ([f30, f31, f32, f33, f34, f35, f36, f37, f38, f39, f40, f41, f42, f43, f44, f45, f46, f47] : List Ev.FDef)
def cs : List PyData := ([.int 2, .int 400, .int 48, .int 10000, .int 1000, .int 100] : List PyData)
def cls : List Str := []
def isx (c j : Nat) : Bool := decide ((c, j) ∈ ([] : List (Nat × Nat)))
def flj : List (List Nat) := []
def Tb : Ev.Tab := ⟨fs, cs, fun c k => decide ((c, k) ∈ ([(0, 0), (1, 0), (1, 1), (2, 0), (2, 2)] : List (Nat × Nat))), 3, fun g c => (flj.getD g []).map (isx c)⟩
def fnn : List Str := (["is_integer", "is_within", "check", "check_there", "shared", "ratio", "is_count", "is_disc", "is_ratio_moons", "is_true_round", "check_disc", "check_both", "round_by", "drift_by", "round_of_disc", "drift_of", "rounds_within", "wrong_by", "is_less", "best_with", "check_most", "bests_by", "best_disc", "row_of_bests", "tooth_by", "check_hours", "tooth_at", "next_at", "phase_at", "least_correction"] : List Str) ++ (["same_show", "lettings_until", "visits_all", "is_ratio_checktower", "takes_drift", "_law_draws", "_law_take", "_law_pick", "_law_ratio", "_law_plus", "_law_is_at_most", "_law_disc", "_law_round", "_law_drift", "_law_true", "_law_off", "_law_are_bests_due", "law"] : List Str)
def nms : Ev.Names := ⟨fnn.take 47, (["LEAST_TEETH", "MOST_TEETH", "MOST_EVERY", "LONGEST", "MOST_ROUNDS", "MOST_PARTS"] : List Str), (["ChimeError", "NotRight", "NotThere"] : List Str), (["abs", "all", "bool", "dict", "int", "isinstance", "len", "list", "max", "min", "range", "repr", "reversed", "sorted", "str", "tuple"] : List Str), [], false⟩
theorem c0 : Ev.chkB { nms with rp := false } ["value"] (defScope (top 4)) 40 f0.body (defBody (top 4)) = true := by kernel_rfl
theorem c1 : Ev.chkB { nms with rp := false } ["value", "low", "high"] (defScope (top 5)) 40 f1.body (defBody (top 5)) = true := by kernel_rfl
theorem c2 : Ev.chkB { nms with rp := false } ["is_right"] (defScope (top 6)) 40 f2.body (defBody (top 6)) = true := by kernel_rfl
theorem c3 : Ev.chkB { nms with rp := false } ["is_there"] (defScope (top 7)) 40 f3.body (defBody (top 7)) = true := by kernel_rfl
theorem c4 : Ev.chkB { nms with rp := false } ["one", "other"] (defScope (top 8)) 40 f4.body (defBody (top 8)) = true := by kernel_rfl
theorem c5 : Ev.chkB { nms with rp := false } ["number", "divisor", "least"] (defScope (top 9)) 40 f5.body (defBody (top 9)) = true := by kernel_rfl
theorem c6 : Ev.chkB { nms with rp := false } ["value"] (defScope (top 10)) 40 f6.body (defBody (top 10)) = true := by kernel_rfl
theorem c7 : Ev.chkB { nms with rp := false } ["value"] (defScope (top 18)) 40 f7.body (defBody (top 18)) = true := by kernel_rfl
theorem c8 : Ev.chkB { nms with rp := false } ["value"] (defScope (top 19)) 40 f8.body (defBody (top 19)) = true := by kernel_rfl
theorem c9 : Ev.chkB { nms with rp := false } ["value"] (defScope (top 21)) 40 f9.body (defBody (top 21)) = true := by kernel_rfl
theorem c10 : Ev.chkB { nms with rp := false } ["disc"] (defScope (top 22)) 40 f10.body (defBody (top 22)) = true := by kernel_rfl
theorem c11 : Ev.chkB { nms with rp := false } ["disc", "true"] (defScope (top 23)) 40 f11.body (defBody (top 23)) = true := by kernel_rfl
theorem c12 : Ev.chkB { nms with rp := false } ["disc", "teeth", "step", "every"] (defScope (top 24)) 40 f12.body (defBody (top 24)) = true := by kernel_rfl
theorem c13 : Ev.chkB { nms with rp := false } ["disc", "true", "n", "d"] (defScope (top 25)) 40 f13.body (defBody (top 25)) = true := by kernel_rfl
theorem c14 : Ev.chkB { nms with rp := false } ["disc"] (defScope (top 26)) 40 f14.body (defBody (top 26)) = true := by kernel_rfl
theorem c15 : Ev.chkB { nms with rp := false } ["disc", "true"] (defScope (top 27)) 40 f15.body (defBody (top 27)) = true := by kernel_rfl
theorem c16 : Ev.chkB { nms with rp := false } ["disc", "true", "n", "d", "drift"] (defScope (top 28)) 40 f16.body (defBody (top 28)) = true := by kernel_rfl
theorem c17 : Ev.chkB { nms with rp := false } ["disc", "true", "n", "d"] (defScope (top 29)) 40 f17.body (defBody (top 29)) = true := by kernel_rfl
theorem c18 : Ev.chkB { nms with rp := false } ["one", "other"] (defScope (top 30)) 40 f18.body (defBody (top 30)) = true := by kernel_rfl
theorem c19 : Ev.chkB { nms with rp := false } ["true", "every", "teeth", "near", "steps", "best", "step"] (defScope (top 31)) 40 f19.body (defBody (top 31)) = true := by kernel_rfl
theorem c20 : Ev.chkB { nms with rp := false } ["true", "every", "most"] (defScope (top 32)) 40 f20.body (defBody (top 32)) = true := by kernel_rfl
theorem c21 : Ev.chkB { nms with rp := false } ["true", "every", "most", "found", "teeth", "disc"] (defScope (top 33)) 40 f21.body (defBody (top 33)) = true := by kernel_rfl
theorem c22 : Ev.chkB { nms with rp := false } ["true", "every", "most"] (defScope (top 34)) 40 f22.body (defBody (top 34)) = true := by kernel_rfl
theorem c23 : Ev.chkB { nms with rp := false } ["true", "every", "most"] (defScope (top 35)) 40 f23.body (defBody (top 35)) = true := by kernel_rfl
theorem c24 : Ev.chkB { nms with rp := false } ["disc", "hours", "teeth", "step", "every"] (defScope (top 36)) 40 f24.body (defBody (top 36)) = true := by kernel_rfl
theorem c25 : Ev.chkB { nms with rp := false } ["disc", "hours"] (defScope (top 37)) 40 f25.body (defBody (top 37)) = true := by kernel_rfl
theorem c26 : Ev.chkB { nms with rp := false } ["disc", "hours"] (defScope (top 38)) 40 f26.body (defBody (top 38)) = true := by kernel_rfl
theorem c27 : Ev.chkB { nms with rp := false } ["disc", "tooth", "hours", "first", "times", "teeth", "step", "every"] (defScope (top 39)) 40 f27.body (defBody (top 39)) = true := by kernel_rfl
theorem c28 : Ev.chkB { nms with rp := false } ["disc", "hours", "parts"] (defScope (top 40)) 40 f28.body (defBody (top 40)) = true := by kernel_rfl
theorem c29 : Ev.chkB { nms with rp := false } ["disc", "true", "rounds", "low", "rows", "teeth", "step", "every", "number", "divisor", "turn"] (defScope (top 41)) 40 f29.body (defBody (top 41)) = true := by kernel_rfl
theorem c30 : Ev.chkB { nms with rp := false } ["one", "other"] (defScope (top 42)) 40 f30.body (defBody (top 42)) = true := by kernel_rfl
theorem c31 : Ev.chkB { nms with rp := false } ["disc", "hours"] (defScope (top 43)) 40 f31.body (defBody (top 43)) = true := by kernel_rfl
theorem c32 : Ev.chkB { nms with rp := false } ["disc"] (defScope (top 44)) 40 f32.body (defBody (top 44)) = true := by kernel_rfl
theorem c33 : Ev.chkB { nms with rp := false } ["value", "one"] (defScope (top 46)) 40 f33.body (defBody (top 46)) = true := by kernel_rfl
theorem c34 : Ev.chkB { nms with rp := false } ["disc", "true", "n", "d", "teeth", "step", "every"] (defScope (top 48)) 40 f34.body (defBody (top 48)) = true := by kernel_rfl
theorem c35 : Ev.chkB { nms with rp := false } ["script", "draws", "seed", "cell", "k", "number"] (defScope (top 50)) 40 f35.body (defBody (top 50)) = true := by kernel_rfl
theorem c36 : Ev.chkB { nms with rp := false } ["draws", "bound"] (defScope (top 52)) 40 f36.body (defBody (top 52)) = true := by kernel_rfl
theorem c37 : Ev.chkB { nms with rp := false } ["draws", "some"] (defScope (top 53)) 40 f37.body (defBody (top 53)) = true := by kernel_rfl
theorem c38 : Ev.chkB { nms with rp := false } ["a", "b", "turn", "x", "y"] (defScope (top 54)) 40 f38.body (defBody (top 54)) = true := by kernel_rfl
theorem c39 : Ev.chkB { nms with rp := false } ["one", "other"] (defScope (top 55)) 40 f39.body (defBody (top 55)) = true := by kernel_rfl
theorem c40 : Ev.chkB { nms with rp := false } ["one", "other"] (defScope (top 56)) 40 f40.body (defBody (top 56)) = true := by kernel_rfl
theorem c41 : Ev.chkB { nms with rp := false } ["draws", "most", "teeth"] (defScope (top 57)) 40 f41.body (defBody (top 57)) = true := by kernel_rfl
theorem c42 : Ev.chkB { nms with rp := false } ["disc"] (defScope (top 58)) 40 f42.body (defBody (top 58)) = true := by kernel_rfl
theorem c43 : Ev.chkB { nms with rp := false } ["disc", "true"] (defScope (top 59)) 40 f43.body (defBody (top 59)) = true := by kernel_rfl
theorem c44 : Ev.chkB { nms with rp := false } ["draws", "disc", "true", "near", "more"] (defScope (top 60)) 40 f44.body (defBody (top 60)) = true := by kernel_rfl
theorem c45 : Ev.chkB { nms with rp := false } ["one"] (defScope (top 61)) 40 f45.body (defBody (top 61)) = true := by kernel_rfl
theorem c46 : Ev.chkB { nms with rp := false } ["draws", "true", "every", "most", "drifts", "turn", "best", "row", "teeth", "near", "other", "first", "drift", "disc", "k"] (defScope (top 62)) 40 f46.body (defBody (top 62)) = true := by kernel_rfl
theorem c47 : Ev.chkB { nms with rp := true } ["script", "draws", "turn", "disc", "true", "within", "again", "rounds", "back", "off", "rest", "other", "drift", "size", "n", "d", "wanted", "later", "own", "hours", "parts", "tooth", "many", "mid"] (defScope (top 63)) 40 f47.body (defBody (top 63)) = true := by kernel_rfl
section
variable {P : Program} {w : World} {K : PySem.W.Frag} {h : Heap} {mg : Str → Option Value}
def fA (K : PySem.W.Frag) (i : Nat) : Addr := He.ga K (fnn.getD i "")
def cA (K : PySem.W.Frag) (i : Nat) : Addr := He.ga K (nms.ex.getD i "")
theorem o0 (X : K.In h) (G : h.Ns mainGlobals mg) (c : He.SaysD fa fn K) : Ev.DefOk P w K mg nms Tb (fA K 0) 0 "is_integer" := by
  obtain ⟨fd, F⟩ := c.def_ 0 (d := d0) rfl
  exact ⟨⟨fd, ["value"], ["value"], _, _, _, _, _, _, _, f0, He.glo_ok X G (c.fact 0 (f := .glo "is_integer") rfl), F.kp, F.bindsN (fun _ _ _ _ _ _ us hl => match us, hl with | [_], _ => rfl), F, C8.fnScope_by (by kernel_rfl), rfl, rfl, rfl, c0⟩⟩
theorem o1 (X : K.In h) (G : h.Ns mainGlobals mg) (c : He.SaysD fa fn K) : Ev.DefOk P w K mg nms Tb (fA K 1) 1 "is_within" := by
  obtain ⟨fd, F⟩ := c.def_ 1 (d := d1) rfl
  exact ⟨⟨fd, ["value", "low", "high"], ["value", "low", "high"], _, _, _, _, _, _, _, f1, He.glo_ok X G (c.fact 1 (f := .glo "is_within") rfl), F.kp, F.bindsN (fun _ _ _ _ _ _ us hl => match us, hl with | [_, _, _], _ => rfl), F, C8.fnScope_by (by kernel_rfl), rfl, rfl, rfl, c1⟩⟩
theorem o2 (X : K.In h) (G : h.Ns mainGlobals mg) (c : He.SaysD fa fn K) : Ev.DefOk P w K mg nms Tb (fA K 2) 2 "check" := by
  obtain ⟨fd, F⟩ := c.def_ 2 (d := d2) rfl
  exact ⟨⟨fd, ["is_right"], ["is_right"], _, _, _, _, _, _, _, f2, He.glo_ok X G (c.fact 2 (f := .glo "check") rfl), F.kp, F.bindsN (fun _ _ _ _ _ _ us hl => match us, hl with | [_], _ => rfl), F, C8.fnScope_by (by kernel_rfl), rfl, rfl, rfl, c2⟩⟩
theorem o3 (X : K.In h) (G : h.Ns mainGlobals mg) (c : He.SaysD fa fn K) : Ev.DefOk P w K mg nms Tb (fA K 3) 3 "check_there" := by
  obtain ⟨fd, F⟩ := c.def_ 3 (d := d3) rfl
  exact ⟨⟨fd, ["is_there"], ["is_there"], _, _, _, _, _, _, _, f3, He.glo_ok X G (c.fact 3 (f := .glo "check_there") rfl), F.kp, F.bindsN (fun _ _ _ _ _ _ us hl => match us, hl with | [_], _ => rfl), F, C8.fnScope_by (by kernel_rfl), rfl, rfl, rfl, c3⟩⟩
theorem o4 (X : K.In h) (G : h.Ns mainGlobals mg) (c : He.SaysD fa fn K) : Ev.DefOk P w K mg nms Tb (fA K 4) 4 "shared" := by
  obtain ⟨fd, F⟩ := c.def_ 4 (d := d4) rfl
  exact ⟨⟨fd, ["one", "other"], ["one", "other"], _, _, _, _, _, _, _, f4, He.glo_ok X G (c.fact 4 (f := .glo "shared") rfl), F.kp, F.bindsN (fun _ _ _ _ _ _ us hl => match us, hl with | [_, _], _ => rfl), F, C8.fnScope_by (by kernel_rfl), rfl, rfl, rfl, c4⟩⟩
theorem o5 (X : K.In h) (G : h.Ns mainGlobals mg) (c : He.SaysD fa fn K) : Ev.DefOk P w K mg nms Tb (fA K 5) 5 "ratio" := by
  obtain ⟨fd, F⟩ := c.def_ 5 (d := d5) rfl
  exact ⟨⟨fd, ["number", "divisor"], ["number", "divisor", "least"], _, _, _, _, _, _, _, f5, He.glo_ok X G (c.fact 5 (f := .glo "ratio") rfl), F.kp, F.bindsN (fun _ _ _ _ _ _ us hl => match us, hl with | [_, _], _ => rfl), F, C8.fnScope_by (by kernel_rfl), rfl, rfl, rfl, c5⟩⟩
theorem o6 (X : K.In h) (G : h.Ns mainGlobals mg) (c : He.SaysD fa fn K) : Ev.DefOk P w K mg nms Tb (fA K 6) 6 "is_count" := by
  obtain ⟨fd, F⟩ := c.def_ 6 (d := d6) rfl
  exact ⟨⟨fd, ["value"], ["value"], _, _, _, _, _, _, _, f6, He.glo_ok X G (c.fact 6 (f := .glo "is_count") rfl), F.kp, F.bindsN (fun _ _ _ _ _ _ us hl => match us, hl with | [_], _ => rfl), F, C8.fnScope_by (by kernel_rfl), rfl, rfl, rfl, c6⟩⟩
theorem o7 (X : K.In h) (G : h.Ns mainGlobals mg) (c : He.SaysD fa fn K) : Ev.DefOk P w K mg nms Tb (fA K 7) 7 "is_disc" := by
  obtain ⟨fd, F⟩ := c.def_ 7 (d := d7) rfl
  exact ⟨⟨fd, ["value"], ["value"], _, _, _, _, _, _, _, f7, He.glo_ok X G (c.fact 7 (f := .glo "is_disc") rfl), F.kp, F.bindsN (fun _ _ _ _ _ _ us hl => match us, hl with | [_], _ => rfl), F, C8.fnScope_by (by kernel_rfl), rfl, rfl, rfl, c7⟩⟩
theorem o8 (X : K.In h) (G : h.Ns mainGlobals mg) (c : He.SaysD fa fn K) : Ev.DefOk P w K mg nms Tb (fA K 8) 8 "is_ratio_moons" := by
  obtain ⟨fd, F⟩ := c.def_ 8 (d := d8) rfl
  exact ⟨⟨fd, ["value"], ["value"], _, _, _, _, _, _, _, f8, He.glo_ok X G (c.fact 8 (f := .glo "is_ratio_moons") rfl), F.kp, F.bindsN (fun _ _ _ _ _ _ us hl => match us, hl with | [_], _ => rfl), F, C8.fnScope_by (by kernel_rfl), rfl, rfl, rfl, c8⟩⟩
theorem o9 (X : K.In h) (G : h.Ns mainGlobals mg) (c : He.SaysD fa fn K) : Ev.DefOk P w K mg nms Tb (fA K 9) 9 "is_true_round" := by
  obtain ⟨fd, F⟩ := c.def_ 9 (d := d9) rfl
  exact ⟨⟨fd, ["value"], ["value"], _, _, _, _, _, _, _, f9, He.glo_ok X G (c.fact 9 (f := .glo "is_true_round") rfl), F.kp, F.bindsN (fun _ _ _ _ _ _ us hl => match us, hl with | [_], _ => rfl), F, C8.fnScope_by (by kernel_rfl), rfl, rfl, rfl, c9⟩⟩
theorem o10 (X : K.In h) (G : h.Ns mainGlobals mg) (c : He.SaysD fa fn K) : Ev.DefOk P w K mg nms Tb (fA K 10) 10 "check_disc" := by
  obtain ⟨fd, F⟩ := c.def_ 10 (d := d10) rfl
  exact ⟨⟨fd, ["disc"], ["disc"], _, _, _, _, _, _, _, f10, He.glo_ok X G (c.fact 10 (f := .glo "check_disc") rfl), F.kp, F.bindsN (fun _ _ _ _ _ _ us hl => match us, hl with | [_], _ => rfl), F, C8.fnScope_by (by kernel_rfl), rfl, rfl, rfl, c10⟩⟩
theorem o11 (X : K.In h) (G : h.Ns mainGlobals mg) (c : He.SaysD fa fn K) : Ev.DefOk P w K mg nms Tb (fA K 11) 11 "check_both" := by
  obtain ⟨fd, F⟩ := c.def_ 11 (d := d11) rfl
  exact ⟨⟨fd, ["disc", "true"], ["disc", "true"], _, _, _, _, _, _, _, f11, He.glo_ok X G (c.fact 11 (f := .glo "check_both") rfl), F.kp, F.bindsN (fun _ _ _ _ _ _ us hl => match us, hl with | [_, _], _ => rfl), F, C8.fnScope_by (by kernel_rfl), rfl, rfl, rfl, c11⟩⟩
theorem o12 (X : K.In h) (G : h.Ns mainGlobals mg) (c : He.SaysD fa fn K) : Ev.DefOk P w K mg nms Tb (fA K 12) 12 "round_by" := by
  obtain ⟨fd, F⟩ := c.def_ 12 (d := d12) rfl
  exact ⟨⟨fd, ["disc"], ["disc", "teeth", "step", "every"], _, _, _, _, _, _, _, f12, He.glo_ok X G (c.fact 12 (f := .glo "round_by") rfl), F.kp, F.bindsN (fun _ _ _ _ _ _ us hl => match us, hl with | [_], _ => rfl), F, C8.fnScope_by (by kernel_rfl), rfl, rfl, rfl, c12⟩⟩
theorem o13 (X : K.In h) (G : h.Ns mainGlobals mg) (c : He.SaysD fa fn K) : Ev.DefOk P w K mg nms Tb (fA K 13) 13 "drift_by" := by
  obtain ⟨fd, F⟩ := c.def_ 13 (d := d13) rfl
  exact ⟨⟨fd, ["disc", "true"], ["disc", "true", "n", "d"], _, _, _, _, _, _, _, f13, He.glo_ok X G (c.fact 13 (f := .glo "drift_by") rfl), F.kp, F.bindsN (fun _ _ _ _ _ _ us hl => match us, hl with | [_, _], _ => rfl), F, C8.fnScope_by (by kernel_rfl), rfl, rfl, rfl, c13⟩⟩
theorem o14 (X : K.In h) (G : h.Ns mainGlobals mg) (c : He.SaysD fa fn K) : Ev.DefOk P w K mg nms Tb (fA K 14) 14 "round_of_disc" := by
  obtain ⟨fd, F⟩ := c.def_ 14 (d := d14) rfl
  exact ⟨⟨fd, ["disc"], ["disc"], _, _, _, _, _, _, _, f14, He.glo_ok X G (c.fact 14 (f := .glo "round_of_disc") rfl), F.kp, F.bindsN (fun _ _ _ _ _ _ us hl => match us, hl with | [_], _ => rfl), F, C8.fnScope_by (by kernel_rfl), rfl, rfl, rfl, c14⟩⟩
theorem o15 (X : K.In h) (G : h.Ns mainGlobals mg) (c : He.SaysD fa fn K) : Ev.DefOk P w K mg nms Tb (fA K 15) 15 "drift_of" := by
  obtain ⟨fd, F⟩ := c.def_ 15 (d := d15) rfl
  exact ⟨⟨fd, ["disc", "true"], ["disc", "true"], _, _, _, _, _, _, _, f15, He.glo_ok X G (c.fact 15 (f := .glo "drift_of") rfl), F.kp, F.bindsN (fun _ _ _ _ _ _ us hl => match us, hl with | [_, _], _ => rfl), F, C8.fnScope_by (by kernel_rfl), rfl, rfl, rfl, c15⟩⟩
theorem o16 (X : K.In h) (G : h.Ns mainGlobals mg) (c : He.SaysD fa fn K) : Ev.DefOk P w K mg nms Tb (fA K 16) 16 "rounds_within" := by
  obtain ⟨fd, F⟩ := c.def_ 16 (d := d16) rfl
  exact ⟨⟨fd, ["disc", "true", "n", "d"], ["disc", "true", "n", "d", "drift"], _, _, _, _, _, _, _, f16, He.glo_ok X G (c.fact 16 (f := .glo "rounds_within") rfl), F.kp, F.bindsN (fun _ _ _ _ _ _ us hl => match us, hl with | [_, _, _, _], _ => rfl), F, C8.fnScope_by (by kernel_rfl), rfl, rfl, rfl, c16⟩⟩
theorem o17 (X : K.In h) (G : h.Ns mainGlobals mg) (c : He.SaysD fa fn K) : Ev.DefOk P w K mg nms Tb (fA K 17) 17 "wrong_by" := by
  obtain ⟨fd, F⟩ := c.def_ 17 (d := d17) rfl
  exact ⟨⟨fd, ["disc", "true"], ["disc", "true", "n", "d"], _, _, _, _, _, _, _, f17, He.glo_ok X G (c.fact 17 (f := .glo "wrong_by") rfl), F.kp, F.bindsN (fun _ _ _ _ _ _ us hl => match us, hl with | [_, _], _ => rfl), F, C8.fnScope_by (by kernel_rfl), rfl, rfl, rfl, c17⟩⟩
theorem o18 (X : K.In h) (G : h.Ns mainGlobals mg) (c : He.SaysD fa fn K) : Ev.DefOk P w K mg nms Tb (fA K 18) 18 "is_less" := by
  obtain ⟨fd, F⟩ := c.def_ 18 (d := d18) rfl
  exact ⟨⟨fd, ["one", "other"], ["one", "other"], _, _, _, _, _, _, _, f18, He.glo_ok X G (c.fact 18 (f := .glo "is_less") rfl), F.kp, F.bindsN (fun _ _ _ _ _ _ us hl => match us, hl with | [_, _], _ => rfl), F, C8.fnScope_by (by kernel_rfl), rfl, rfl, rfl, c18⟩⟩
theorem o19 (X : K.In h) (G : h.Ns mainGlobals mg) (c : He.SaysD fa fn K) : Ev.DefOk P w K mg nms Tb (fA K 19) 19 "best_with" := by
  obtain ⟨fd, F⟩ := c.def_ 19 (d := d19) rfl
  exact ⟨⟨fd, ["true", "every", "teeth"], ["true", "every", "teeth", "near", "steps", "best", "step"], _, _, _, _, _, _, _, f19, He.glo_ok X G (c.fact 19 (f := .glo "best_with") rfl), F.kp, F.bindsN (fun _ _ _ _ _ _ us hl => match us, hl with | [_, _, _], _ => rfl), F, C8.fnScope_by (by kernel_rfl), rfl, rfl, rfl, c19⟩⟩
theorem o20 (X : K.In h) (G : h.Ns mainGlobals mg) (c : He.SaysD fa fn K) : Ev.DefOk P w K mg nms Tb (fA K 20) 20 "check_most" := by
  obtain ⟨fd, F⟩ := c.def_ 20 (d := d20) rfl
  exact ⟨⟨fd, ["true", "every", "most"], ["true", "every", "most"], _, _, _, _, _, _, _, f20, He.glo_ok X G (c.fact 20 (f := .glo "check_most") rfl), F.kp, F.bindsN (fun _ _ _ _ _ _ us hl => match us, hl with | [_, _, _], _ => rfl), F, C8.fnScope_by (by kernel_rfl), rfl, rfl, rfl, c20⟩⟩
theorem o21 (X : K.In h) (G : h.Ns mainGlobals mg) (c : He.SaysD fa fn K) : Ev.DefOk P w K mg nms Tb (fA K 21) 21 "bests_by" := by
  obtain ⟨fd, F⟩ := c.def_ 21 (d := d21) rfl
  exact ⟨⟨fd, ["true", "every", "most"], ["true", "every", "most", "found", "teeth", "disc"], _, _, _, _, _, _, _, f21, He.glo_ok X G (c.fact 21 (f := .glo "bests_by") rfl), F.kp, F.bindsN (fun _ _ _ _ _ _ us hl => match us, hl with | [_, _, _], _ => rfl), F, C8.fnScope_by (by kernel_rfl), rfl, rfl, rfl, c21⟩⟩
theorem o22 (X : K.In h) (G : h.Ns mainGlobals mg) (c : He.SaysD fa fn K) : Ev.DefOk P w K mg nms Tb (fA K 22) 22 "best_disc" := by
  obtain ⟨fd, F⟩ := c.def_ 22 (d := d22) rfl
  exact ⟨⟨fd, ["true", "every", "most"], ["true", "every", "most"], _, _, _, _, _, _, _, f22, He.glo_ok X G (c.fact 22 (f := .glo "best_disc") rfl), F.kp, F.bindsN (fun _ _ _ _ _ _ us hl => match us, hl with | [_, _, _], _ => rfl), F, C8.fnScope_by (by kernel_rfl), rfl, rfl, rfl, c22⟩⟩
theorem o23 (X : K.In h) (G : h.Ns mainGlobals mg) (c : He.SaysD fa fn K) : Ev.DefOk P w K mg nms Tb (fA K 23) 23 "row_of_bests" := by
  obtain ⟨fd, F⟩ := c.def_ 23 (d := d23) rfl
  exact ⟨⟨fd, ["true", "every", "most"], ["true", "every", "most"], _, _, _, _, _, _, _, f23, He.glo_ok X G (c.fact 23 (f := .glo "row_of_bests") rfl), F.kp, F.bindsN (fun _ _ _ _ _ _ us hl => match us, hl with | [_, _, _], _ => rfl), F, C8.fnScope_by (by kernel_rfl), rfl, rfl, rfl, c23⟩⟩
theorem o24 (X : K.In h) (G : h.Ns mainGlobals mg) (c : He.SaysD fa fn K) : Ev.DefOk P w K mg nms Tb (fA K 24) 24 "tooth_by" := by
  obtain ⟨fd, F⟩ := c.def_ 24 (d := d24) rfl
  exact ⟨⟨fd, ["disc", "hours"], ["disc", "hours", "teeth", "step", "every"], _, _, _, _, _, _, _, f24, He.glo_ok X G (c.fact 24 (f := .glo "tooth_by") rfl), F.kp, F.bindsN (fun _ _ _ _ _ _ us hl => match us, hl with | [_, _], _ => rfl), F, C8.fnScope_by (by kernel_rfl), rfl, rfl, rfl, c24⟩⟩
theorem o25 (X : K.In h) (G : h.Ns mainGlobals mg) (c : He.SaysD fa fn K) : Ev.DefOk P w K mg nms Tb (fA K 25) 25 "check_hours" := by
  obtain ⟨fd, F⟩ := c.def_ 25 (d := d25) rfl
  exact ⟨⟨fd, ["disc", "hours"], ["disc", "hours"], _, _, _, _, _, _, _, f25, He.glo_ok X G (c.fact 25 (f := .glo "check_hours") rfl), F.kp, F.bindsN (fun _ _ _ _ _ _ us hl => match us, hl with | [_, _], _ => rfl), F, C8.fnScope_by (by kernel_rfl), rfl, rfl, rfl, c25⟩⟩
theorem o26 (X : K.In h) (G : h.Ns mainGlobals mg) (c : He.SaysD fa fn K) : Ev.DefOk P w K mg nms Tb (fA K 26) 26 "tooth_at" := by
  obtain ⟨fd, F⟩ := c.def_ 26 (d := d26) rfl
  exact ⟨⟨fd, ["disc", "hours"], ["disc", "hours"], _, _, _, _, _, _, _, f26, He.glo_ok X G (c.fact 26 (f := .glo "tooth_at") rfl), F.kp, F.bindsN (fun _ _ _ _ _ _ us hl => match us, hl with | [_, _], _ => rfl), F, C8.fnScope_by (by kernel_rfl), rfl, rfl, rfl, c26⟩⟩
theorem o27 (X : K.In h) (G : h.Ns mainGlobals mg) (c : He.SaysD fa fn K) : Ev.DefOk P w K mg nms Tb (fA K 27) 27 "next_at" := by
  obtain ⟨fd, F⟩ := c.def_ 27 (d := d27) rfl
  exact ⟨⟨fd, ["disc", "tooth", "hours"], ["disc", "tooth", "hours", "first", "times", "teeth", "step", "every"], _, _, _, _, _, _, _, f27, He.glo_ok X G (c.fact 27 (f := .glo "next_at") rfl), F.kp, F.bindsN (fun _ _ _ _ _ _ us hl => match us, hl with | [_, _, _], _ => rfl), F, C8.fnScope_by (by kernel_rfl), rfl, rfl, rfl, c27⟩⟩
theorem o28 (X : K.In h) (G : h.Ns mainGlobals mg) (c : He.SaysD fa fn K) : Ev.DefOk P w K mg nms Tb (fA K 28) 28 "phase_at" := by
  obtain ⟨fd, F⟩ := c.def_ 28 (d := d28) rfl
  exact ⟨⟨fd, ["disc", "hours", "parts"], ["disc", "hours", "parts"], _, _, _, _, _, _, _, f28, He.glo_ok X G (c.fact 28 (f := .glo "phase_at") rfl), F.kp, F.bindsN (fun _ _ _ _ _ _ us hl => match us, hl with | [_, _, _], _ => rfl), F, C8.fnScope_by (by kernel_rfl), rfl, rfl, rfl, c28⟩⟩
theorem o29 (X : K.In h) (G : h.Ns mainGlobals mg) (c : He.SaysD fa fn K) : Ev.DefOk P w K mg nms Tb (fA K 29) 29 "least_correction" := by
  obtain ⟨fd, F⟩ := c.def_ 29 (d := d29) rfl
  exact ⟨⟨fd, ["disc", "true", "rounds"], ["disc", "true", "rounds", "low", "rows", "teeth", "step", "every", "number", "divisor", "turn"], _, _, _, _, _, _, _, f29, He.glo_ok X G (c.fact 29 (f := .glo "least_correction") rfl), F.kp, F.bindsN (fun _ _ _ _ _ _ us hl => match us, hl with | [_, _, _], _ => rfl), F, C8.fnScope_by (by kernel_rfl), rfl, rfl, rfl, c29⟩⟩
theorem o30 (X : K.In h) (G : h.Ns mainGlobals mg) (c : He.SaysD fa fn K) : Ev.DefOk P w K mg nms Tb (fA K 30) 30 "same_show" := by
  obtain ⟨fd, F⟩ := c.def_ 30 (d := d30) rfl
  exact ⟨⟨fd, ["one", "other"], ["one", "other"], _, _, _, _, _, _, _, f30, He.glo_ok X G (c.fact 30 (f := .glo "same_show") rfl), F.kp, F.bindsN (fun _ _ _ _ _ _ us hl => match us, hl with | [_, _], _ => rfl), F, C8.fnScope_by (by kernel_rfl), rfl, rfl, rfl, c30⟩⟩
theorem o31 (X : K.In h) (G : h.Ns mainGlobals mg) (c : He.SaysD fa fn K) : Ev.DefOk P w K mg nms Tb (fA K 31) 31 "lettings_until" := by
  obtain ⟨fd, F⟩ := c.def_ 31 (d := d31) rfl
  exact ⟨⟨fd, ["disc", "hours"], ["disc", "hours"], _, _, _, _, _, _, _, f31, He.glo_ok X G (c.fact 31 (f := .glo "lettings_until") rfl), F.kp, F.bindsN (fun _ _ _ _ _ _ us hl => match us, hl with | [_, _], _ => rfl), F, C8.fnScope_by (by kernel_rfl), rfl, rfl, rfl, c31⟩⟩
theorem o32 (X : K.In h) (G : h.Ns mainGlobals mg) (c : He.SaysD fa fn K) : Ev.DefOk P w K mg nms Tb (fA K 32) 32 "visits_all" := by
  obtain ⟨fd, F⟩ := c.def_ 32 (d := d32) rfl
  exact ⟨⟨fd, ["disc"], ["disc"], _, _, _, _, _, _, _, f32, He.glo_ok X G (c.fact 32 (f := .glo "visits_all") rfl), F.kp, F.bindsN (fun _ _ _ _ _ _ us hl => match us, hl with | [_], _ => rfl), F, C8.fnScope_by (by kernel_rfl), rfl, rfl, rfl, c32⟩⟩
theorem o33 (X : K.In h) (G : h.Ns mainGlobals mg) (c : He.SaysD fa fn K) : Ev.DefOk P w K mg nms Tb (fA K 33) 33 "is_ratio_checktower" := by
  obtain ⟨fd, F⟩ := c.def_ 34 (d := d34) rfl
  exact ⟨⟨fd, ["value"], ["value", "one"], _, _, _, _, _, _, _, f33, He.glo_ok X G (c.fact 34 (f := .glo "is_ratio_checktower") rfl), F.kp, F.bindsN (fun _ _ _ _ _ _ us hl => match us, hl with | [_], _ => rfl), F, C8.fnScope_by (by kernel_rfl), rfl, rfl, rfl, c33⟩⟩
theorem o34 (X : K.In h) (G : h.Ns mainGlobals mg) (c : He.SaysD fa fn K) : Ev.DefOk P w K mg nms Tb (fA K 34) 34 "takes_drift" := by
  obtain ⟨fd, F⟩ := c.def_ 35 (d := d35) rfl
  exact ⟨⟨fd, ["disc", "true", "n", "d"], ["disc", "true", "n", "d", "teeth", "step", "every"], _, _, _, _, _, _, _, f34, He.glo_ok X G (c.fact 35 (f := .glo "takes_drift") rfl), F.kp, F.bindsN (fun _ _ _ _ _ _ us hl => match us, hl with | [_, _, _, _], _ => rfl), F, C8.fnScope_by (by kernel_rfl), rfl, rfl, rfl, c34⟩⟩
theorem o35 (X : K.In h) (G : h.Ns mainGlobals mg) (c : He.SaysD fa fn K) : Ev.DefOk P w K mg nms Tb (fA K 35) 35 "_law_draws" := by
  obtain ⟨fd, F⟩ := c.def_ 36 (d := d36) rfl
  exact ⟨⟨fd, ["script"], ["script", "draws", "seed", "cell", "k", "number"], _, _, _, _, _, _, _, f35, He.glo_ok X G (c.fact 36 (f := .glo "_law_draws") rfl), F.kp, F.bindsN (fun _ _ _ _ _ _ us hl => match us, hl with | [_], _ => rfl), F, C8.fnScope_by (by kernel_rfl), rfl, rfl, rfl, c35⟩⟩
theorem o36 (X : K.In h) (G : h.Ns mainGlobals mg) (c : He.SaysD fa fn K) : Ev.DefOk P w K mg nms Tb (fA K 36) 36 "_law_take" := by
  obtain ⟨fd, F⟩ := c.def_ 38 (d := d38) rfl
  exact ⟨⟨fd, ["draws", "bound"], ["draws", "bound"], _, _, _, _, _, _, _, f36, He.glo_ok X G (c.fact 38 (f := .glo "_law_take") rfl), F.kp, F.bindsN (fun _ _ _ _ _ _ us hl => match us, hl with | [_, _], _ => rfl), F, C8.fnScope_by (by kernel_rfl), rfl, rfl, rfl, c36⟩⟩
theorem o37 (X : K.In h) (G : h.Ns mainGlobals mg) (c : He.SaysD fa fn K) : Ev.DefOk P w K mg nms Tb (fA K 37) 37 "_law_pick" := by
  obtain ⟨fd, F⟩ := c.def_ 39 (d := d39) rfl
  exact ⟨⟨fd, ["draws", "some"], ["draws", "some"], _, _, _, _, _, _, _, f37, He.glo_ok X G (c.fact 39 (f := .glo "_law_pick") rfl), F.kp, F.bindsN (fun _ _ _ _ _ _ us hl => match us, hl with | [_, _], _ => rfl), F, C8.fnScope_by (by kernel_rfl), rfl, rfl, rfl, c37⟩⟩
theorem o38 (X : K.In h) (G : h.Ns mainGlobals mg) (c : He.SaysD fa fn K) : Ev.DefOk P w K mg nms Tb (fA K 38) 38 "_law_ratio" := by
  obtain ⟨fd, F⟩ := c.def_ 40 (d := d40) rfl
  exact ⟨⟨fd, ["a", "b"], ["a", "b", "turn", "x", "y"], _, _, _, _, _, _, _, f38, He.glo_ok X G (c.fact 40 (f := .glo "_law_ratio") rfl), F.kp, F.bindsN (fun _ _ _ _ _ _ us hl => match us, hl with | [_, _], _ => rfl), F, C8.fnScope_by (by kernel_rfl), rfl, rfl, rfl, c38⟩⟩
theorem o39 (X : K.In h) (G : h.Ns mainGlobals mg) (c : He.SaysD fa fn K) : Ev.DefOk P w K mg nms Tb (fA K 39) 39 "_law_plus" := by
  obtain ⟨fd, F⟩ := c.def_ 41 (d := d41) rfl
  exact ⟨⟨fd, ["one", "other"], ["one", "other"], _, _, _, _, _, _, _, f39, He.glo_ok X G (c.fact 41 (f := .glo "_law_plus") rfl), F.kp, F.bindsN (fun _ _ _ _ _ _ us hl => match us, hl with | [_, _], _ => rfl), F, C8.fnScope_by (by kernel_rfl), rfl, rfl, rfl, c39⟩⟩
theorem o40 (X : K.In h) (G : h.Ns mainGlobals mg) (c : He.SaysD fa fn K) : Ev.DefOk P w K mg nms Tb (fA K 40) 40 "_law_is_at_most" := by
  obtain ⟨fd, F⟩ := c.def_ 42 (d := d42) rfl
  exact ⟨⟨fd, ["one", "other"], ["one", "other"], _, _, _, _, _, _, _, f40, He.glo_ok X G (c.fact 42 (f := .glo "_law_is_at_most") rfl), F.kp, F.bindsN (fun _ _ _ _ _ _ us hl => match us, hl with | [_, _], _ => rfl), F, C8.fnScope_by (by kernel_rfl), rfl, rfl, rfl, c40⟩⟩
theorem o41 (X : K.In h) (G : h.Ns mainGlobals mg) (c : He.SaysD fa fn K) : Ev.DefOk P w K mg nms Tb (fA K 41) 41 "_law_disc" := by
  obtain ⟨fd, F⟩ := c.def_ 43 (d := d43) rfl
  exact ⟨⟨fd, ["draws", "most"], ["draws", "most", "teeth"], _, _, _, _, _, _, _, f41, He.glo_ok X G (c.fact 43 (f := .glo "_law_disc") rfl), F.kp, F.bindsN (fun _ _ _ _ _ _ us hl => match us, hl with | [_, _], _ => rfl), F, C8.fnScope_by (by kernel_rfl), rfl, rfl, rfl, c41⟩⟩
theorem o42 (X : K.In h) (G : h.Ns mainGlobals mg) (c : He.SaysD fa fn K) : Ev.DefOk P w K mg nms Tb (fA K 42) 42 "_law_round" := by
  obtain ⟨fd, F⟩ := c.def_ 44 (d := d44) rfl
  exact ⟨⟨fd, ["disc"], ["disc"], _, _, _, _, _, _, _, f42, He.glo_ok X G (c.fact 44 (f := .glo "_law_round") rfl), F.kp, F.bindsN (fun _ _ _ _ _ _ us hl => match us, hl with | [_], _ => rfl), F, C8.fnScope_by (by kernel_rfl), rfl, rfl, rfl, c42⟩⟩
theorem o43 (X : K.In h) (G : h.Ns mainGlobals mg) (c : He.SaysD fa fn K) : Ev.DefOk P w K mg nms Tb (fA K 43) 43 "_law_drift" := by
  obtain ⟨fd, F⟩ := c.def_ 45 (d := d45) rfl
  exact ⟨⟨fd, ["disc", "true"], ["disc", "true"], _, _, _, _, _, _, _, f43, He.glo_ok X G (c.fact 45 (f := .glo "_law_drift") rfl), F.kp, F.bindsN (fun _ _ _ _ _ _ us hl => match us, hl with | [_, _], _ => rfl), F, C8.fnScope_by (by kernel_rfl), rfl, rfl, rfl, c43⟩⟩
theorem o44 (X : K.In h) (G : h.Ns mainGlobals mg) (c : He.SaysD fa fn K) : Ev.DefOk P w K mg nms Tb (fA K 44) 44 "_law_true" := by
  obtain ⟨fd, F⟩ := c.def_ 46 (d := d46) rfl
  exact ⟨⟨fd, ["draws", "disc"], ["draws", "disc", "true", "near", "more"], _, _, _, _, _, _, _, f44, He.glo_ok X G (c.fact 46 (f := .glo "_law_true") rfl), F.kp, F.bindsN (fun _ _ _ _ _ _ us hl => match us, hl with | [_, _], _ => rfl), F, C8.fnScope_by (by kernel_rfl), rfl, rfl, rfl, c44⟩⟩
theorem o45 (X : K.In h) (G : h.Ns mainGlobals mg) (c : He.SaysD fa fn K) : Ev.DefOk P w K mg nms Tb (fA K 45) 45 "_law_off" := by
  obtain ⟨fd, F⟩ := c.def_ 47 (d := d47) rfl
  exact ⟨⟨fd, ["one"], ["one"], _, _, _, _, _, _, _, f45, He.glo_ok X G (c.fact 47 (f := .glo "_law_off") rfl), F.kp, F.bindsN (fun _ _ _ _ _ _ us hl => match us, hl with | [_], _ => rfl), F, C8.fnScope_by (by kernel_rfl), rfl, rfl, rfl, c45⟩⟩
theorem o46 (X : K.In h) (G : h.Ns mainGlobals mg) (c : He.SaysD fa fn K) : Ev.DefOk P w K mg nms Tb (fA K 46) 46 "_law_are_bests_due" := by
  obtain ⟨fd, F⟩ := c.def_ 48 (d := d48) rfl
  exact ⟨⟨fd, ["draws", "true", "every", "most"], ["draws", "true", "every", "most", "drifts", "turn", "best", "row", "teeth", "near", "other", "first", "drift", "disc", "k"], _, _, _, _, _, _, _, f46, He.glo_ok X G (c.fact 48 (f := .glo "_law_are_bests_due") rfl), F.kp, F.bindsN (fun _ _ _ _ _ _ us hl => match us, hl with | [_, _, _, _], _ => rfl), F, C8.fnScope_by (by kernel_rfl), rfl, rfl, rfl, c46⟩⟩
theorem text (X : K.In h) (G : h.Ns mainGlobals mg) (c : He.SaysD fa fn K) (ce : ∀ x ∈ exn, Ev.excB K (He.ga K x) = true) : Ev.TextOk P w K mg nms Tb (cA K) (fA K) where
  blt := Ev.all_mem (⟨He.free_ok X G (c.fact 50 (f := .free "abs") rfl), ⟨He.free_ok X G (c.fact 51 (f := .free "all") rfl), ⟨He.free_ok X G (c.fact 52 (f := .free "bool") rfl), ⟨He.free_ok X G (c.fact 53 (f := .free "dict") rfl), ⟨He.free_ok X G (c.fact 54 (f := .free "int") rfl), ⟨He.free_ok X G (c.fact 55 (f := .free "isinstance") rfl), ⟨He.free_ok X G (c.fact 56 (f := .free "len") rfl), ⟨He.free_ok X G (c.fact 57 (f := .free "list") rfl), ⟨He.free_ok X G (c.fact 58 (f := .free "max") rfl), ⟨He.free_ok X G (c.fact 59 (f := .free "min") rfl), ⟨He.free_ok X G (c.fact 60 (f := .free "range") rfl), ⟨He.free_ok X G (c.fact 61 (f := .free "repr") rfl), ⟨He.free_ok X G (c.fact 62 (f := .free "reversed") rfl), ⟨He.free_ok X G (c.fact 63 (f := .free "sorted") rfl), ⟨He.free_ok X G (c.fact 64 (f := .free "str") rfl), ⟨He.free_ok X G (c.fact 65 (f := .free "tuple") rfl), trivial⟩⟩⟩⟩⟩⟩⟩⟩⟩⟩⟩⟩⟩⟩⟩⟩)
  cst := Ev.all_cst (⟨Ev.cst_int (He.int_ok X G (c.fact 66 (f := .int "LEAST_TEETH" 2) rfl)) rfl, ⟨Ev.cst_int (He.int_ok X G (c.fact 67 (f := .int "MOST_TEETH" 400) rfl)) rfl, ⟨Ev.cst_int (He.int_ok X G (c.fact 68 (f := .int "MOST_EVERY" 48) rfl)) rfl, ⟨Ev.cst_int (He.int_ok X G (c.fact 69 (f := .int "LONGEST" 10000) rfl)) rfl, ⟨Ev.cst_int (He.int_ok X G (c.fact 70 (f := .int "MOST_ROUNDS" 1000) rfl)) rfl, ⟨Ev.cst_int (He.int_ok X G (c.fact 71 (f := .int "MOST_PARTS" 100) rfl)) rfl, trivial⟩⟩⟩⟩⟩⟩)
  defs := Ev.all_def (⟨o0 X G c, ⟨o1 X G c, ⟨o2 X G c, ⟨o3 X G c, ⟨o4 X G c, ⟨o5 X G c, ⟨o6 X G c, ⟨o7 X G c, ⟨o8 X G c, ⟨o9 X G c, ⟨o10 X G c, ⟨o11 X G c, ⟨o12 X G c, ⟨o13 X G c, ⟨o14 X G c, ⟨o15 X G c, ⟨o16 X G c, ⟨o17 X G c, ⟨o18 X G c, ⟨o19 X G c, ⟨o20 X G c, ⟨o21 X G c, ⟨o22 X G c, ⟨o23 X G c, ⟨o24 X G c, ⟨o25 X G c, ⟨o26 X G c, ⟨o27 X G c, ⟨o28 X G c, ⟨o29 X G c, ⟨o30 X G c, ⟨o31 X G c, ⟨o32 X G c, ⟨o33 X G c, ⟨o34 X G c, ⟨o35 X G c, ⟨o36 X G c, ⟨o37 X G c, ⟨o38 X G c, ⟨o39 X G c, ⟨o40 X G c, ⟨o41 X G c, ⟨o42 X G c, ⟨o43 X G c, ⟨o44 X G c, ⟨o45 X G c, ⟨o46 X G c, trivial⟩⟩⟩⟩⟩⟩⟩⟩⟩⟩⟩⟩⟩⟩⟩⟩⟩⟩⟩⟩⟩⟩⟩⟩⟩⟩⟩⟩⟩⟩⟩⟩⟩⟩⟩⟩⟩⟩⟩⟩⟩⟩⟩⟩⟩⟩⟩)
  exn := Ev.all_exn (⟨⟨He.glo_ok X G (c.fact 72 (f := .glo "ChimeError") rfl), He.exc_ok (c.fact 78 (f := .exc "ChimeError") rfl)⟩, ⟨⟨He.glo_ok X G (c.fact 74 (f := .glo "NotRight") rfl), He.exc_ok (c.fact 79 (f := .exc "NotRight") rfl)⟩, ⟨⟨He.glo_ok X G (c.fact 76 (f := .glo "NotThere") rfl), He.exc_ok (c.fact 80 (f := .exc "NotThere") rfl)⟩, trivial⟩⟩⟩)
  exm := fun i k hi hk => Ev.all_n (Ev.all_n (n := 3) (p := fun i => Ev.AllN 3 fun k => PySem.W.exmOne K (.ref (cA K i)) (.ref (cA K k)) = some (Tb.sub i k)) (⟨⟨He.exm_ok (c.fact 89 (f := .exm "NotThere" "NotThere" true) rfl), ⟨He.exm_ok (c.fact 88 (f := .exm "NotThere" "NotRight" false) rfl), ⟨He.exm_ok (c.fact 87 (f := .exm "NotThere" "ChimeError" true) rfl), trivial⟩⟩⟩, ⟨⟨He.exm_ok (c.fact 86 (f := .exm "NotRight" "NotThere" false) rfl), ⟨He.exm_ok (c.fact 85 (f := .exm "NotRight" "NotRight" true) rfl), ⟨He.exm_ok (c.fact 84 (f := .exm "NotRight" "ChimeError" true) rfl), trivial⟩⟩⟩, ⟨⟨He.exm_ok (c.fact 83 (f := .exm "ChimeError" "NotThere" false) rfl), ⟨He.exm_ok (c.fact 82 (f := .exm "ChimeError" "NotRight" false) rfl), ⟨He.exm_ok (c.fact 81 (f := .exm "ChimeError" "ChimeError" true) rfl), trivial⟩⟩⟩, trivial⟩⟩⟩) i hi) k hk
  flg := fun g x hg => by cases hg
end
theorem facts (n : Nat) {P : Program} {w : World} {K : PySem.W.Frag} {h : Heap} {mg : Str → Option Value} {f : Addr} (X : K.In h) (G : h.Ns mainGlobals mg) (hfa : mg ("law" : Str) = some (.ref f)) (ce : Ev.SaysE fa fn exn K) :
    ∀ (t : Shared) (a : Addr) (b0 : Heap) (H : Hp) (Q : VK) (E : XK), n ≤ 220 → Env0 P w K mg b0 callerA [] t H → Ev.spF K (cA K) Tb n 47 [.ref a] H Q E → codeAny (model P w) callerA (.call (.ref f) ⟨[.ref a], []⟩) (CR (L2N.CX P w) [] P w H t Q E) t := by
  intro t a b0 H Q E hn e0 hs
  have c := ce.1
  obtain ⟨fd, F⟩ := c.def_ 49 (d := d49) rfl
  have e := hfa.symm.trans (He.glo_ok X G (c.fact 49 (f := .glo "law") rfl))
  cases e
  have b := FunD.bindsA (ps := ["script"]) F fun _ _ _ _ _ _ us hl => match us, hl with | [_], _ => rfl
  exact Ev.run_rp (text X G c ce.2) n 47 F (C8.fnScope_by (N := ["script", "draws", "turn", "disc", "true", "within", "again", "rounds", "back", "off", "rest", "other", "drift", "size", "n", "d", "wanted", "later", "own", "hours", "parts", "tooth", "many", "mid"]) (by kernel_rfl)) (d := f47) rfl rfl rfl c47 rfl (Ev.room_at hn) (us := [.ref a]) (vs := [.ref a]) e0 (b t [.ref a] rfl) (.cons rfl .nil) hs
end Hd
open PySem PySem.W PySem.Calls PyProof.Rows
/-- what is left: the evaluator, at every script -/
theorem Hd.join (n : Nat) (hn : n ≤ 220) (law : ∀ ns : List Int, ns.length ≤ 63 → (∀ z ∈ ns, Builtin.Int.intBits z ≤ 1048576) → ∃ env, Ev.callF Hd.Tb (Ev.exN Hd.Tb n) 47 [.scr ns] = .ok (.val (.bool true), env)) : PySem.Challenge.rw_chimeward_k03_whole_discs_of_many_teeth.Holds := by
  w_on; o_law
  refine HandSHeadRun.head_any (r := OpenLaw.row PySem.Challenge.rw_chimeward_k03_whole_discs_of_many_teeth) (q := view (OpenLaw.row PySem.Challenge.rw_chimeward_k03_whole_discs_of_many_teeth).prog [63]) (H := Hd.hk) (ob := Hd.ob) (M := 4000) (loose := Hd.loose) (d := HandSHeadRun.topDef (OpenLaw.row PySem.Challenge.rw_chimeward_k03_whole_discs_of_many_teeth).prog 63) (kwd := []) Hd.ob_eq
    (by kernel_rfl) (fun s => by kernel_rfl) Hd.run (by kernel_rfl) (by kernel_rfl) (by kernel_rfl) (by rfl) (by first | assumption | decide +kernel) (by decide +kernel) ⟨rfl, rfl, rfl, rfl, rfl, by decide +kernel⟩ ?hw ?hc
  case hw => w_witness2
  case hc =>
    refine Ev.walk_endR (l := PySem.Challenge.rw_chimeward_k03_whole_discs_of_many_teeth) (n := 63) rfl (by decide) (by kernel_rfl) ?F
    intro w mg fa h Y G hmg0
    obtain ⟨K, KX, c⟩ := Y
    have hmg : mg ("law" : PySem.Str) = some (.ref fa) := by
      have e : (HandSHeadRun.topDef (OpenLaw.row PySem.Challenge.rw_chimeward_k03_whole_discs_of_many_teeth).prog 63).name = ("law" : PySem.Str) := by kernel_rfl
      rw [← e]
      exact hmg0
    exact ⟨K, KX, fun t a ns hl hbits b0 H _ _ e0 hS => Hd.facts n (P := (PySem.Challenge.rw_chimeward_k03_whole_discs_of_many_teeth).prog) (w := w) KX G hmg c t a b0 H _ _ hn e0 (Ev.sp_law rfl rfl hS (law ns hl hbits))⟩

end
section
set_option autoImplicit false
set_option linter.all false
namespace Hd
def ab (q : Rat) : Rat := if q < 0 then -q else q
def gr (p q : Rat) : Rat := if ab p ≤ ab q then ab q else ab p
theorem ab_nonneg (q : Rat) : 0 ≤ ab q := by unfold ab; grind
theorem le_ab (q : Rat) : q ≤ ab q ∧ -q ≤ ab q := by unfold ab; grind
theorem ab_eq (q : Rat) : ab q = q ∨ ab q = -q := by unfold ab; grind
theorem gr_ge (p q : Rat) : ab p ≤ gr p q ∧ ab q ≤ gr p q := by unfold gr; grind
theorem gr_nonneg (p q : Rat) : 0 ≤ gr p q := by have := ab_nonneg p; have := gr_ge p q; grind
theorem gr_cases {p q : Rat} (h : p ≤ q) : gr p q = -p ∨ gr p q = q := by unfold gr ab; grind
theorem gr_zero {p q : Rat} (h : gr p q = 0) : p = 0 ∧ q = 0 := by
  have := gr_ge p q; have := le_ab p; have := le_ab q; grind
theorem gr_pos {p q : Rat} (h : p ≠ 0 ∨ q ≠ 0) : 0 < gr p q := by
  have h1 := gr_nonneg p q
  by_cases h2 : gr p q = 0
  · have := gr_zero h2; grind
  · grind
theorem bad_gr {p q e s : Rat} (h : p ≤ q) (hs : 0 ≤ s) : (p * s < -e ∨ e < q * s) ↔ e < gr p q * s := by
  have h1 := gr_ge p q; have h2 := le_ab p; have h3 := le_ab q
  constructor
  · rintro (g | g)
    · have := Rat.mul_le_mul_of_nonneg_right (show -p ≤ gr p q by grind) hs; grind
    · have := Rat.mul_le_mul_of_nonneg_right (show q ≤ gr p q by grind) hs; grind
  · intro g
    rcases gr_cases h with e1 | e1 <;> rw [e1] at g
    · left; grind
    · right; grind
theorem gr_mono {g s t : Rat} (hg : 0 ≤ g) (h : s ≤ t) : g * s ≤ g * t := Rat.mul_le_mul_of_nonneg_left h hg
/-- the longest time -/
def long (p q e : Rat) : Int := (e / gr p q).floor
theorem div_le {a b c : Rat} (hb : 0 < b) : c ≤ a / b ↔ c * b ≤ a := by
  have := Rat.div_lt_iff (a := a) (b := b) (c := c) hb
  rw [← Rat.not_lt, ← Rat.not_lt, this]
theorem le_long {p q e : Rat} (hg : 0 < gr p q) (k : Int) : k ≤ long p q e ↔ gr p q * (k : Rat) ≤ e := by
  unfold long
  rw [Rat.le_floor_iff, div_le hg, Rat.mul_comm]
theorem long_lt {p q e : Rat} (hg : 0 < gr p q) (k : Int) : long p q e < k ↔ e < gr p q * (k : Rat) := by
  have := le_long (e := e) hg k
  rw [← Int.not_le, ← Rat.not_le, this]
theorem long_nonneg {p q e : Rat} (hg : 0 < gr p q) (he : 0 ≤ e) : 0 ≤ long p q e := by
  rw [le_long hg]; grind
theorem long_le {p q e : Rat} (hg : 0 < gr p q) : gr p q * (long p q e : Rat) ≤ e ∧ e < gr p q * ((long p q e + 1 : Int) : Rat) := ⟨(le_long hg _).mp (Int.le_refl _), (long_lt hg _).mp (by omega)⟩
/-! the best turns -/
def iab (i : Int) : Int := if i < 0 then -i else i
theorem iab_cast (i : Int) : ((iab i : Int) : Rat) = ab (i : Rat) := by
  unfold iab ab
  have : ((i : Rat) < 0) ↔ i < 0 := Rat.intCast_neg_iff
  split
  · rw [if_pos (this.mpr ‹_›)]; exact Rat.intCast_neg i
  · rw [if_neg (fun h => absurd (this.mp h) ‹_›)]
theorem gr_mid {p q : Rat} (h : p ≤ q) : 2 * gr p q = ab (p + q) + (q - p) := by unfold gr ab; grind

def bst (N D : Int) : Int := if iab ((N / D + 1) * D - N) < iab (N / D * D - N) ∨ (iab ((N / D + 1) * D - N) = iab (N / D * D - N) ∧ iab (N / D + 1) < iab (N / D)) then N / D + 1 else N / D
theorem bst_spec {N D : Int} (hD : 0 < D) :
    iab (bst N D * D - N) ≤ iab ((bst N D + -1) * D - N) ∧ iab (bst N D * D - N) ≤ iab ((bst N D + 1) * D - N) ∧
    (iab ((bst N D + -1) * D - N) = iab (bst N D * D - N) → iab (bst N D) ≤ iab (bst N D - 1)) ∧
    (iab ((bst N D + 1) * D - N) = iab (bst N D * D - N) → iab (bst N D) ≤ iab (bst N D + 1)) := by
  have h1 : N / D * D ≤ N := Int.ediv_mul_le N (by omega)
  have h2 : N < (N / D + 1) * D := Int.lt_ediv_add_one_mul_self N hD
  have e1 : (N / D + 1) * D = N / D * D + D := by rw [Int.add_mul, Int.one_mul]
  have e2 : (N / D + -1) * D = N / D * D - D := by rw [Int.add_mul]; omega
  have e3 : (N / D + 1 + 1) * D = N / D * D + D + D := by rw [Int.add_mul, Int.add_mul, Int.one_mul]
  have e4 : (N / D + 1 + -1) * D = N / D * D := by rw [Int.add_mul, Int.add_mul]; omega
  unfold bst
  split
  · rename_i h
    rw [e1, e3, e4]
    rw [e1] at h h2
    generalize N / D * D = x at *
    generalize N / D = y at *
    unfold iab at *
    grind
  · rename_i h
    rw [e1, e2]
    rw [e1] at h h2
    generalize N / D * D = x at *
    generalize N / D = y at *
    unfold iab at *
    grind
theorem ab_mul {m x : Rat} (hm : 0 ≤ m) : ab (m * x) = m * ab x := by
  unfold ab
  by_cases h : x < 0
  · rw [if_pos h]
    by_cases h0 : m = 0
    · subst h0; grind
    · have : m * x < 0 := by
        have := Rat.mul_pos (show (0 : Rat) < m by grind) (show (0 : Rat) < -x by grind)
        grind
      rw [if_pos this]; grind
  · rw [if_neg h]
    have := Rat.mul_nonneg hm (show 0 ≤ x by grind)
    rw [if_neg (by grind)]
theorem ab_neg (x : Rat) : ab (-x) = ab x := by unfold ab; grind
/-- how far turns leave it -/
def far (p q s : Rat) (k : Int) : Rat := gr (p + s * (k : Rat)) (q + s * (k : Rat))
theorem far_le {p q s M : Rat} {N D : Int} (h : p ≤ q) (hM : 0 < M) (he : ∀ k : Int, ((iab (k * D - N) : Int) : Rat) = M * ab (p + q + 2 * (s * (k : Rat)))) (k j : Int) : (far p q s k ≤ far p q s j ↔ iab (k * D - N) ≤ iab (j * D - N)) := by
  have h1 := gr_mid (p := p + s * (k : Rat)) (q := q + s * (k : Rat)) (by grind)
  have h2 := gr_mid (p := p + s * (j : Rat)) (q := q + s * (j : Rat)) (by grind)
  rw [← Rat.intCast_le_intCast, he k, he j]
  rw [show p + s * (k : Rat) + (q + s * (k : Rat)) = p + q + 2 * (s * (k : Rat)) by grind] at h1
  rw [show p + s * (j : Rat) + (q + s * (j : Rat)) = p + q + 2 * (s * (j : Rat)) by grind] at h2
  unfold far
  constructor
  · intro g
    exact Rat.mul_le_mul_of_nonneg_left (by grind) (by grind)
  · intro g
    have := Rat.le_of_mul_le_mul_left g hM
    grind
theorem far_eq {p q s M : Rat} {N D : Int} (h : p ≤ q) (hM : 0 < M) (he : ∀ k : Int, ((iab (k * D - N) : Int) : Rat) = M * ab (p + q + 2 * (s * (k : Rat)))) (k j : Int) : (far p q s k = far p q s j ↔ iab (k * D - N) = iab (j * D - N)) := by
  have h1 := far_le h hM he k j
  have h2 := far_le h hM he j k
  constructor
  · intro g
    have := h1.mp (by grind); have := h2.mp (by grind); omega
  · intro g
    have := h1.mpr (by omega); have := h2.mpr (by omega); grind

end Hd

end
section
set_option autoImplicit false
set_option linter.all false
namespace Hd
theorem iab_mul {g : Int} (hg : 0 < g) (z : Int) : iab (g * z) = g * iab z := by
  unfold iab
  by_cases h : z < 0
  · rw [if_pos h, if_pos (Int.mul_neg_of_pos_of_neg hg h), Int.mul_neg]
  · rw [if_neg h, if_neg (Int.not_lt.mpr (Int.mul_nonneg (by omega) (by omega)))]
theorem bst_scale {g a b : Int} (hg : 0 < g) : bst (g * a) (g * b) = bst a b := by
  have e : ∀ y : Int, iab (y * (g * b) - g * a) = g * iab (y * b - a) := fun y => by
    rw [show y * (g * b) - g * a = g * (y * b - a) by grind, iab_mul hg]
  have i1 : ∀ u v : Int, (g * u < g * v) = (u < v) := fun u v => propext ⟨fun h => Int.lt_of_mul_lt_mul_left h (by omega), fun h => Int.mul_lt_mul_of_pos_left h hg⟩
  have i2 : ∀ u v : Int, (g * u = g * v) = (u = v) := fun u v => propext ⟨fun h => Int.eq_of_mul_eq_mul_left (by omega) h, fun h => by rw [h]⟩
  unfold bst
  simp only [Int.mul_ediv_mul_of_pos a b hg, e, i1, i2]
theorem bst_ab {a b : Int} (hb : 0 < b) : 2 * iab (bst a b * b - a) ≤ b ∧ (2 * iab (bst a b * b - a) = b → iab (bst a b) * b ≤ iab a) ∧ 0 ≤ bst a b * a := by
  have h1 : a / b * b ≤ a := Int.ediv_mul_le a (by omega)
  have h2 : a < a / b * b + b := by
    have := Int.lt_ediv_add_one_mul_self a hb
    rw [Int.add_mul, Int.one_mul] at this
    exact this
  have e1 : (a / b + 1) * b = a / b * b + b := by rw [Int.add_mul, Int.one_mul]
  have sg : (0 ≤ a ∧ 0 ≤ a / b) ∨ (a < 0 ∧ a / b < 0) := by
    by_cases h : 0 ≤ a
    · exact .inl ⟨h, Int.ediv_nonneg h (by omega)⟩
    · exact .inr ⟨by omega, Int.ediv_neg_of_neg_of_pos (by omega) hb⟩
  unfold bst
  generalize a / b = y at *
  have x0 : iab y * b = if y < 0 then -(y * b) else y * b := by
    unfold iab
    split
    · rw [Int.neg_mul]
    · rfl
  have x1 : iab (y + 1) * b = if y + 1 < 0 then -(y * b + b) else y * b + b := by
    unfold iab
    split
    · rw [Int.neg_mul, e1]
    · exact e1
  rw [e1]
  split
  · rename_i h
    refine ⟨?_, ?_, ?_⟩
    · rw [e1]
      generalize y * b = x at *
      unfold iab at *
      grind
    · intro ht
      rw [x1]
      rw [e1] at ht
      generalize y * b = x at *
      unfold iab at *
      grind
    · rcases sg with ⟨s1, s2⟩ | ⟨s1, s2⟩
      · exact Int.mul_nonneg (by omega) s1
      · exact Int.mul_nonneg_of_nonpos_of_nonpos (by omega) (by omega)
  · rename_i h
    refine ⟨?_, ?_, ?_⟩
    · generalize y * b = x at *
      unfold iab at *
      grind
    · intro ht
      rw [x0]
      generalize y * b = x at *
      unfold iab at *
      grind
    · rcases sg with ⟨s1, s2⟩ | ⟨s1, s2⟩
      · exact Int.mul_nonneg s2 s1
      · exact Int.mul_nonneg_of_nonpos_of_nonpos (by omega) (by omega)
theorem bst_zero {D : Int} (hD : 0 < D) : bst 0 D = 0 := by
  unfold bst
  rw [Int.zero_ediv, Int.zero_mul, Int.zero_add, Int.one_mul]
  unfold iab
  grind
/-! teeth that are met -/
theorem bezout : ∀ (a b : Nat), ∃ x y : Int, x * a + y * b = (Nat.gcd a b : Int) := by
  intro a b
  induction a, b using Nat.gcd.induction with
  | H0 n => exact ⟨0, 1, by rw [Nat.gcd_zero_left]; omega⟩
  | H1 m n hm ih =>
    obtain ⟨x, y, h⟩ := ih
    refine ⟨y - x * ((n / m : Nat) : Int), x, ?_⟩
    rw [Nat.gcd_rec, ← h]
    have e : ((n % m : Nat) : Int) = (n : Int) - (m : Int) * ((n / m : Nat) : Int) := by
      have := Nat.mod_add_div n m
      have h2 : ((n % m + m * (n / m) : Nat) : Int) = (n : Int) := by rw [this]
      rw [Int.natCast_add, Int.natCast_mul] at h2
      omega
    rw [e]
    grind
/-- each tooth is met within a round -/
theorem meets {t s w f : Int} (ht : 0 < t) (hg : Nat.gcd t.natAbs s.natAbs = 1) (w0 : 0 ≤ w) (w1 : w < t) : ∃ k, f ≤ k ∧ k < f + t ∧ k * s % t = w := by
  obtain ⟨x, y, h⟩ := bezout t.natAbs s.natAbs
  rw [hg] at h
  have hs : ∃ u : Int, (u * s - 1) % t = 0 := by
    have e1 : ((t.natAbs : Nat) : Int) = t := by omega
    rw [e1] at h
    rcases Int.le_total 0 s with c | c
    · refine ⟨y, ?_⟩
      rw [show ((s.natAbs : Nat) : Int) = s by omega] at h
      rw [show y * s - 1 = (-x) * t by grind]
      exact Int.mul_emod_left _ _
    · refine ⟨-y, ?_⟩
      rw [show ((s.natAbs : Nat) : Int) = -s by omega] at h
      rw [show -y * s - 1 = (-x) * t by grind]
      exact Int.mul_emod_left _ _
  obtain ⟨u, hu⟩ := hs
  have m0 := Int.emod_nonneg (u * w - f) (show t ≠ 0 by omega)
  have m1 := Int.emod_lt_of_pos (u * w - f) ht
  refine ⟨f + (u * w - f) % t, by omega, by omega, ?_⟩
  have hd := Int.emod_add_mul_ediv (u * w - f) t
  have hu2 := Int.emod_add_mul_ediv (u * s - 1) t
  rw [hu] at hu2
  generalize (u * w - f) / t = q1 at *
  generalize (u * s - 1) / t = q2 at *
  generalize (u * w - f) % t = m at *
  have : (f + m) * s = w + t * (w * q2 - q1 * s) := by grind
  rw [this, Int.add_mul_emod_self_left]
  exact Int.emod_eq_of_lt w0 w1
end Hd

end
section
set_option autoImplicit false
set_option linter.all false
set_option maxRecDepth 100000
namespace Hd
open PySem Ev
/-! sizes -/
def B (k : Nat) (i : Int) : Prop := i.natAbs < 2 ^ k
theorem B.mono {j k : Nat} {i : Int} (h : B j i) (hk : j ≤ k := by decide) : B k i := Nat.lt_of_lt_of_le h (Nat.pow_le_pow_right (by decide) hk)
theorem B.mul {j k : Nat} {x y : Int} (h1 : B j x) (h2 : B k y) : B (j + k) (x * y) := by
  unfold B at *
  rw [Int.natAbs_mul, Nat.pow_add]
  exact Nat.mul_lt_mul'' h1 h2
theorem B.add {k : Nat} {x y : Int} (h1 : B k x) (h2 : B k y) : B (k + 1) (x + y) := by
  unfold B at *
  have := Int.natAbs_add_le x y
  rw [Nat.pow_succ]; omega
theorem B.neg {k : Nat} {x : Int} (h : B k x) : B k (-x) := by unfold B at *; rwa [Int.natAbs_neg]
theorem B.sub {k : Nat} {x y : Int} (h1 : B k x) (h2 : B k y) : B (k + 1) (x - y) := by
  rw [Int.sub_eq_add_neg]; exact h1.add h2.neg
theorem B.iab {k : Nat} {x : Int} (h : B k x) : B k (if x < 0 then -x else x) := by
  split
  · exact h.neg
  · exact h
theorem B.of {i : Int} (h1 : -1000000 ≤ i) (h2 : i ≤ 1000000) : B 20 i := by unfold B; omega
theorem B.lit {k : Nat} {i : Int} (h : i.natAbs < 2 ^ k) : B k i := h
theorem B.sm {k : Nat} {i : Int} (h : B k i) (hk : k ≤ 2000) : Sm i := sm_le h (Nat.pow_le_pow_right (by decide) (Nat.le_trans hk (by decide)))
theorem B.smD {k : Nat} {i : Int} (h : B k i) (hk : k ≤ 2000) : SmD i := smD_le h (Nat.pow_le_pow_right (by decide) (Nat.le_trans hk (by decide)))
theorem B.le {k : Nat} {x y : Int} (h : B k y) (h0 : 0 ≤ x) (h1 : x ≤ y) : B k x := by unfold B at *; omega
theorem vM {j k : Nat} {x y : Int} (h1 : B j x) (h2 : B k y) (hj : j ≤ 2000 := by decide) (hk : k ≤ 2000 := by decide) : ev2 .mul (.int x) (.int y) = some (.val (.int (x * y))) := v_mul (h1.sm hj) (h2.sm hk)
/-! the greatest common divisor, with logarithmically many turns -/
def gA (a b : Int) : Int := ((Nat.gcd a.natAbs b.natAbs : Nat) : Int)
def gI (a b : Int) : Int := ((Nat.gcd a.toNat b.toNat : Nat) : Int)
theorem gI_step {a b : Int} (ha : 0 ≤ a) (hb : 0 < b) : gI b (a % b) = gI a b := by
  unfold gI
  have e : (a % b).toNat = a.toNat % b.toNat := by
    rw [Int.toNat_emod ha (by omega)]
  rw [e, Nat.gcd_comm a.toNat b.toNat, Nat.gcd_rec b.toNat a.toNat, Nat.gcd_comm]
theorem gI_zero {a : Int} (ha : 0 ≤ a) : gI a 0 = a := by
  unfold gI
  rw [show (0 : Int).toNat = 0 from rfl, Nat.gcd_zero_right]
  omega
theorem gI_iab (a b : Int) : gI (if a < 0 then -a else a) (if b < 0 then -b else b) = gA a b := by
  unfold gI gA
  rw [show (if a < 0 then -a else a).toNat = a.natAbs by split <;> omega, show (if b < 0 then -b else b).toNat = b.natAbs by split <;> omega]
theorem half_mod {b r : Int} (hr : 0 < r) (hb : r < b) : 2 * (b % r) < b := by
  have h1 := Int.emod_lt_of_pos b hr
  have h2 : b % r + r * (b / r) = b := Int.emod_add_mul_ediv b r
  have h3 : 1 ≤ b / r := Int.le_ediv_of_mul_le hr (by omega)
  have h4 : r * 1 ≤ r * (b / r) := Int.mul_le_mul_of_nonneg_left h3 (by omega)
  omega
theorem loopW_step {c : Ev.Env → Res (Bool × Ev.Env)} {body : Ev.Env → Res (Fl × Ev.Env)} {k : Nat} {env env1 env2 : Ev.Env} (hc : c env = .ok (true, env1)) (hb : body env1 = .ok (.next, env2)) : loopW c body (k + 1) env = loopW c body k env2 := by
  show (c env).bind _ = _
  rw [hc, okb]
  dsimp only
  rw [if_pos rfl, hb]
  rfl
theorem loopW_end {c : Ev.Env → Res (Bool × Ev.Env)} {body : Ev.Env → Res (Fl × Ev.Env)} {k : Nat} {env env1 : Ev.Env} (hc : c env = .ok (false, env1)) : loopW c body (k + 1) env = .ok (.next, env1) := by
  show (c env).bind _ = _
  rw [hc]
  rfl
theorem gcd_loop {c : Ev.Env → Res (Bool × Ev.Env)} {body : Ev.Env → Res (Fl × Ev.Env)} (st : Int → Int → Ev.Env) (hc : ∀ a b, c (st a b) = .ok (decide (b > 0), st a b)) (hb : ∀ a b, 0 < b → body (st a b) = .ok (.next, st b (a % b))) :
    ∀ (j k : Nat) (a b : Int), 0 ≤ a → 0 ≤ b → b < 2 ^ j → loopW c body (k + 2 * j + 1) (st a b) = .ok (.next, st (gI a b) 0) := by
  have stop : ∀ (k : Nat) (a : Int), 0 ≤ a → loopW c body (k + 1) (st a 0) = .ok (.next, st (gI a 0) 0) := by
    intro k a ha
    have h1 := hc a 0
    rw [loopW_end (h1.trans rfl), gI_zero ha]
  have step : ∀ (k : Nat) (a b : Int), 0 < b → loopW c body (k + 1) (st a b) = loopW c body k (st b (a % b)) := by
    intro k a b hp
    have h1 := hc a b
    rw [decide_eq_true (show b > 0 from hp)] at h1
    exact loopW_step h1 (hb a b hp)
  intro j
  induction j with
  | zero =>
    intro k a b ha h0 h
    have : b = 0 := by have : b < 1 := h; omega
    subst this
    exact stop _ a ha
  | succ j ih =>
    intro k a b ha h0 h
    by_cases hp : 0 < b
    · rw [show k + 2 * (j + 1) + 1 = (k + 2 * j + 2) + 1 by omega, step _ a b hp, ← gI_step ha hp]
      have h2 : 0 ≤ a % b := Int.emod_nonneg _ (by omega)
      have h3 : a % b < b := Int.emod_lt_of_pos _ hp
      generalize a % b = r at *
      by_cases hr : 0 < r
      · rw [show k + 2 * j + 2 = (k + 2 * j + 1) + 1 by omega, step _ b r hr, ← gI_step h0 hr]
        have h4 := half_mod hr h3
        have h5 : (2 : Int) ^ (j + 1) = 2 ^ j * 2 := Int.pow_succ 2 j
        exact ih k r (b % r) h2 (Int.emod_nonneg _ (by omega)) (by omega)
      · have : r = 0 := by omega
        subst this
        exact stop _ b h0
    · have : b = 0 := by omega
      subst this
      exact stop _ a ha
theorem B.lt {k : Nat} {x : Int} (h : B k x) : x < 2 ^ k := by
  unfold B at h
  have : ((x.natAbs : Nat) : Int) < ((2 ^ k : Nat) : Int) := Int.ofNat_lt.mpr h
  rw [Int.natCast_pow] at this
  have h2 : ((2 : Nat) : Int) = 2 := rfl
  rw [h2] at this
  omega
theorem r4 (n : Nat) {x y : Int} (hy : B 1000 y) : Ret Tb (n + 30) 4 [.val (.int x), .val (.int y)] (.val (.int (gA x y))) := by
  refine ⟨?_, ?_⟩
  rotate_left
  · have kw : ∀ k, loopW (truthE (evN Tb (k + 20)) (.op2 .gt (.var 1) (.int 0))) (exN Tb (k + 20) [(.par [0, 1] [false, false] [(.var 1), (.op2 .mod (.var 0) (.var 1))])]) 100000 [some (.val (.int (if x < 0 then -x else x))), some (.val (.int (if y < 0 then -y else y)))] = .ok (.next, [some (.val (.int (gI (if x < 0 then -x else x) (if y < 0 then -y else y)))), some (.val (.int 0))]) := by
      intro k
      refine gcd_loop (fun a b => [some (.val (.int a)), some (.val (.int b))]) (fun a b => ?_) (fun a b hb => ?_) 1000 97999 (if x < 0 then -x else x) (if y < 0 then -y else y) (by split <;> omega) (by split <;> omega) hy.iab.lt
      · simp only [evS, exS, okb, stb, seqS, one, stepE_none, stepE_bl, stepE_int, stepE_str, stepE_var, stepE_glb, stepE_tup, stepE_lst, stepE_op1, stepE_op2, stepE_not, stepE_and, stepE_or, stepE_ite, stepE_chain, stepE_slice, stepE_call, evD, evDs, evArgs, optI, truthE, truth, O.tree, O.toD, O.trees, O.toDs, v_add, v_sub, v_le, v_lt, v_ge, v_gt, v_min, v_max, v_eq, v_ne, v_is, v_isnt, v_t20, v_t21, u_lenL, u_lenT2, beq_self_eq_true, decide_true, Nat.reduceAdd, Nat.reduceLT, Nat.zero_add, Bool.and_self, Bool.and_true, Bool.true_and, u_isT, u_int, u_intB, u_abs, u_neg, u_tupL, u_revT, seq?, setO, assignT, assignTs, isTy, List.getElem?_cons_zero, List.getElem?_cons_succ, Option.join_some, List.set_cons_zero, List.set_cons_succ, List.length_cons, List.length_nil, Res.bind, if_true, if_false, Nat.lt_irrefl, Bool.not_true, Bool.not_false, reduceIte, Bool.false_eq_true, toDs_val, trees_val]
      · have k2 := v_mod (a := a) (b := b) hb
        simp only [evS, exS, okb, stb, seqS, one, stepE_none, stepE_bl, stepE_int, stepE_str, stepE_var, stepE_glb, stepE_tup, stepE_lst, stepE_op1, stepE_op2, stepE_not, stepE_and, stepE_or, stepE_ite, stepE_chain, stepE_slice, stepE_call, evD, evDs, evArgs, optI, truthE, truth, O.tree, O.toD, O.trees, O.toDs, v_add, v_sub, v_le, v_lt, v_ge, v_gt, v_min, v_max, v_eq, v_ne, v_is, v_isnt, v_t20, v_t21, u_lenL, u_lenT2, beq_self_eq_true, decide_true, Nat.reduceAdd, Nat.reduceLT, Nat.zero_add, Bool.and_self, Bool.and_true, Bool.true_and, u_isT, u_int, u_intB, u_abs, u_neg, u_tupL, u_revT, seq?, setO, assignT, assignTs, isTy, List.getElem?_cons_zero, List.getElem?_cons_succ, Option.join_some, List.set_cons_zero, List.set_cons_succ, List.length_cons, List.length_nil, Res.bind, if_true, if_false, Nat.lt_irrefl, Bool.not_true, Bool.not_false, reduceIte, Bool.false_eq_true, toDs_val, trees_val, evOs, parAsg, k2]
    rw [← gI_iab x y]
    simp only [callF, List.replicate, Nat.sub_self, List.append_nil, List.map_cons, List.map_nil, show Tb.fs[4]? = some f4 from rfl, f4, evS, exS, okb, stb, seqS, one, stepE_none, stepE_bl, stepE_int, stepE_str, stepE_var, stepE_glb, stepE_tup, stepE_lst, stepE_op1, stepE_op2, stepE_not, stepE_and, stepE_or, stepE_ite, stepE_chain, stepE_slice, stepE_call, evD, evDs, evArgs, optI, truthE, truth, O.tree, O.toD, O.trees, O.toDs, v_add, v_sub, v_le, v_lt, v_ge, v_gt, v_min, v_max, v_eq, v_ne, v_is, v_isnt, v_t20, v_t21, u_lenL, u_lenT2, beq_self_eq_true, decide_true, Nat.reduceAdd, Nat.reduceLT, Nat.zero_add, Bool.and_self, Bool.and_true, Bool.true_and, u_isT, u_int, u_intB, u_abs, u_neg, u_tupL, u_revT, seq?, setO, assignT, assignTs, isTy, List.getElem?_cons_zero, List.getElem?_cons_succ, Option.join_some, List.set_cons_zero, List.set_cons_succ, List.length_cons, List.length_nil, Res.bind, if_true, if_false, Nat.lt_irrefl, Bool.not_true, Bool.not_false, reduceIte, Bool.false_eq_true, toDs_val, trees_val, evOs, parAsg, kw]
    rfl
/-! fractions -/
abbrev fr (q : Rat) : D := .tuple [.int q.num, .int (q.den : Int)]
theorem gA_pos {x y : Int} (hy : 0 < y) : 0 < gA x y ∧ gA x y ≤ y := by
  unfold gA
  have h1 : 0 < Nat.gcd x.natAbs y.natAbs := Nat.gcd_pos_of_pos_right _ (by omega)
  have h2 : Nat.gcd x.natAbs y.natAbs ≤ y.natAbs := Nat.gcd_le_right _ (by omega)
  omega
theorem rat_num {x y : Int} (hy : 0 < y) : ((x : Rat) / (y : Rat)).num = x / gA x y := by
  rw [← Rat.divInt_eq_div, Rat.num_divInt, Int.sign_eq_one_of_pos hy, Int.one_mul, Int.gcd_comm]
  rfl
theorem rat_den {x y : Int} (hy : 0 < y) : ((((x : Rat) / (y : Rat)).den : Nat) : Int) = y / gA x y := by
  rw [← Rat.divInt_eq_div, Rat.den_divInt, if_neg (by omega), Int.natCast_ediv, Int.gcd_comm]
  rw [show ((y.natAbs : Nat) : Int) = y by omega]
  rfl
theorem r5 (n : Nat) {x y : Int} (hy : 0 < y) (b : B 1000 y) : Ret Tb (n + 40) 5 [.val (.int x), .val (.int y)] (.val (fr ((x : Rat) / (y : Rat)))) := by
  refine ⟨?_, ?_⟩
  rotate_left
  · have k4 := fun m' env => call2 (T := Tb) (n := m' + 30) env (r4 m' (x := x) b)
    have hg := gA_pos (x := x) hy
    have k1 := v_fdiv (a := x) (b := gA x y) hg.1 ((b.le (by omega) hg.2).smD (by decide))
    have k2 := v_fdiv (a := y) (b := gA x y) hg.1 ((b.le (by omega) hg.2).smD (by decide))
    unfold fr
    rw [rat_num hy, rat_den hy]
    simp only [callF, List.replicate, Nat.sub_self, List.append_nil, List.map_cons, List.map_nil, show Tb.fs[5]? = some f5 from rfl, f5, evS, exS, okb, stb, seqS, one, stepE_none, stepE_bl, stepE_int, stepE_str, stepE_var, stepE_glb, stepE_tup, stepE_lst, stepE_op1, stepE_op2, stepE_not, stepE_and, stepE_or, stepE_ite, stepE_chain, stepE_slice, stepE_call, evD, evDs, evArgs, optI, truthE, truth, O.tree, O.toD, O.trees, O.toDs, v_add, v_sub, v_le, v_lt, v_ge, v_gt, v_min, v_max, v_eq, v_ne, v_is, v_isnt, v_t20, v_t21, u_lenL, u_lenT2, beq_self_eq_true, decide_true, Nat.reduceAdd, Nat.reduceLT, Nat.zero_add, Bool.and_self, Bool.and_true, Bool.true_and, u_isT, u_int, u_intB, u_abs, u_neg, u_tupL, u_revT, seq?, setO, assignT, assignTs, isTy, List.getElem?_cons_zero, List.getElem?_cons_succ, Option.join_some, List.set_cons_zero, List.set_cons_succ, List.length_cons, List.length_nil, Res.bind, if_true, if_false, Nat.lt_irrefl, Bool.not_true, Bool.not_false, reduceIte, Bool.false_eq_true, toDs_val, trees_val, k1, k2, k4, show 3 - 2 = 1 from rfl, List.cons_append, List.nil_append, show (0 + 1 + 1 ≤ most) = True from eq_true (by decide), show (1 + 1 ≤ most) = True from eq_true (by decide), show (2 ≤ most) = True from eq_true (by decide)]
    rfl
end Hd

end
section
set_option autoImplicit false
set_option linter.all false
set_option maxRecDepth 100000
namespace Hd
open PySem Ev
theorem mo (k : Nat) (h : k ≤ 1000000) : (k ≤ most) = True := eq_true h
theorem mo2 : (0 + 1 + 1 ≤ most) = True := eq_true (by decide)
theorem mo2' : (1 + 1 ≤ most) = True := eq_true (by decide)
theorem mo2'' : (2 ≤ most) = True := eq_true (by decide)
theorem mo1 : (0 + 1 ≤ most) = True := eq_true (by decide)
theorem mo1' : (1 ≤ most) = True := eq_true (by decide)
theorem mo3 : (0 + 1 + 1 + 1 ≤ most) = True := eq_true (by decide)
theorem mo3' : (3 ≤ most) = True := eq_true (by decide)
theorem mo4 : (0 + 1 + 1 + 1 + 1 ≤ most) = True := eq_true (by decide)
theorem mo4' : (4 ≤ most) = True := eq_true (by decide)
structure Bq (k : Nat) (q : Rat) : Prop where
  n : B k q.num
  d : B k (q.den : Int)
theorem dpos (q : Rat) : 0 < (q.den : Int) := Int.natCast_pos.mpr q.den_pos
theorem Bq.mono {j k : Nat} {q : Rat} (h : Bq j q) (hk : j ≤ k := by decide) : Bq k q := ⟨h.n.mono hk, h.d.mono hk⟩
theorem Bq.div {k : Nat} {x y : Int} (h1 : B k x) (h2 : B k y) (hy : 0 < y) : Bq k ((x : Rat) / (y : Rat)) := by
  have hg := gA_pos (x := x) hy
  constructor
  · rw [rat_num hy]
    unfold B at *
    exact Nat.lt_of_le_of_lt (Int.natAbs_ediv_le_natAbs _ _) h1
  · rw [rat_den hy]
    unfold B at *
    exact Nat.lt_of_le_of_lt (Int.natAbs_ediv_le_natAbs _ _) h2
theorem gA_red (q : Rat) : gA q.num (q.den : Int) = 1 := by
  unfold gA
  have := q.reduced
  rw [Int.natAbs_natCast, this.gcd_eq_one]; rfl
theorem self_div (q : Rat) : ((q.num : Rat) / ((q.den : Int) : Rat)) = q := by
  rw [← Rat.divInt_eq_div]; exact Rat.num_divInt_den q
theorem denne (q : Rat) : ((q.den : Int) : Rat) ≠ 0 := by
  have h := dpos q
  intro e
  have : ((q.den : Int) : Rat) = ((0 : Int) : Rat) := e
  rw [Rat.intCast_inj] at this
  omega
theorem num_den (e : Rat) : e * ((e.den : Int) : Rat) = (e.num : Rat) := by
  have h := self_div e
  have := Rat.div_mul_cancel (a := (e.num : Rat)) (denne e)
  rw [h] at this
  exact this
theorem addI (p q : Rat) : ((p.num * (q.den : Int) + q.num * (p.den : Int) : Int) : Rat) / (((p.den : Int) * (q.den : Int) : Int) : Rat) = p + q := by
  rw [Rat.add_def', Rat.mkRat_eq_div]
  congr 1
theorem divq {x y : Int} (hy : 0 < y) {r : Rat} (h : (x : Rat) = r * (y : Rat)) : (x : Rat) / (y : Rat) = r := by
  rw [h]
  refine Rat.mul_div_cancel fun e => ?_
  have : ((y : Int) : Rat) = ((0 : Int) : Rat) := e
  rw [Rat.intCast_inj] at this
  omega
theorem pos_cast {y : Int} (hy : 0 < y) : ((y : Int) : Rat) ≠ 0 := fun e => by
  have : ((y : Int) : Rat) = ((0 : Int) : Rat) := e
  rw [Rat.intCast_inj] at this
  omega
theorem subI (p q : Rat) : ((p.num * (q.den : Int) - q.num * (p.den : Int) : Int) : Rat) / (((p.den : Int) * (q.den : Int) : Int) : Rat) = p - q := by
  refine divq (Int.mul_pos (dpos p) (dpos q)) ?_
  rw [Rat.intCast_sub, Rat.intCast_mul, Rat.intCast_mul, Rat.intCast_mul, ← num_den p, ← num_den q]
  grind
theorem t30 {x y z : D} : ev2 .idx (.tuple [x, y, z]) (.int 0) = some (.val x) := rfl
theorem t31 {x y z : D} : ev2 .idx (.tuple [x, y, z]) (.int 1) = some (.val y) := rfl
theorem t32 {x y z : D} : ev2 .idx (.tuple [x, y, z]) (.int 2) = some (.val z) := rfl
theorem u_lenT3 {x y z : D} : ev1 .len (.tuple [x, y, z]) = some (.val (.int 3)) := rfl
theorem isN_none : ev2 .is .none .none = some (.val (.bool true)) := rfl
theorem isN_int (i : Int) : ev2 .is (.int i) .none = some (.val (.bool false)) := rfl
theorem isnN_none : ev2 .isnt .none .none = some (.val (.bool false)) := rfl
theorem isnN_int (i : Int) : ev2 .isnt (.int i) .none = some (.val (.bool true)) := rfl
theorem call4 {T : Tab} {n f : Nat} {a b c d : D} {o : O} (env : Ev.Env) (h : Ret T n f [.val a, .val b, .val c, .val d] o) : callA T (exN T n) f [(none, a), (none, b), (none, c), (none, d)] env = .ok (o, env) := callA_pure (ds := [a, b, c, d]) env h
/-! a disc, a true round -/
abbrev dc (t s e : Int) : D := .tuple [.int t, .int s, .int e]
structure Dc (t s e : Int) : Prop where
  t0 : 2 ≤ t
  t1 : t ≤ 400
  s0 : 1 ≤ s
  s1 : s ≤ t
  e0 : 1 ≤ e
  e1 : e ≤ 48
structure Tr (c : Rat) : Prop where
  b : Bq 60 c
  lo : (c.den : Int) ≤ c.num
  hi : c.num ≤ 10000 * (c.den : Int)
abbrev rnd (t s e : Int) : Rat := ((t * e : Int) : Rat) / (s : Rat)
abbrev dft (t s e : Int) (c : Rat) : Rat := rnd t s e - c
theorem Dc.bt {t s e : Int} (d : Dc t s e) : B 10 t := by have := d.t0; have := d.t1; unfold B; omega
theorem Dc.bs {t s e : Int} (d : Dc t s e) : B 10 s := by have := d.s0; have := d.s1; have := d.t1; unfold B; omega
theorem Dc.be {t s e : Int} (d : Dc t s e) : B 10 e := by have := d.e0; have := d.e1; unfold B; omega
theorem Dc.bte {t s e : Int} (d : Dc t s e) : B 20 (t * e) := (d.bt.mul d.be).mono (by decide)
theorem Dc.br {t s e : Int} (d : Dc t s e) : Bq 20 (rnd t s e) := Bq.div d.bte (d.bs.mono (by decide)) (by have := d.s0; omega)
theorem Bq.sub {j k : Nat} {p q : Rat} (h1 : Bq j p) (h2 : Bq k q) : Bq (j + k + 1) (p - q) := by
  rw [← subI]
  exact .div (((h1.n.mul h2.d).sub ((h2.n.mul h1.d).mono (by omega)))) ((h1.d.mul h2.d).mono (by omega)) (Int.mul_pos (dpos p) (dpos q))
theorem Bq.add {k : Nat} {p q : Rat} (hp : Bq k p) (hq : Bq k q) : Bq (k + k + 1) (p + q) := by
  rw [← addI]
  exact .div ((hp.n.mul hq.d).add (hq.n.mul hp.d)) ((hp.d.mul hq.d).mono (by omega)) (Int.mul_pos (dpos p) (dpos q))
theorem Dc.bd {t s e : Int} (d : Dc t s e) {c : Rat} (h : Tr c) : Bq 81 (dft t s e c) := d.br.sub h.b
/-! the program's small defs -/
theorem r0 (n : Nat) (i : Int) : Ret Tb (n + 5) 0 [.val (.int i)] (.val (.bool true)) := ⟨_, rfl⟩
theorem r1 (n : Nat) {v lo hi : Int} (h0 : lo ≤ v) (h1 : v ≤ hi) : Ret Tb (n + 9) 1 [.val (.int v), .val (.int lo), .val (.int hi)] (.val (.bool true)) := by
  refine ⟨?_, ?_⟩
  rotate_left
  · have h := fun m' env => call1 (T := Tb) (n := m' + 5) env (r0 m' v)
    simp only [callF, List.replicate, Nat.sub_self, List.append_nil, List.map_cons, List.map_nil, show Tb.fs[1]? = some f1 from rfl, f1, evS, exS, okb, stb, seqS, one, stepE_none, stepE_bl, stepE_int, stepE_str, stepE_var, stepE_glb, stepE_tup, stepE_lst, stepE_op1, stepE_op2, stepE_not, stepE_and, stepE_or, stepE_ite, stepE_chain, stepE_slice, stepE_call, evD, evDs, evArgs, optI, truthE, truth, O.tree, O.toD, O.trees, O.toDs, v_add, v_sub, v_le, v_lt, v_ge, v_gt, v_min, v_max, v_eq, v_ne, v_is, v_isnt, v_t20, v_t21, u_lenL, u_lenT2, beq_self_eq_true, decide_true, Nat.reduceAdd, Nat.reduceLT, Nat.zero_add, Bool.and_self, Bool.and_true, Bool.true_and, u_isT, u_int, u_intB, u_abs, u_neg, u_tupL, u_revT, seq?, setO, assignT, assignTs, isTy, List.getElem?_cons_zero, List.getElem?_cons_succ, Option.join_some, List.set_cons_zero, List.set_cons_succ, List.length_cons, List.length_nil, Res.bind, if_true, if_false, Nat.lt_irrefl, Bool.not_true, Bool.not_false, reduceIte, Bool.false_eq_true, toDs_val, trees_val, h, h0, h1]
    rfl
theorem r2 (n : Nat) : Ret Tb (n + 5) 2 [.val (.bool true)] (.val .none) := ⟨_, rfl⟩
theorem r3 (n : Nat) : Ret Tb (n + 5) 3 [.val (.bool true)] (.val .none) := ⟨_, rfl⟩
theorem r6 (n : Nat) {v : Int} (h0 : 0 ≤ v) : Ret Tb (n + 9) 6 [.val (.int v)] (.val (.bool true)) := by
  refine ⟨?_, ?_⟩
  rotate_left
  · have h := fun m' env => call1 (T := Tb) (n := m' + 5) env (r0 m' v)
    simp only [callF, List.replicate, Nat.sub_self, List.append_nil, List.map_cons, List.map_nil, show Tb.fs[6]? = some f6 from rfl, f6, evS, exS, okb, stb, seqS, one, stepE_none, stepE_bl, stepE_int, stepE_str, stepE_var, stepE_glb, stepE_tup, stepE_lst, stepE_op1, stepE_op2, stepE_not, stepE_and, stepE_or, stepE_ite, stepE_chain, stepE_slice, stepE_call, evD, evDs, evArgs, optI, truthE, truth, O.tree, O.toD, O.trees, O.toDs, v_add, v_sub, v_le, v_lt, v_ge, v_gt, v_min, v_max, v_eq, v_ne, v_is, v_isnt, v_t20, v_t21, u_lenL, u_lenT2, beq_self_eq_true, decide_true, Nat.reduceAdd, Nat.reduceLT, Nat.zero_add, Bool.and_self, Bool.and_true, Bool.true_and, u_isT, u_int, u_intB, u_abs, u_neg, u_tupL, u_revT, seq?, setO, assignT, assignTs, isTy, List.getElem?_cons_zero, List.getElem?_cons_succ, Option.join_some, List.set_cons_zero, List.set_cons_succ, List.length_cons, List.length_nil, Res.bind, if_true, if_false, Nat.lt_irrefl, Bool.not_true, Bool.not_false, reduceIte, Bool.false_eq_true, toDs_val, trees_val, h, h0]
    rfl
theorem r7 (n : Nat) {t s e : Int} (d : Dc t s e) : Ret Tb (n + 20) 7 [.val (dc t s e)] (.val (.bool true)) := by
  refine ⟨?_, ?_⟩
  rotate_left
  · have k1 := fun m' env => call3 (T := Tb) (n := m' + 9) env (r1 m' (lo := 2) (hi := 400) d.t0 d.t1)
    have k2 := fun m' env => call3 (T := Tb) (n := m' + 9) env (r1 m' (lo := 1) (hi := t) d.s0 d.s1)
    have k3 := fun m' env => call3 (T := Tb) (n := m' + 9) env (r1 m' (lo := 1) (hi := 48) d.e0 d.e1)
    simp only [callF, List.replicate, Nat.sub_self, List.append_nil, List.map_cons, List.map_nil, show Tb.fs[7]? = some f7 from rfl, f7, evS, exS, okb, stb, seqS, one, stepE_none, stepE_bl, stepE_int, stepE_str, stepE_var, stepE_glb, stepE_tup, stepE_lst, stepE_op1, stepE_op2, stepE_not, stepE_and, stepE_or, stepE_ite, stepE_chain, stepE_slice, stepE_call, evD, evDs, evArgs, optI, truthE, truth, O.tree, O.toD, O.trees, O.toDs, v_add, v_sub, v_le, v_lt, v_ge, v_gt, v_min, v_max, v_eq, v_ne, v_is, v_isnt, v_t20, v_t21, u_lenL, u_lenT2, beq_self_eq_true, decide_true, Nat.reduceAdd, Nat.reduceLT, Nat.zero_add, Bool.and_self, Bool.and_true, Bool.true_and, u_isT, u_int, u_intB, u_abs, u_neg, u_tupL, u_revT, seq?, setO, assignT, assignTs, isTy, List.getElem?_cons_zero, List.getElem?_cons_succ, Option.join_some, List.set_cons_zero, List.set_cons_succ, List.length_cons, List.length_nil, Res.bind, if_true, if_false, Nat.lt_irrefl, Bool.not_true, Bool.not_false, reduceIte, Bool.false_eq_true, toDs_val, trees_val, k1, k2, k3, t30, t31, t32, u_lenT3, show Tb.cs[0]? = some (.int 2) from rfl, show Tb.cs[1]? = some (.int 400) from rfl, show Tb.cs[2]? = some (.int 48) from rfl]
    rfl
theorem r8 (n : Nat) {q : Rat} (h : Bq 1000 q) : Ret Tb (n + 40) 8 [.val (fr q)] (.val (.bool true)) := by
  refine ⟨?_, ?_⟩
  rotate_left
  · have k0 := fun i => fun m' env => call1 (T := Tb) (n := m' + 5) env (r0 m' i)
    have k4 := fun m' env => call2 (T := Tb) (n := m' + 30) env (r4 m' (x := q.num) h.d)
    have e1 : decide (0 < (q.den : Int)) = true := decide_eq_true (dpos q)
    rw [gA_red] at k4
    simp only [callF, List.replicate, Nat.sub_self, List.append_nil, List.map_cons, List.map_nil, show Tb.fs[8]? = some f8 from rfl, f8, evS, exS, okb, stb, seqS, one, stepE_none, stepE_bl, stepE_int, stepE_str, stepE_var, stepE_glb, stepE_tup, stepE_lst, stepE_op1, stepE_op2, stepE_not, stepE_and, stepE_or, stepE_ite, stepE_chain, stepE_slice, stepE_call, evD, evDs, evArgs, optI, truthE, truth, O.tree, O.toD, O.trees, O.toDs, v_add, v_sub, v_le, v_lt, v_ge, v_gt, v_min, v_max, v_eq, v_ne, v_is, v_isnt, v_t20, v_t21, u_lenL, u_lenT2, beq_self_eq_true, decide_true, Nat.reduceAdd, Nat.reduceLT, Nat.zero_add, Bool.and_self, Bool.and_true, Bool.true_and, u_isT, u_int, u_intB, u_abs, u_neg, u_tupL, u_revT, seq?, setO, assignT, assignTs, isTy, List.getElem?_cons_zero, List.getElem?_cons_succ, Option.join_some, List.set_cons_zero, List.set_cons_succ, List.length_cons, List.length_nil, Res.bind, if_true, if_false, Nat.lt_irrefl, Bool.not_true, Bool.not_false, reduceIte, Bool.false_eq_true, toDs_val, trees_val, k0, k4, e1]
    rfl
theorem r9 (n : Nat) {c : Rat} (h : Tr c) : Ret Tb (n + 60) 9 [.val (fr c)] (.val (.bool true)) := by
  refine ⟨?_, ?_⟩
  rotate_left
  · have k8 := fun m' env => call1 (T := Tb) (n := m' + 40) env (r8 m' (h.b.mono (by decide)))
    have m1 := vM (x := 10000) (B.lit (k := 20) (by decide)) h.b.d
    have e1 : decide ((c.den : Int) ≤ c.num) = true := decide_eq_true h.lo
    have e2 : decide (c.num ≤ 10000 * (c.den : Int)) = true := decide_eq_true h.hi
    simp only [callF, List.replicate, Nat.sub_self, List.append_nil, List.map_cons, List.map_nil, show Tb.fs[9]? = some f9 from rfl, f9, evS, exS, okb, stb, seqS, one, stepE_none, stepE_bl, stepE_int, stepE_str, stepE_var, stepE_glb, stepE_tup, stepE_lst, stepE_op1, stepE_op2, stepE_not, stepE_and, stepE_or, stepE_ite, stepE_chain, stepE_slice, stepE_call, evD, evDs, evArgs, optI, truthE, truth, O.tree, O.toD, O.trees, O.toDs, v_add, v_sub, v_le, v_lt, v_ge, v_gt, v_min, v_max, v_eq, v_ne, v_is, v_isnt, v_t20, v_t21, u_lenL, u_lenT2, beq_self_eq_true, decide_true, Nat.reduceAdd, Nat.reduceLT, Nat.zero_add, Bool.and_self, Bool.and_true, Bool.true_and, u_isT, u_int, u_intB, u_abs, u_neg, u_tupL, u_revT, seq?, setO, assignT, assignTs, isTy, List.getElem?_cons_zero, List.getElem?_cons_succ, Option.join_some, List.set_cons_zero, List.set_cons_succ, List.length_cons, List.length_nil, Res.bind, if_true, if_false, Nat.lt_irrefl, Bool.not_true, Bool.not_false, reduceIte, Bool.false_eq_true, toDs_val, trees_val, k8, m1, e1, e2, show Tb.cs[3]? = some (.int 10000) from rfl]
    rfl
theorem r10 (n : Nat) {t s e : Int} (d : Dc t s e) : Ret Tb (n + 30) 10 [.val (dc t s e)] (.val .none) := by
  refine ⟨?_, ?_⟩
  rotate_left
  · have k7 := fun m' env => call1 (T := Tb) (n := m' + 20) env (r7 m' d)
    have k2 := fun m' env => call1 (T := Tb) (n := m' + 5) env (r2 m')
    simp only [callF, List.replicate, Nat.sub_self, List.append_nil, List.map_cons, List.map_nil, show Tb.fs[10]? = some f10 from rfl, f10, evS, exS, okb, stb, seqS, one, stepE_none, stepE_bl, stepE_int, stepE_str, stepE_var, stepE_glb, stepE_tup, stepE_lst, stepE_op1, stepE_op2, stepE_not, stepE_and, stepE_or, stepE_ite, stepE_chain, stepE_slice, stepE_call, evD, evDs, evArgs, optI, truthE, truth, O.tree, O.toD, O.trees, O.toDs, v_add, v_sub, v_le, v_lt, v_ge, v_gt, v_min, v_max, v_eq, v_ne, v_is, v_isnt, v_t20, v_t21, u_lenL, u_lenT2, beq_self_eq_true, decide_true, Nat.reduceAdd, Nat.reduceLT, Nat.zero_add, Bool.and_self, Bool.and_true, Bool.true_and, u_isT, u_int, u_intB, u_abs, u_neg, u_tupL, u_revT, seq?, setO, assignT, assignTs, isTy, List.getElem?_cons_zero, List.getElem?_cons_succ, Option.join_some, List.set_cons_zero, List.set_cons_succ, List.length_cons, List.length_nil, Res.bind, if_true, if_false, Nat.lt_irrefl, Bool.not_true, Bool.not_false, reduceIte, Bool.false_eq_true, toDs_val, trees_val, k7, k2]
    rfl
section
variable {t s e : Int} (d : Dc t s e) {c : Rat} (h : Tr c)
include d h
theorem r11 (n : Nat) : Ret Tb (n + 70) 11 [.val (dc t s e), .val (fr c)] (.val .none) := by
  refine ⟨?_, ?_⟩
  rotate_left
  · have k10 := fun m' env => call1 (T := Tb) (n := m' + 30) env (r10 m' d)
    have k9 := fun m' env => call1 (T := Tb) (n := m' + 60) env (r9 m' h)
    have k2 := fun m' env => call1 (T := Tb) (n := m' + 5) env (r2 m')
    simp only [callF, List.replicate, Nat.sub_self, List.append_nil, List.map_cons, List.map_nil, show Tb.fs[11]? = some f11 from rfl, f11, evS, exS, okb, stb, seqS, one, stepE_none, stepE_bl, stepE_int, stepE_str, stepE_var, stepE_glb, stepE_tup, stepE_lst, stepE_op1, stepE_op2, stepE_not, stepE_and, stepE_or, stepE_ite, stepE_chain, stepE_slice, stepE_call, evD, evDs, evArgs, optI, truthE, truth, O.tree, O.toD, O.trees, O.toDs, v_add, v_sub, v_le, v_lt, v_ge, v_gt, v_min, v_max, v_eq, v_ne, v_is, v_isnt, v_t20, v_t21, u_lenL, u_lenT2, beq_self_eq_true, decide_true, Nat.reduceAdd, Nat.reduceLT, Nat.zero_add, Bool.and_self, Bool.and_true, Bool.true_and, u_isT, u_int, u_intB, u_abs, u_neg, u_tupL, u_revT, seq?, setO, assignT, assignTs, isTy, List.getElem?_cons_zero, List.getElem?_cons_succ, Option.join_some, List.set_cons_zero, List.set_cons_succ, List.length_cons, List.length_nil, Res.bind, if_true, if_false, Nat.lt_irrefl, Bool.not_true, Bool.not_false, reduceIte, Bool.false_eq_true, toDs_val, trees_val, k10, k9, k2]
    rfl
omit h in
theorem r12 (n : Nat) : Ret Tb (n + 60) 12 [.val (dc t s e)] (.val (fr (rnd t s e))) := by
  refine ⟨?_, ?_⟩
  rotate_left
  · have m1 := vM d.bt d.be
    have k5 := fun m' env => call2 (T := Tb) (n := m' + 40) env (r5 m' (x := t * e) (y := s) (by have := d.s0; omega) (d.bs.mono (by decide)))
    simp only [callF, List.replicate, Nat.sub_self, List.append_nil, List.map_cons, List.map_nil, show Tb.fs[12]? = some f12 from rfl, f12, evS, exS, okb, stb, seqS, one, stepE_none, stepE_bl, stepE_int, stepE_str, stepE_var, stepE_glb, stepE_tup, stepE_lst, stepE_op1, stepE_op2, stepE_not, stepE_and, stepE_or, stepE_ite, stepE_chain, stepE_slice, stepE_call, evD, evDs, evArgs, optI, truthE, truth, O.tree, O.toD, O.trees, O.toDs, v_add, v_sub, v_le, v_lt, v_ge, v_gt, v_min, v_max, v_eq, v_ne, v_is, v_isnt, v_t20, v_t21, u_lenL, u_lenT2, beq_self_eq_true, decide_true, Nat.reduceAdd, Nat.reduceLT, Nat.zero_add, Bool.and_self, Bool.and_true, Bool.true_and, u_isT, u_int, u_intB, u_abs, u_neg, u_tupL, u_revT, seq?, setO, assignT, assignTs, isTy, List.getElem?_cons_zero, List.getElem?_cons_succ, Option.join_some, List.set_cons_zero, List.set_cons_succ, List.length_cons, List.length_nil, Res.bind, if_true, if_false, Nat.lt_irrefl, Bool.not_true, Bool.not_false, reduceIte, Bool.false_eq_true, toDs_val, trees_val, m1, k5, show 4 - 1 = 3 from rfl, List.cons_append, List.nil_append]
    rfl
theorem r13 (n : Nat) : Ret Tb (n + 70) 13 [.val (dc t s e), .val (fr c)] (.val (fr (dft t s e c))) := by
  refine ⟨?_, ?_⟩
  rotate_left
  · have k12 := fun m' env => call1 (T := Tb) (n := m' + 60) env (r12 d m')
    have br := d.br
    have m1 := vM br.n h.b.d
    have m2 := vM h.b.n br.d
    have m3 := vM br.d h.b.d
    have k5 := fun m' env => call2 (T := Tb) (n := m' + 40) env (r5 m' (x := (rnd t s e).num * (c.den : Int) - c.num * ((rnd t s e).den : Int)) (Int.mul_pos (dpos (rnd t s e)) (dpos c)) ((br.d.mul h.b.d).mono (by decide)))
    rw [subI] at k5
    simp only [callF, List.replicate, Nat.sub_self, List.append_nil, List.map_cons, List.map_nil, show Tb.fs[13]? = some f13 from rfl, f13, evS, exS, okb, stb, seqS, one, stepE_none, stepE_bl, stepE_int, stepE_str, stepE_var, stepE_glb, stepE_tup, stepE_lst, stepE_op1, stepE_op2, stepE_not, stepE_and, stepE_or, stepE_ite, stepE_chain, stepE_slice, stepE_call, evD, evDs, evArgs, optI, truthE, truth, O.tree, O.toD, O.trees, O.toDs, v_add, v_sub, v_le, v_lt, v_ge, v_gt, v_min, v_max, v_eq, v_ne, v_is, v_isnt, v_t20, v_t21, u_lenL, u_lenT2, beq_self_eq_true, decide_true, Nat.reduceAdd, Nat.reduceLT, Nat.zero_add, Bool.and_self, Bool.and_true, Bool.true_and, u_isT, u_int, u_intB, u_abs, u_neg, u_tupL, u_revT, seq?, setO, assignT, assignTs, isTy, List.getElem?_cons_zero, List.getElem?_cons_succ, Option.join_some, List.set_cons_zero, List.set_cons_succ, List.length_cons, List.length_nil, Res.bind, if_true, if_false, Nat.lt_irrefl, Bool.not_true, Bool.not_false, reduceIte, Bool.false_eq_true, toDs_val, trees_val, k12, m1, m2, m3, k5, show 4 - 2 = 2 from rfl, List.cons_append, List.nil_append]
    rfl
omit h in
theorem r14 (n : Nat) : Ret Tb (n + 70) 14 [.val (dc t s e)] (.val (fr (rnd t s e))) := by
  refine ⟨?_, ?_⟩
  rotate_left
  · have k10 := fun m' env => call1 (T := Tb) (n := m' + 30) env (r10 m' d)
    have k12 := fun m' env => call1 (T := Tb) (n := m' + 60) env (r12 d m')
    simp only [callF, List.replicate, Nat.sub_self, List.append_nil, List.map_cons, List.map_nil, show Tb.fs[14]? = some f14 from rfl, f14, evS, exS, okb, stb, seqS, one, stepE_none, stepE_bl, stepE_int, stepE_str, stepE_var, stepE_glb, stepE_tup, stepE_lst, stepE_op1, stepE_op2, stepE_not, stepE_and, stepE_or, stepE_ite, stepE_chain, stepE_slice, stepE_call, evD, evDs, evArgs, optI, truthE, truth, O.tree, O.toD, O.trees, O.toDs, v_add, v_sub, v_le, v_lt, v_ge, v_gt, v_min, v_max, v_eq, v_ne, v_is, v_isnt, v_t20, v_t21, u_lenL, u_lenT2, beq_self_eq_true, decide_true, Nat.reduceAdd, Nat.reduceLT, Nat.zero_add, Bool.and_self, Bool.and_true, Bool.true_and, u_isT, u_int, u_intB, u_abs, u_neg, u_tupL, u_revT, seq?, setO, assignT, assignTs, isTy, List.getElem?_cons_zero, List.getElem?_cons_succ, Option.join_some, List.set_cons_zero, List.set_cons_succ, List.length_cons, List.length_nil, Res.bind, if_true, if_false, Nat.lt_irrefl, Bool.not_true, Bool.not_false, reduceIte, Bool.false_eq_true, toDs_val, trees_val, k10, k12]
    rfl
theorem r15 (n : Nat) : Ret Tb (n + 80) 15 [.val (dc t s e), .val (fr c)] (.val (fr (dft t s e c))) := by
  refine ⟨?_, ?_⟩
  rotate_left
  · have k11 := fun m' env => call2 (T := Tb) (n := m' + 70) env (r11 d h m')
    have k13 := fun m' env => call2 (T := Tb) (n := m' + 70) env (r13 d h m')
    simp only [callF, List.replicate, Nat.sub_self, List.append_nil, List.map_cons, List.map_nil, show Tb.fs[15]? = some f15 from rfl, f15, evS, exS, okb, stb, seqS, one, stepE_none, stepE_bl, stepE_int, stepE_str, stepE_var, stepE_glb, stepE_tup, stepE_lst, stepE_op1, stepE_op2, stepE_not, stepE_and, stepE_or, stepE_ite, stepE_chain, stepE_slice, stepE_call, evD, evDs, evArgs, optI, truthE, truth, O.tree, O.toD, O.trees, O.toDs, v_add, v_sub, v_le, v_lt, v_ge, v_gt, v_min, v_max, v_eq, v_ne, v_is, v_isnt, v_t20, v_t21, u_lenL, u_lenT2, beq_self_eq_true, decide_true, Nat.reduceAdd, Nat.reduceLT, Nat.zero_add, Bool.and_self, Bool.and_true, Bool.true_and, u_isT, u_int, u_intB, u_abs, u_neg, u_tupL, u_revT, seq?, setO, assignT, assignTs, isTy, List.getElem?_cons_zero, List.getElem?_cons_succ, Option.join_some, List.set_cons_zero, List.set_cons_succ, List.length_cons, List.length_nil, Res.bind, if_true, if_false, Nat.lt_irrefl, Bool.not_true, Bool.not_false, reduceIte, Bool.false_eq_true, toDs_val, trees_val, k11, k13]
    rfl
end
end Hd

end
section
set_option autoImplicit false
set_option linter.all false
set_option maxRecDepth 100000
namespace Hd
open PySem Ev
theorem ab_num (x : Rat) : (ab x).num = (if x.num < 0 then -x.num else x.num) := by
  unfold ab
  have h := Rat.num_nonneg (q := x)
  by_cases c : x < 0
  · rw [if_pos c, if_pos (Int.not_le.mp fun w => Rat.not_le.mpr c (h.mp w))]; rfl
  · rw [if_neg c, if_neg (by have := h.mpr (Rat.not_lt.mp c); omega)]
theorem ab_den (x : Rat) : (ab x).den = x.den := by
  unfold ab
  split <;> rfl
theorem Bq.ab {k : Nat} {p : Rat} (h : Bq k p) : Bq k (Hd.ab p) := ⟨by rw [ab_num]; exact h.n.iab, by rw [ab_den]; exact h.d⟩
/-- for how many rounds it shows -/
def wn (x w : Rat) : Int := w.num * (x.den : Int) / ((w.den : Int) * iab x.num)
def wnD (x w : Rat) : D := if x.num = 0 then .none else .int (wn x w)
section
variable {t s e : Int} (d : Dc t s e) {c : Rat} (h : Tr c)
include d h
theorem r16 (n : Nat) {w : Rat} (bw : Bq 40 w) (w0 : 0 < w.num) : Ret Tb (n + 90) 16 [.val (dc t s e), .val (fr c), .val (.int w.num), .val (.int (w.den : Int))] (.val (wnD (dft t s e c) w)) := by
  have k11 := fun m' env => call2 (T := Tb) (n := m' + 70) env (r11 d h m')
  have k13 := fun m' env => call2 (T := Tb) (n := m' + 70) env (r13 d h m')
  have k8 := fun m' env => call1 (T := Tb) (n := m' + 40) env (r8 m' (q := w) (bw.mono (by decide)))
  have k2 := fun m' env => call1 (T := Tb) (n := m' + 5) env (r2 m')
  have bd := d.bd h
  unfold wnD wn
  generalize dft t s e c = x at *
  have e1 : decide (0 < w.num) = true := decide_eq_true w0
  by_cases h0 : x.num = 0
  · have e2 : ((x.num == 0)) = true := by rw [beq_iff_eq]; exact h0
    rw [if_pos h0]
    refine ⟨?_, ?_⟩
    rotate_left
    · simp only [callF, List.replicate, Nat.sub_self, List.append_nil, List.map_cons, List.map_nil, show Tb.fs[16]? = some f16 from rfl, f16, evS, exS, okb, stb, seqS, one, stepE_none, stepE_bl, stepE_int, stepE_str, stepE_var, stepE_glb, stepE_tup, stepE_lst, stepE_op1, stepE_op2, stepE_not, stepE_and, stepE_or, stepE_ite, stepE_chain, stepE_slice, stepE_call, evD, evDs, evArgs, optI, truthE, truth, O.tree, O.toD, O.trees, O.toDs, v_add, v_sub, v_le, v_lt, v_ge, v_gt, v_min, v_max, v_eq, v_ne, v_is, v_isnt, v_t20, v_t21, u_lenL, u_lenT2, beq_self_eq_true, decide_true, Nat.reduceAdd, Nat.reduceLT, Nat.zero_add, Bool.and_self, Bool.and_true, Bool.true_and, u_isT, u_int, u_intB, u_abs, u_neg, u_tupL, u_revT, seq?, setO, assignT, assignTs, isTy, List.getElem?_cons_zero, List.getElem?_cons_succ, Option.join_some, List.set_cons_zero, List.set_cons_succ, List.length_cons, List.length_nil, Res.bind, if_true, if_false, Nat.lt_irrefl, Bool.not_true, Bool.not_false, reduceIte, Bool.false_eq_true, toDs_val, trees_val, k11, k13, k8, k2, e1, e2, mo2, mo2', mo2'', show 5 - 4 = 1 from rfl, List.cons_append, List.nil_append]
      rfl
  · have e2 : ((x.num == 0)) = false := by rw [beq_eq_false_iff_ne]; exact h0
    have m1 := vM bw.n bd.d
    have m2 := vM bw.d bd.n.iab
    have m3 := v_fdiv (a := w.num * (x.den : Int)) (b := (w.den : Int) * (if x.num < 0 then -x.num else x.num)) (Int.mul_pos (dpos w) (by split <;> omega)) ((bw.d.mul bd.n.iab).smD (by decide))
    rw [if_neg h0]
    unfold iab
    refine ⟨?_, ?_⟩
    rotate_left
    · simp only [callF, List.replicate, Nat.sub_self, List.append_nil, List.map_cons, List.map_nil, show Tb.fs[16]? = some f16 from rfl, f16, evS, exS, okb, stb, seqS, one, stepE_none, stepE_bl, stepE_int, stepE_str, stepE_var, stepE_glb, stepE_tup, stepE_lst, stepE_op1, stepE_op2, stepE_not, stepE_and, stepE_or, stepE_ite, stepE_chain, stepE_slice, stepE_call, evD, evDs, evArgs, optI, truthE, truth, O.tree, O.toD, O.trees, O.toDs, v_add, v_sub, v_le, v_lt, v_ge, v_gt, v_min, v_max, v_eq, v_ne, v_is, v_isnt, v_t20, v_t21, u_lenL, u_lenT2, beq_self_eq_true, decide_true, Nat.reduceAdd, Nat.reduceLT, Nat.zero_add, Bool.and_self, Bool.and_true, Bool.true_and, u_isT, u_int, u_intB, u_abs, u_neg, u_tupL, u_revT, seq?, setO, assignT, assignTs, isTy, List.getElem?_cons_zero, List.getElem?_cons_succ, Option.join_some, List.set_cons_zero, List.set_cons_succ, List.length_cons, List.length_nil, Res.bind, if_true, if_false, Nat.lt_irrefl, Bool.not_true, Bool.not_false, reduceIte, Bool.false_eq_true, toDs_val, trees_val, k11, k13, k8, k2, e1, e2, m1, m2, m3, mo2, mo2', mo2'', show 5 - 4 = 1 from rfl, List.cons_append, List.nil_append]
      rfl
theorem r17 (n : Nat) : Ret Tb (n + 80) 17 [.val (dc t s e), .val (fr c)] (.val (fr (ab (dft t s e c)))) := by
  have k13 := fun m' env => call2 (T := Tb) (n := m' + 70) env (r13 d h m')
  generalize dft t s e c = x at *
  unfold fr
  rw [ab_num, ab_den]
  refine ⟨?_, ?_⟩
  rotate_left
  · simp only [callF, List.replicate, Nat.sub_self, List.append_nil, List.map_cons, List.map_nil, show Tb.fs[17]? = some f17 from rfl, f17, evS, exS, okb, stb, seqS, one, stepE_none, stepE_bl, stepE_int, stepE_str, stepE_var, stepE_glb, stepE_tup, stepE_lst, stepE_op1, stepE_op2, stepE_not, stepE_and, stepE_or, stepE_ite, stepE_chain, stepE_slice, stepE_call, evD, evDs, evArgs, optI, truthE, truth, O.tree, O.toD, O.trees, O.toDs, v_add, v_sub, v_le, v_lt, v_ge, v_gt, v_min, v_max, v_eq, v_ne, v_is, v_isnt, v_t20, v_t21, u_lenL, u_lenT2, beq_self_eq_true, decide_true, Nat.reduceAdd, Nat.reduceLT, Nat.zero_add, Bool.and_self, Bool.and_true, Bool.true_and, u_isT, u_int, u_intB, u_abs, u_neg, u_tupL, u_revT, seq?, setO, assignT, assignTs, isTy, List.getElem?_cons_zero, List.getElem?_cons_succ, Option.join_some, List.set_cons_zero, List.set_cons_succ, List.length_cons, List.length_nil, Res.bind, if_true, if_false, Nat.lt_irrefl, Bool.not_true, Bool.not_false, reduceIte, Bool.false_eq_true, toDs_val, trees_val, k13, mo2, mo2', mo2'', show 4 - 2 = 2 from rfl, List.cons_append, List.nil_append]
    rfl
end
theorem r18 (n : Nat) {p q : Rat} (hp : Bq 1000 p) (hq : Bq 1000 q) : Ret Tb (n + 9) 18 [.val (fr p), .val (fr q)] (.val (.bool (decide (p < q)))) := by
  rw [show decide (p < q) = decide (p.num * (q.den : Int) < q.num * (p.den : Int)) from decide_eq_decide.mpr (Rat.lt_iff p q)]
  refine ⟨?_, ?_⟩
  rotate_left
  · have m1 := vM hp.n hq.d
    have m2 := vM hq.n hp.d
    simp only [callF, List.replicate, Nat.sub_self, List.append_nil, List.map_cons, List.map_nil, show Tb.fs[18]? = some f18 from rfl, f18, evS, exS, okb, stb, seqS, one, stepE_none, stepE_bl, stepE_int, stepE_str, stepE_var, stepE_glb, stepE_tup, stepE_lst, stepE_op1, stepE_op2, stepE_not, stepE_and, stepE_or, stepE_ite, stepE_chain, stepE_slice, stepE_call, evD, evDs, evArgs, optI, truthE, truth, O.tree, O.toD, O.trees, O.toDs, v_add, v_sub, v_le, v_lt, v_ge, v_gt, v_min, v_max, v_eq, v_ne, v_is, v_isnt, v_t20, v_t21, u_lenL, u_lenT2, beq_self_eq_true, decide_true, Nat.reduceAdd, Nat.reduceLT, Nat.zero_add, Bool.and_self, Bool.and_true, Bool.true_and, u_isT, u_int, u_intB, u_abs, u_neg, u_tupL, u_revT, seq?, setO, assignT, assignTs, isTy, List.getElem?_cons_zero, List.getElem?_cons_succ, Option.join_some, List.set_cons_zero, List.set_cons_succ, List.length_cons, List.length_nil, Res.bind, if_true, if_false, Nat.lt_irrefl, Bool.not_true, Bool.not_false, reduceIte, Bool.false_eq_true, toDs_val, trees_val, m1, m2]
    rfl
/-! teeth -/
abbrev th (t s e h : Int) : Int := h / e * s % t
theorem div_B {k : Nat} {h e : Int} (b : B k h) (h0 : 0 ≤ h) (e0 : 1 ≤ e) : B k (h / e) := b.le (Int.ediv_nonneg h0 (by omega)) (Int.ediv_le_self _ h0)
section
variable {t s e : Int} (d : Dc t s e) {h : Int} (h0 : 0 ≤ h) (bh : B 60 h)
include d h0 bh
theorem r24 (n : Nat) : Ret Tb (n + 20) 24 [.val (dc t s e), .val (.int h)] (.val (.int (th t s e h))) := by
  have := d.e0; have := d.t0
  refine ⟨?_, ?_⟩
  rotate_left
  · have m1 := v_fdiv (a := h) (b := e) (by omega) ((d.be.mono (by decide)).smD (k := 20) (by decide))
    have m2 := vM (div_B bh h0 d.e0) d.bs
    have m3 := v_mod (a := h / e * s) (b := t) (by omega)
    simp only [callF, List.replicate, Nat.sub_self, List.append_nil, List.map_cons, List.map_nil, show Tb.fs[24]? = some f24 from rfl, f24, evS, exS, okb, stb, seqS, one, stepE_none, stepE_bl, stepE_int, stepE_str, stepE_var, stepE_glb, stepE_tup, stepE_lst, stepE_op1, stepE_op2, stepE_not, stepE_and, stepE_or, stepE_ite, stepE_chain, stepE_slice, stepE_call, evD, evDs, evArgs, optI, truthE, truth, O.tree, O.toD, O.trees, O.toDs, v_add, v_sub, v_le, v_lt, v_ge, v_gt, v_min, v_max, v_eq, v_ne, v_is, v_isnt, v_t20, v_t21, u_lenL, u_lenT2, beq_self_eq_true, decide_true, Nat.reduceAdd, Nat.reduceLT, Nat.zero_add, Bool.and_self, Bool.and_true, Bool.true_and, u_isT, u_int, u_intB, u_abs, u_neg, u_tupL, u_revT, seq?, setO, assignT, assignTs, isTy, List.getElem?_cons_zero, List.getElem?_cons_succ, Option.join_some, List.set_cons_zero, List.set_cons_succ, List.length_cons, List.length_nil, Res.bind, if_true, if_false, Nat.lt_irrefl, Bool.not_true, Bool.not_false, reduceIte, Bool.false_eq_true, toDs_val, trees_val, m1, m2, m3, show 5 - 2 = 3 from rfl, List.cons_append, List.nil_append]
    rfl
omit bh in
theorem r25 (n : Nat) : Ret Tb (n + 40) 25 [.val (dc t s e), .val (.int h)] (.val .none) := by
  refine ⟨?_, ?_⟩
  rotate_left
  · have k10 := fun m' env => call1 (T := Tb) (n := m' + 30) env (r10 m' d)
    have k6 := fun m' env => call1 (T := Tb) (n := m' + 9) env (r6 m' h0)
    have k2 := fun m' env => call1 (T := Tb) (n := m' + 5) env (r2 m')
    simp only [callF, List.replicate, Nat.sub_self, List.append_nil, List.map_cons, List.map_nil, show Tb.fs[25]? = some f25 from rfl, f25, evS, exS, okb, stb, seqS, one, stepE_none, stepE_bl, stepE_int, stepE_str, stepE_var, stepE_glb, stepE_tup, stepE_lst, stepE_op1, stepE_op2, stepE_not, stepE_and, stepE_or, stepE_ite, stepE_chain, stepE_slice, stepE_call, evD, evDs, evArgs, optI, truthE, truth, O.tree, O.toD, O.trees, O.toDs, v_add, v_sub, v_le, v_lt, v_ge, v_gt, v_min, v_max, v_eq, v_ne, v_is, v_isnt, v_t20, v_t21, u_lenL, u_lenT2, beq_self_eq_true, decide_true, Nat.reduceAdd, Nat.reduceLT, Nat.zero_add, Bool.and_self, Bool.and_true, Bool.true_and, u_isT, u_int, u_intB, u_abs, u_neg, u_tupL, u_revT, seq?, setO, assignT, assignTs, isTy, List.getElem?_cons_zero, List.getElem?_cons_succ, Option.join_some, List.set_cons_zero, List.set_cons_succ, List.length_cons, List.length_nil, Res.bind, if_true, if_false, Nat.lt_irrefl, Bool.not_true, Bool.not_false, reduceIte, Bool.false_eq_true, toDs_val, trees_val, k10, k6, k2]
    rfl
theorem r26 (n : Nat) : Ret Tb (n + 50) 26 [.val (dc t s e), .val (.int h)] (.val (.int (th t s e h))) := by
  refine ⟨?_, ?_⟩
  rotate_left
  · have k25 := fun m' env => call2 (T := Tb) (n := m' + 40) env (r25 d h0 m')
    have k24 := fun m' env => call2 (T := Tb) (n := m' + 20) env (r24 d h0 bh m')
    simp only [callF, List.replicate, Nat.sub_self, List.append_nil, List.map_cons, List.map_nil, show Tb.fs[26]? = some f26 from rfl, f26, evS, exS, okb, stb, seqS, one, stepE_none, stepE_bl, stepE_int, stepE_str, stepE_var, stepE_glb, stepE_tup, stepE_lst, stepE_op1, stepE_op2, stepE_not, stepE_and, stepE_or, stepE_ite, stepE_chain, stepE_slice, stepE_call, evD, evDs, evArgs, optI, truthE, truth, O.tree, O.toD, O.trees, O.toDs, v_add, v_sub, v_le, v_lt, v_ge, v_gt, v_min, v_max, v_eq, v_ne, v_is, v_isnt, v_t20, v_t21, u_lenL, u_lenT2, beq_self_eq_true, decide_true, Nat.reduceAdd, Nat.reduceLT, Nat.zero_add, Bool.and_self, Bool.and_true, Bool.true_and, u_isT, u_int, u_intB, u_abs, u_neg, u_tupL, u_revT, seq?, setO, assignT, assignTs, isTy, List.getElem?_cons_zero, List.getElem?_cons_succ, Option.join_some, List.set_cons_zero, List.set_cons_succ, List.length_cons, List.length_nil, Res.bind, if_true, if_false, Nat.lt_irrefl, Bool.not_true, Bool.not_false, reduceIte, Bool.false_eq_true, toDs_val, trees_val, k25, k24]
    rfl
theorem r28 (n : Nat) {p : Int} (p0 : 1 ≤ p) (p1 : p ≤ 100) : Ret Tb (n + 50) 28 [.val (dc t s e), .val (.int h), .val (.int p)] (.val (.int (th t s e h * p / t))) := by
  have := d.t0; have := d.t1
  have q0 := Int.emod_nonneg (h / e * s) (show t ≠ 0 by omega)
  have q1 := Int.emod_lt_of_pos (h / e * s) (show 0 < t by omega)
  refine ⟨?_, ?_⟩
  rotate_left
  · have k25 := fun m' env => call2 (T := Tb) (n := m' + 40) env (r25 d h0 m')
    have k24 := fun m' env => call2 (T := Tb) (n := m' + 20) env (r24 d h0 bh m')
    have k1 := fun m' env => call3 (T := Tb) (n := m' + 9) env (r1 m' (lo := 1) (hi := 100) p0 p1)
    have k2 := fun m' env => call1 (T := Tb) (n := m' + 5) env (r2 m')
    have m1 := vM (x := th t s e h) (y := p) (B.of (by unfold th; omega) (by unfold th; omega)) (B.of (by omega) (by omega))
    have m2 := v_fdiv (a := th t s e h * p) (b := t) (by omega) ((d.bt.mono (by decide)).smD (k := 20) (by decide))
    simp only [callF, List.replicate, Nat.sub_self, List.append_nil, List.map_cons, List.map_nil, show Tb.fs[28]? = some f28 from rfl, f28, evS, exS, okb, stb, seqS, one, stepE_none, stepE_bl, stepE_int, stepE_str, stepE_var, stepE_glb, stepE_tup, stepE_lst, stepE_op1, stepE_op2, stepE_not, stepE_and, stepE_or, stepE_ite, stepE_chain, stepE_slice, stepE_call, evD, evDs, evArgs, optI, truthE, truth, O.tree, O.toD, O.trees, O.toDs, v_add, v_sub, v_le, v_lt, v_ge, v_gt, v_min, v_max, v_eq, v_ne, v_is, v_isnt, v_t20, v_t21, u_lenL, u_lenT2, beq_self_eq_true, decide_true, Nat.reduceAdd, Nat.reduceLT, Nat.zero_add, Bool.and_self, Bool.and_true, Bool.true_and, u_isT, u_int, u_intB, u_abs, u_neg, u_tupL, u_revT, seq?, setO, assignT, assignTs, isTy, List.getElem?_cons_zero, List.getElem?_cons_succ, Option.join_some, List.set_cons_zero, List.set_cons_succ, List.length_cons, List.length_nil, Res.bind, if_true, if_false, Nat.lt_irrefl, Bool.not_true, Bool.not_false, reduceIte, Bool.false_eq_true, toDs_val, trees_val, k25, k24, k1, k2, m1, m2, t30, show Tb.cs[5]? = some (.int 100) from rfl]
    rfl
omit bh in
theorem r31 (n : Nat) : Ret Tb (n + 50) 31 [.val (dc t s e), .val (.int h)] (.val (.int (h / e))) := by
  have := d.e0
  refine ⟨?_, ?_⟩
  rotate_left
  · have k25 := fun m' env => call2 (T := Tb) (n := m' + 40) env (r25 d h0 m')
    have m1 := v_fdiv (a := h) (b := e) (by omega) ((d.be.mono (by decide)).smD (k := 20) (by decide))
    simp only [callF, List.replicate, Nat.sub_self, List.append_nil, List.map_cons, List.map_nil, show Tb.fs[31]? = some f31 from rfl, f31, evS, exS, okb, stb, seqS, one, stepE_none, stepE_bl, stepE_int, stepE_str, stepE_var, stepE_glb, stepE_tup, stepE_lst, stepE_op1, stepE_op2, stepE_not, stepE_and, stepE_or, stepE_ite, stepE_chain, stepE_slice, stepE_call, evD, evDs, evArgs, optI, truthE, truth, O.tree, O.toD, O.trees, O.toDs, v_add, v_sub, v_le, v_lt, v_ge, v_gt, v_min, v_max, v_eq, v_ne, v_is, v_isnt, v_t20, v_t21, u_lenL, u_lenT2, beq_self_eq_true, decide_true, Nat.reduceAdd, Nat.reduceLT, Nat.zero_add, Bool.and_self, Bool.and_true, Bool.true_and, u_isT, u_int, u_intB, u_abs, u_neg, u_tupL, u_revT, seq?, setO, assignT, assignTs, isTy, List.getElem?_cons_zero, List.getElem?_cons_succ, Option.join_some, List.set_cons_zero, List.set_cons_succ, List.length_cons, List.length_nil, Res.bind, if_true, if_false, Nat.lt_irrefl, Bool.not_true, Bool.not_false, reduceIte, Bool.false_eq_true, toDs_val, trees_val, k25, m1, t32]
    rfl
end
theorem v_eqR (p q : Rat) : ev2 .eq (fr p) (fr q) = some (.val (.bool (decide (p = q)))) := by
  rw [show (fr p) = .tuple [.int p.num, .int (p.den : Int)] from rfl, show (fr q) = .tuple [.int q.num, .int (q.den : Int)] from rfl, v_eqP]
  refine congrArg (fun b => some (O.val (.bool b))) (decide_eq_decide.mpr ⟨fun h => ?_, fun h => by rw [h]⟩)
  rw [Prod.mk.injEq] at h
  exact Rat.ext h.1 (Int.ofNat_inj.mp h.2)
theorem v_neR (p q : Rat) : ev2 .ne (fr p) (fr q) = some (.val (.bool (!decide (p = q)))) := by
  rw [show (fr p) = .tuple [.int p.num, .int (p.den : Int)] from rfl, show (fr q) = .tuple [.int q.num, .int (q.den : Int)] from rfl, v_neP]
  refine congrArg (fun b => some (O.val (.bool (!b)))) (decide_eq_decide.mpr ⟨fun h => ?_, fun h => by rw [h]⟩)
  rw [Prod.mk.injEq] at h
  exact Rat.ext h.1 (Int.ofNat_inj.mp h.2)
section
variable {t s e : Int} (d : Dc t s e)
include d
theorem r30 (n : Nat) {t' s' e' : Int} (d' : Dc t' s' e') : Ret Tb (n + 70) 30 [.val (dc t s e), .val (dc t' s' e')] (.val (.bool (decide (rnd t s e = rnd t' s' e')))) := by
  have k10 := fun m' env => call1 (T := Tb) (n := m' + 30) env (r10 m' d)
  have k12 := fun m' env => call1 (T := Tb) (n := m' + 60) env (r12 d m')
  have k10' := fun m' env => call1 (T := Tb) (n := m' + 30) env (r10 m' d')
  have k12' := fun m' env => call1 (T := Tb) (n := m' + 60) env (r12 d' m')
  have e1 := v_eqR (rnd t s e) (rnd t' s' e')
  generalize rnd t s e = x at *
  generalize rnd t' s' e' = y at *
  unfold fr at *
  refine ⟨?_, ?_⟩
  rotate_left
  · simp only [callF, List.replicate, Nat.sub_self, List.append_nil, List.map_cons, List.map_nil, show Tb.fs[30]? = some f30 from rfl, f30, evS, exS, okb, stb, seqS, one, stepE_none, stepE_bl, stepE_int, stepE_str, stepE_var, stepE_glb, stepE_tup, stepE_lst, stepE_op1, stepE_op2, stepE_not, stepE_and, stepE_or, stepE_ite, stepE_chain, stepE_slice, stepE_call, evD, evDs, evArgs, optI, truthE, truth, O.tree, O.toD, O.trees, O.toDs, v_add, v_sub, v_le, v_lt, v_ge, v_gt, v_min, v_max, v_eq, v_ne, v_is, v_isnt, v_t20, v_t21, u_lenL, u_lenT2, beq_self_eq_true, decide_true, Nat.reduceAdd, Nat.reduceLT, Nat.zero_add, Bool.and_self, Bool.and_true, Bool.true_and, u_isT, u_int, u_intB, u_abs, u_neg, u_tupL, u_revT, seq?, setO, assignT, assignTs, isTy, List.getElem?_cons_zero, List.getElem?_cons_succ, Option.join_some, List.set_cons_zero, List.set_cons_succ, List.length_cons, List.length_nil, Res.bind, if_true, if_false, Nat.lt_irrefl, Bool.not_true, Bool.not_false, reduceIte, Bool.false_eq_true, toDs_val, trees_val, k10, k12, k10', k12', e1]
    rfl
theorem r32 (n : Nat) : Ret Tb (n + 50) 32 [.val (dc t s e)] (.val (.bool (gA t s == 1))) := by
  refine ⟨?_, ?_⟩
  rotate_left
  · have k10 := fun m' env => call1 (T := Tb) (n := m' + 30) env (r10 m' d)
    have k4 := fun m' env => call2 (T := Tb) (n := m' + 30) env (r4 m' (x := t) (d.bs.mono (by decide)))
    simp only [callF, List.replicate, Nat.sub_self, List.append_nil, List.map_cons, List.map_nil, show Tb.fs[32]? = some f32 from rfl, f32, evS, exS, okb, stb, seqS, one, stepE_none, stepE_bl, stepE_int, stepE_str, stepE_var, stepE_glb, stepE_tup, stepE_lst, stepE_op1, stepE_op2, stepE_not, stepE_and, stepE_or, stepE_ite, stepE_chain, stepE_slice, stepE_call, evD, evDs, evArgs, optI, truthE, truth, O.tree, O.toD, O.trees, O.toDs, v_add, v_sub, v_le, v_lt, v_ge, v_gt, v_min, v_max, v_eq, v_ne, v_is, v_isnt, v_t20, v_t21, u_lenL, u_lenT2, beq_self_eq_true, decide_true, Nat.reduceAdd, Nat.reduceLT, Nat.zero_add, Bool.and_self, Bool.and_true, Bool.true_and, u_isT, u_int, u_intB, u_abs, u_neg, u_tupL, u_revT, seq?, setO, assignT, assignTs, isTy, List.getElem?_cons_zero, List.getElem?_cons_succ, Option.join_some, List.set_cons_zero, List.set_cons_succ, List.length_cons, List.length_nil, Res.bind, if_true, if_false, Nat.lt_irrefl, Bool.not_true, Bool.not_false, reduceIte, Bool.false_eq_true, toDs_val, trees_val, k10, k4, t30, t31]
    rfl
end
end Hd

end
section
set_option autoImplicit false
set_option linter.all false
set_option maxRecDepth 100000
set_option maxHeartbeats 1000000
namespace Hd
open PySem Ev
theorem items_r2w {ev : Ev.E → Ev.Env → Res (O × Ev.Env)} {a b : Ev.E} {env env1 env2 : Ev.Env} {i j : Int} (h : evD ev a env = .ok (.int i, env1)) (h2 : evD ev b env1 = .ok (.int j, env2)) (h3 : -4000000000000000000 ≤ i ∧ i ≤ 4000000000000000000 ∧ -4000000000000000000 ≤ j ∧ j ≤ 4000000000000000000 ∧ j - i ≤ 1000000) : items ev (.range2 a b) env = .ok (rangeD i j, env2) := by
  have e1 : (okRange i && okRange j && decide (j - i ≤ most)) = true := by
    simp only [okRange, Bool.and_eq_true, decide_eq_true_eq]
    refine ⟨⟨⟨by omega, by omega⟩, by omega, by omega⟩, ?_⟩
    show j - i ≤ ((1000000 : Nat) : Int)
    omega
  show (evD ev a env).bind _ = _
  rw [h, okb, h2]
  show (if (okRange i && okRange j && decide (j - i ≤ most)) = true then Res.ok (rangeD i j, env2) else .stuck) = _
  rw [if_pos e1]
theorem loopF_next {body : Ev.Env → Res (Fl × Ev.Env)} {t : Ev.Tgt} {d : D} {ds : List D} {env env1 env2 : Ev.Env} (ha : assignT t d env = some env1) (hb : body env1 = .ok (.next, env2)) : loopF body t (d :: ds) env = loopF body t ds env2 := by
  show (match assignT t d env with | none => Res.stuck | some env1 => _) = _
  rw [ha]
  dsimp only
  rw [hb]
  rfl
theorem loopF_ret {body : Ev.Env → Res (Fl × Ev.Env)} {t : Ev.Tgt} {d : D} {ds : List D} {env env1 env2 : Ev.Env} {o : O} (ha : assignT t d env = some env1) (hb : body env1 = .ok (.ret o, env2)) : loopF body t (d :: ds) env = .ok (.ret o, env2) := by
  show (match assignT t d env with | none => Res.stuck | some env1 => _) = _
  rw [ha]
  dsimp only
  rw [hb]
  rfl
/-- the tooth is met at this one -/
abbrev hit (t s w k : Int) : Bool := k * s % t == w
abbrev E27 (t s e w h : Int) (a3 a4 a5 a6 a7 : Option O) : Ev.Env := [some (.val (dc t s e)), some (.val (.int w)), some (.val (.int h)), a3, a4, a5, a6, a7]
abbrev F27 (t s e w h : Int) (a4 : Option O) : Ev.Env := E27 t s e w h (some (.val (.int (h / e)))) a4 (some (.val (.int t))) (some (.val (.int s))) (some (.val (.int e)))
abbrev S27_1 : Ev.S := (.expr (.call 10 [(.var 0)]))
abbrev S27_2 : Ev.S := (.expr (.call 2 [(.and (.call 0 [(.var 1)]) (.call 6 [(.var 2)]))]))
abbrev S27_3 : Ev.S := (.asg (.tup [(.nm 5), (.nm 6), (.nm 7)]) (.var 0))
abbrev S27_4 : Ev.S := (.expr (.call 3 [(.chain .le .lt (.int 0) (.var 1) (.var 5))]))
abbrev S27_5 : Ev.S := (.asg (.nm 3) (.op2 .fdiv (.var 2) (.var 7)))
abbrev S27_6 : Ev.S := (.forS (.nm 4) (.range2 (.var 3) (.op2 .add (.var 3) (.var 5))) [(.ifS (.op2 .eq (.op2 .mod (.op2 .mul (.var 4) (.var 6)) (.var 5)) (.var 1)) [(.ret (.op2 .max2 (.var 2) (.op2 .mul (.var 4) (.var 7))))] [])])
abbrev S27_7 : Ev.S := (.ret .none)
abbrev B27 : List Ev.S := [(.ifS (.op2 .eq (.op2 .mod (.op2 .mul (.var 4) (.var 6)) (.var 5)) (.var 1)) [(.ret (.op2 .max2 (.var 2) (.op2 .mul (.var 4) (.var 7))))] [])]
/-- the first one at which it is met -/
def fst (t s w h e : Int) : Option Int := ((List.range t.toNat).map fun (k : Nat) => h / e + (k : Int)).find? (hit t s w)
def nxD (t s e w h : Int) : D := match fst t s w h e with
  | none => .none
  | some k => .int (if k * e > h then k * e else h)
section
variable {t s e : Int} (d : Dc t s e) {w h : Int}
include d
theorem loop27 (n : Nat) : ∀ (ks : List Int) (a4 : Option O), (∀ k ∈ ks, B 62 k) → ∃ b4, loopF (exN Tb (n + 20) B27) (.nm 4) (ks.map .int) (F27 t s e w h a4) = .ok (match ks.find? (hit t s w) with | none => (.next, F27 t s e w h b4) | some k => (.ret (.val (.int (if k * e > h then k * e else h))), F27 t s e w h b4))
  | [], a4, _ => ⟨a4, rfl⟩
  | k :: ks, a4, hb => by
    have := d.t0
    have m1 := vM (hb k List.mem_cons_self) d.bs
    have m2 := v_mod (a := k * s) (b := t) (by omega)
    have m3 := vM (hb k List.mem_cons_self) d.be
    rw [List.map_cons, List.find?_cons]
    cases c : hit t s w k with
    | true =>
      refine ⟨some (.val (.int k)), loopF_ret (env1 := F27 t s e w h (some (.val (.int k)))) rfl ?_⟩
      rw [show n + 20 = n + 19 + 1 from rfl]
      simp only [evS, exS, okb, stb, seqS, one, stepE_none, stepE_bl, stepE_int, stepE_str, stepE_var, stepE_glb, stepE_tup, stepE_lst, stepE_op1, stepE_op2, stepE_not, stepE_and, stepE_or, stepE_ite, stepE_chain, stepE_slice, stepE_call, evD, evDs, evArgs, optI, truthE, truth, O.tree, O.toD, O.trees, O.toDs, v_add, v_sub, v_le, v_lt, v_ge, v_gt, v_min, v_max, v_eq, v_ne, v_is, v_isnt, v_t20, v_t21, u_lenL, u_lenT2, beq_self_eq_true, decide_true, Nat.reduceAdd, Nat.reduceLT, Nat.zero_add, Bool.and_self, Bool.and_true, Bool.true_and, u_isT, u_int, u_intB, u_abs, u_neg, u_tupL, u_revT, seq?, setO, assignT, assignTs, isTy, List.getElem?_cons_zero, List.getElem?_cons_succ, Option.join_some, List.set_cons_zero, List.set_cons_succ, List.length_cons, List.length_nil, Res.bind, if_true, if_false, Nat.lt_irrefl, Bool.not_true, Bool.not_false, reduceIte, Bool.false_eq_true, toDs_val, trees_val, m1, m2, m3, c]
    | false =>
      obtain ⟨b4, ih⟩ := loop27 n ks (some (.val (.int k))) (fun x hx => hb x (List.mem_cons_of_mem _ hx))
      refine ⟨b4, (loopF_next (env1 := F27 t s e w h (some (.val (.int k)))) (env2 := F27 t s e w h (some (.val (.int k)))) rfl ?_).trans ih⟩
      rw [show n + 20 = n + 19 + 1 from rfl]
      simp only [evS, exS, okb, stb, seqS, one, stepE_none, stepE_bl, stepE_int, stepE_str, stepE_var, stepE_glb, stepE_tup, stepE_lst, stepE_op1, stepE_op2, stepE_not, stepE_and, stepE_or, stepE_ite, stepE_chain, stepE_slice, stepE_call, evD, evDs, evArgs, optI, truthE, truth, O.tree, O.toD, O.trees, O.toDs, v_add, v_sub, v_le, v_lt, v_ge, v_gt, v_min, v_max, v_eq, v_ne, v_is, v_isnt, v_t20, v_t21, u_lenL, u_lenT2, beq_self_eq_true, decide_true, Nat.reduceAdd, Nat.reduceLT, Nat.zero_add, Bool.and_self, Bool.and_true, Bool.true_and, u_isT, u_int, u_intB, u_abs, u_neg, u_tupL, u_revT, seq?, setO, assignT, assignTs, isTy, List.getElem?_cons_zero, List.getElem?_cons_succ, Option.join_some, List.set_cons_zero, List.set_cons_succ, List.length_cons, List.length_nil, Res.bind, if_true, if_false, Nat.lt_irrefl, Bool.not_true, Bool.not_false, reduceIte, Bool.false_eq_true, toDs_val, trees_val, m1, m2, m3, c]
theorem r27 (n : Nat) (h0 : 0 ≤ h) (h1 : h ≤ 1000000000000) (w0 : 0 ≤ w) (w1 : w < t) : Ret Tb (n + 60) 27 [.val (dc t s e), .val (.int w), .val (.int h)] (.val (nxD t s e w h)) := by
  have := d.t0; have := d.t1; have := d.e0
  have q0 := Int.ediv_nonneg h0 (show 0 ≤ e by omega)
  have q1 := Int.ediv_le_self e h0
  have k10 := fun m' env => call1 (T := Tb) (n := m' + 30) env (r10 m' d)
  have k0 := fun m' env => call1 (T := Tb) (n := m' + 5) env (r0 m' w)
  have k6 := fun m' env => call1 (T := Tb) (n := m' + 9) env (r6 m' h0)
  have k2 := fun m' env => call1 (T := Tb) (n := m' + 5) env (r2 m')
  have k3 := fun m' env => call1 (T := Tb) (n := m' + 5) env (r3 m')
  have m1 := v_fdiv (a := h) (b := e) (by omega) ((d.be.mono (by decide)).smD (k := 20) (by decide))
  have c1 : decide (0 ≤ w) = true := decide_eq_true w0
  have c2 : decide (w < t) = true := decide_eq_true w1
  obtain ⟨b4, hl⟩ := loop27 (w := w) (h := h) d (n + 39) ((List.range t.toNat).map fun (k : Nat) => h / e + (k : Int)) none (fun k hk => by
    obtain ⟨j, hj, rfl⟩ := List.mem_map.mp hk
    rw [List.mem_range] at hj
    unfold B; omega)
  have hr : rangeD (h / e) (h / e + t) = ((List.range t.toNat).map fun (k : Nat) => h / e + (k : Int)).map .int := by
    unfold rangeD
    rw [List.map_map, show h / e + t - h / e = t by omega]
    rfl
  refine ⟨[some (.val (dc t s e)), some (.val (.int w)), some (.val (.int h))], ?_⟩
  have g1 : Ev.one Tb (evN Tb (n + 59)) (exN Tb (n + 59)) S27_1 (E27 t s e w h none none none none none) = .ok (.next, E27 t s e w h none none none none none) := by
    unfold S27_1 E27
    simp only [evS, exS, okb, stb, seqS, one, stepE_none, stepE_bl, stepE_int, stepE_str, stepE_var, stepE_glb, stepE_tup, stepE_lst, stepE_op1, stepE_op2, stepE_not, stepE_and, stepE_or, stepE_ite, stepE_chain, stepE_slice, stepE_call, evD, evDs, evArgs, optI, truthE, truth, O.tree, O.toD, O.trees, O.toDs, v_add, v_sub, v_le, v_lt, v_ge, v_gt, v_min, v_max, v_eq, v_ne, v_is, v_isnt, v_t20, v_t21, u_lenL, u_lenT2, beq_self_eq_true, decide_true, Nat.reduceAdd, Nat.reduceLT, Nat.zero_add, Bool.and_self, Bool.and_true, Bool.true_and, u_isT, u_int, u_intB, u_abs, u_neg, u_tupL, u_revT, seq?, setO, assignT, assignTs, isTy, List.getElem?_cons_zero, List.getElem?_cons_succ, Option.join_some, List.set_cons_zero, List.set_cons_succ, List.length_cons, List.length_nil, Res.bind, if_true, if_false, Nat.lt_irrefl, Bool.not_true, Bool.not_false, reduceIte, Bool.false_eq_true, toDs_val, trees_val, k10]
  have g2 : Ev.one Tb (evN Tb (n + 59)) (exN Tb (n + 59)) S27_2 (E27 t s e w h none none none none none) = .ok (.next, E27 t s e w h none none none none none) := by
    unfold S27_2 E27
    simp only [evS, exS, okb, stb, seqS, one, stepE_none, stepE_bl, stepE_int, stepE_str, stepE_var, stepE_glb, stepE_tup, stepE_lst, stepE_op1, stepE_op2, stepE_not, stepE_and, stepE_or, stepE_ite, stepE_chain, stepE_slice, stepE_call, evD, evDs, evArgs, optI, truthE, truth, O.tree, O.toD, O.trees, O.toDs, v_add, v_sub, v_le, v_lt, v_ge, v_gt, v_min, v_max, v_eq, v_ne, v_is, v_isnt, v_t20, v_t21, u_lenL, u_lenT2, beq_self_eq_true, decide_true, Nat.reduceAdd, Nat.reduceLT, Nat.zero_add, Bool.and_self, Bool.and_true, Bool.true_and, u_isT, u_int, u_intB, u_abs, u_neg, u_tupL, u_revT, seq?, setO, assignT, assignTs, isTy, List.getElem?_cons_zero, List.getElem?_cons_succ, Option.join_some, List.set_cons_zero, List.set_cons_succ, List.length_cons, List.length_nil, Res.bind, if_true, if_false, Nat.lt_irrefl, Bool.not_true, Bool.not_false, reduceIte, Bool.false_eq_true, toDs_val, trees_val, k0, k6, k2]
  have g3 : Ev.one Tb (evN Tb (n + 59)) (exN Tb (n + 59)) S27_3 (E27 t s e w h none none none none none) = .ok (.next, E27 t s e w h none none (some (.val (.int t))) (some (.val (.int s))) (some (.val (.int e)))) := by
    unfold S27_3 E27
    simp only [evS, exS, okb, stb, seqS, one, stepE_none, stepE_bl, stepE_int, stepE_str, stepE_var, stepE_glb, stepE_tup, stepE_lst, stepE_op1, stepE_op2, stepE_not, stepE_and, stepE_or, stepE_ite, stepE_chain, stepE_slice, stepE_call, evD, evDs, evArgs, optI, truthE, truth, O.tree, O.toD, O.trees, O.toDs, v_add, v_sub, v_le, v_lt, v_ge, v_gt, v_min, v_max, v_eq, v_ne, v_is, v_isnt, v_t20, v_t21, u_lenL, u_lenT2, beq_self_eq_true, decide_true, Nat.reduceAdd, Nat.reduceLT, Nat.zero_add, Bool.and_self, Bool.and_true, Bool.true_and, u_isT, u_int, u_intB, u_abs, u_neg, u_tupL, u_revT, seq?, setO, assignT, assignTs, isTy, List.getElem?_cons_zero, List.getElem?_cons_succ, Option.join_some, List.set_cons_zero, List.set_cons_succ, List.length_cons, List.length_nil, Res.bind, if_true, if_false, Nat.lt_irrefl, Bool.not_true, Bool.not_false, reduceIte, Bool.false_eq_true, toDs_val, trees_val]
  have g4 : Ev.one Tb (evN Tb (n + 59)) (exN Tb (n + 59)) S27_4 (E27 t s e w h none none (some (.val (.int t))) (some (.val (.int s))) (some (.val (.int e)))) = .ok (.next, E27 t s e w h none none (some (.val (.int t))) (some (.val (.int s))) (some (.val (.int e)))) := by
    unfold S27_4 E27
    simp only [evS, exS, okb, stb, seqS, one, stepE_none, stepE_bl, stepE_int, stepE_str, stepE_var, stepE_glb, stepE_tup, stepE_lst, stepE_op1, stepE_op2, stepE_not, stepE_and, stepE_or, stepE_ite, stepE_chain, stepE_slice, stepE_call, evD, evDs, evArgs, optI, truthE, truth, O.tree, O.toD, O.trees, O.toDs, v_add, v_sub, v_le, v_lt, v_ge, v_gt, v_min, v_max, v_eq, v_ne, v_is, v_isnt, v_t20, v_t21, u_lenL, u_lenT2, beq_self_eq_true, decide_true, Nat.reduceAdd, Nat.reduceLT, Nat.zero_add, Bool.and_self, Bool.and_true, Bool.true_and, u_isT, u_int, u_intB, u_abs, u_neg, u_tupL, u_revT, seq?, setO, assignT, assignTs, isTy, List.getElem?_cons_zero, List.getElem?_cons_succ, Option.join_some, List.set_cons_zero, List.set_cons_succ, List.length_cons, List.length_nil, Res.bind, if_true, if_false, Nat.lt_irrefl, Bool.not_true, Bool.not_false, reduceIte, Bool.false_eq_true, toDs_val, trees_val, c1, c2, k3]
  have g5 : Ev.one Tb (evN Tb (n + 59)) (exN Tb (n + 59)) S27_5 (E27 t s e w h none none (some (.val (.int t))) (some (.val (.int s))) (some (.val (.int e)))) = .ok (.next, F27 t s e w h none) := by
    unfold S27_5 E27
    simp only [evS, exS, okb, stb, seqS, one, stepE_none, stepE_bl, stepE_int, stepE_str, stepE_var, stepE_glb, stepE_tup, stepE_lst, stepE_op1, stepE_op2, stepE_not, stepE_and, stepE_or, stepE_ite, stepE_chain, stepE_slice, stepE_call, evD, evDs, evArgs, optI, truthE, truth, O.tree, O.toD, O.trees, O.toDs, v_add, v_sub, v_le, v_lt, v_ge, v_gt, v_min, v_max, v_eq, v_ne, v_is, v_isnt, v_t20, v_t21, u_lenL, u_lenT2, beq_self_eq_true, decide_true, Nat.reduceAdd, Nat.reduceLT, Nat.zero_add, Bool.and_self, Bool.and_true, Bool.true_and, u_isT, u_int, u_intB, u_abs, u_neg, u_tupL, u_revT, seq?, setO, assignT, assignTs, isTy, List.getElem?_cons_zero, List.getElem?_cons_succ, Option.join_some, List.set_cons_zero, List.set_cons_succ, List.length_cons, List.length_nil, Res.bind, if_true, if_false, Nat.lt_irrefl, Bool.not_true, Bool.not_false, reduceIte, Bool.false_eq_true, toDs_val, trees_val, m1]
  have gi : items (evN Tb (n + 59)) (.range2 (.var 3) (.op2 .add (.var 3) (.var 5))) (F27 t s e w h none) = .ok (rangeD (h / e) (h / e + t), F27 t s e w h none) := by
    refine items_r2w (env1 := F27 t s e w h none) (env2 := F27 t s e w h none) ?_ ?_ (by omega)
    · simp only [evS, exS, okb, stb, seqS, one, stepE_none, stepE_bl, stepE_int, stepE_str, stepE_var, stepE_glb, stepE_tup, stepE_lst, stepE_op1, stepE_op2, stepE_not, stepE_and, stepE_or, stepE_ite, stepE_chain, stepE_slice, stepE_call, evD, evDs, evArgs, optI, truthE, truth, O.tree, O.toD, O.trees, O.toDs, v_add, v_sub, v_le, v_lt, v_ge, v_gt, v_min, v_max, v_eq, v_ne, v_is, v_isnt, v_t20, v_t21, u_lenL, u_lenT2, beq_self_eq_true, decide_true, Nat.reduceAdd, Nat.reduceLT, Nat.zero_add, Bool.and_self, Bool.and_true, Bool.true_and, u_isT, u_int, u_intB, u_abs, u_neg, u_tupL, u_revT, seq?, setO, assignT, assignTs, isTy, List.getElem?_cons_zero, List.getElem?_cons_succ, Option.join_some, List.set_cons_zero, List.set_cons_succ, List.length_cons, List.length_nil, Res.bind, if_true, if_false, Nat.lt_irrefl, Bool.not_true, Bool.not_false, reduceIte, Bool.false_eq_true, toDs_val, trees_val]
    · simp only [evS, exS, okb, stb, seqS, one, stepE_none, stepE_bl, stepE_int, stepE_str, stepE_var, stepE_glb, stepE_tup, stepE_lst, stepE_op1, stepE_op2, stepE_not, stepE_and, stepE_or, stepE_ite, stepE_chain, stepE_slice, stepE_call, evD, evDs, evArgs, optI, truthE, truth, O.tree, O.toD, O.trees, O.toDs, v_add, v_sub, v_le, v_lt, v_ge, v_gt, v_min, v_max, v_eq, v_ne, v_is, v_isnt, v_t20, v_t21, u_lenL, u_lenT2, beq_self_eq_true, decide_true, Nat.reduceAdd, Nat.reduceLT, Nat.zero_add, Bool.and_self, Bool.and_true, Bool.true_and, u_isT, u_int, u_intB, u_abs, u_neg, u_tupL, u_revT, seq?, setO, assignT, assignTs, isTy, List.getElem?_cons_zero, List.getElem?_cons_succ, Option.join_some, List.set_cons_zero, List.set_cons_succ, List.length_cons, List.length_nil, Res.bind, if_true, if_false, Nat.lt_irrefl, Bool.not_true, Bool.not_false, reduceIte, Bool.false_eq_true, toDs_val, trees_val]
  rw [hr] at gi
  have pre : ∀ X, seqS (Ev.one Tb (evN Tb (n + 59)) (exN Tb (n + 59))) [S27_6, S27_7] (F27 t s e w h none) = X → exN Tb (n + 60) f27.body (E27 t s e w h none none none none none) = X := fun X hX =>
    (exS (n := n + 59) _ _).trans (seq_next g1 (seq_next g2 (seq_next g3 (seq_next g4 (seq_next g5 hX)))))
  unfold nxD fst
  cases c : ((List.range t.toNat).map fun (k : Nat) => h / e + (k : Int)).find? (hit t s w) with
  | none =>
    rw [c] at hl
    exact callF_ret (d := f27) (os := [.val (dc t s e), .val (.int w), .val (.int h)]) (e0 := E27 t s e w h none none none none none) rfl rfl rfl (pre _ (seq_next (one_for gi hl) (seq_ret (one_ret (env1 := F27 t s e w h b4) (d := .none) rfl)))) rfl
  | some k =>
    rw [c] at hl
    exact callF_ret (d := f27) (os := [.val (dc t s e), .val (.int w), .val (.int h)]) (e0 := E27 t s e w h none none none none none) rfl rfl rfl (pre _ (seq_ret (one_for gi hl))) rfl
end
end Hd

end
section
set_option autoImplicit false
set_option linter.all false
set_option maxRecDepth 100000
set_option maxHeartbeats 1000000
namespace Hd
open PySem Ev
theorem u_min3 (a b c d e f : Int) : ev1 .min (.list [.tuple [.int a, .int b, .int c], .tuple [.int d, .int e, .int f]]) = some (.val (if d < a ∨ (d = a ∧ (e < b ∨ (e = b ∧ f < c))) then .tuple [.int d, .int e, .int f] else .tuple [.int a, .int b, .int c])) := by
  have h : alikeB [.tuple [.int a, .int b, .int c], .tuple [.int d, .int e, .int f]] = true := by
    simp [alikeB, W.alike, W.alikeAll, PyData.plain, PyData.plainAll, isNone, PyData.depth, PyData.depthAll]
  have e1 : W.dataLt (.tuple [.int d, .int e, .int f]) (.tuple [.int a, .int b, .int c]) = decide (d < a ∨ (d = a ∧ (e < b ∨ (e = b ∧ f < c)))) := by
    refine (W.DatumOrd.lt_eq (α := W.T3 Int Int Int) ⟨d, e, f⟩ ⟨a, b, c⟩).trans ?_
    show (if d = a then (if e = b then decide (f < c) else decide (e < b)) else decide (d < a)) = _
    by_cases h1 : d = a
    · by_cases h2 : e = b
      · simp [h1, h2]
      · simp [h1, h2]
    · simp [h1]
  show (if alikeB [.tuple [.int a, .int b, .int c], .tuple [.int d, .int e, .int f]] = true then some (O.val (W.minD (.tuple [.int a, .int b, .int c]) [.tuple [.int d, .int e, .int f]])) else none) = _
  rw [if_pos h]
  show some (O.val (if W.dataLt (.tuple [.int d, .int e, .int f]) (.tuple [.int a, .int b, .int c]) = true then _ else _)) = _
  rw [e1]
  simp only [decide_eq_true_eq]
abbrev E29 (t s e : Int) (c : Rat) (k : Int) (a3 a4 a5 a6 a7 a8 a9 : Option O) : Ev.Env := [some (.val (dc t s e)), some (.val (fr c)), some (.val (.int k)), a3, a4, a5, a6, a7, a8, a9, none]
abbrev S29_1 : Ev.S := (.expr (.call 11 [(.var 0), (.var 1)]))
abbrev S29_2 : Ev.S := (.expr (.call 2 [(.call 1 [(.var 2), (.int 0), (.glb 4)])]))
abbrev S29_3 : Ev.S := (.asg (.tup [(.nm 5), (.nm 6), (.nm 7)]) (.var 0))
abbrev S29_4 : Ev.S := (.asg (.tup [(.nm 8), (.nm 9)]) (.tup [(.op2 .mul (.var 2) (.op2 .sub (.op2 .mul (.op2 .mul (.var 5) (.var 7)) (.op2 .idx (.var 1) (.int 1))) (.op2 .mul (.op2 .idx (.var 1) (.int 0)) (.var 6)))), (.op2 .mul (.var 7) (.op2 .idx (.var 1) (.int 1)))]))
abbrev S29_5 : Ev.S := (.asg (.nm 3) (.op2 .fdiv (.var 8) (.var 9)))
abbrev S29_6 : Ev.S := (.asg (.nm 4) (.comp (.tup [(.op1 .abs (.op2 .sub (.op2 .mul (.var 10) (.var 9)) (.var 8))), (.op1 .abs (.var 10)), (.var 10)]) (.nm 10) (.seq (.tup [(.var 3), (.op2 .add (.var 3) (.int 1))])) none))
abbrev S29_7 : Ev.S := (.ret (.op2 .idx (.op1 .min (.var 4)) (.int 2)))
/-- how far off, and in what parts -/
abbrev nC (t s e : Int) (c : Rat) (k : Int) : Int := k * (t * e * (c.den : Int) - c.num * s)
abbrev dC (e : Int) (c : Rat) : Int := e * (c.den : Int)
theorem q29 (n : Nat) (t s e : Int) (c : Rat) (k : Int) (a5 a6 a7 : Option O) {lo D0 N0 : Int} (hl : B 200 lo) (hD : B 100 D0) : stepE Tb (evN Tb (n + 20)) (exN Tb (n + 20)) (.comp (.tup [(.op1 .abs (.op2 .sub (.op2 .mul (.var 10) (.var 9)) (.var 8))), (.op1 .abs (.var 10)), (.var 10)]) (.nm 10) (.seq (.tup [(.var 3), (.op2 .add (.var 3) (.int 1))])) none) (E29 t s e c k (some (.val (.int lo))) none a5 a6 a7 (some (.val (.int N0))) (some (.val (.int D0)))) =
    .ok (.lst (([lo, lo + 1].map fun t => PyData.tuple [.int (iab (t * D0 - N0)), .int (iab t), .int t]).map .val), E29 t s e c k (some (.val (.int lo))) none a5 a6 a7 (some (.val (.int N0))) (some (.val (.int D0)))) := by
  refine compM (env1 := E29 t s e c k (some (.val (.int lo))) none a5 a6 a7 (some (.val (.int N0))) (some (.val (.int D0)))) PyData.int [lo, lo + 1] (fun z => (E29 t s e c k (some (.val (.int lo))) none a5 a6 a7 (some (.val (.int N0))) (some (.val (.int D0)))).set 10 (some (.val (.int z)))) (fun t => PyData.tuple [.int (iab (t * D0 - N0)), .int (iab t), .int t]) (items_seqT (env1 := E29 t s e c k (some (.val (.int lo))) none a5 a6 a7 (some (.val (.int N0))) (some (.val (.int D0)))) ?_) (most_ok (show 2 ≤ 1000000 by decide)) rfl (fun p _ => ⟨rfl, rfl⟩) (fun z hz => ?_)
  · simp only [evS, exS, okb, stb, seqS, one, stepE_none, stepE_bl, stepE_int, stepE_str, stepE_var, stepE_glb, stepE_tup, stepE_lst, stepE_op1, stepE_op2, stepE_not, stepE_and, stepE_or, stepE_ite, stepE_chain, stepE_slice, stepE_call, evD, evDs, evArgs, optI, truthE, truth, O.tree, O.toD, O.trees, O.toDs, v_add, v_sub, v_le, v_lt, v_ge, v_gt, v_min, v_max, v_eq, v_ne, v_is, v_isnt, v_t20, v_t21, u_lenL, u_lenT2, beq_self_eq_true, decide_true, Nat.reduceAdd, Nat.reduceLT, Nat.zero_add, Bool.and_self, Bool.and_true, Bool.true_and, u_isT, u_int, u_intB, u_abs, u_neg, u_tupL, u_revT, seq?, setO, assignT, assignTs, isTy, List.getElem?_cons_zero, List.getElem?_cons_succ, Option.join_some, List.set_cons_zero, List.set_cons_succ, List.length_cons, List.length_nil, Res.bind, if_true, if_false, Nat.lt_irrefl, Bool.not_true, Bool.not_false, reduceIte, Bool.false_eq_true, toDs_val, trees_val, mo2, mo2', mo2'']; rfl
  · have hb : B 201 z := by
      rcases List.mem_cons.mp hz with rfl | hz
      · exact hl.mono (by decide)
      · rcases List.mem_cons.mp hz with rfl | hz
        · exact hl.add (B.lit (k := 200) (i := 1) (by decide))
        · cases hz
    have m1 := vM hb hD
    simp only [evS, exS, okb, stb, seqS, one, stepE_none, stepE_bl, stepE_int, stepE_str, stepE_var, stepE_glb, stepE_tup, stepE_lst, stepE_op1, stepE_op2, stepE_not, stepE_and, stepE_or, stepE_ite, stepE_chain, stepE_slice, stepE_call, evD, evDs, evArgs, optI, truthE, truth, O.tree, O.toD, O.trees, O.toDs, v_add, v_sub, v_le, v_lt, v_ge, v_gt, v_min, v_max, v_eq, v_ne, v_is, v_isnt, v_t20, v_t21, u_lenL, u_lenT2, beq_self_eq_true, decide_true, Nat.reduceAdd, Nat.reduceLT, Nat.zero_add, Bool.and_self, Bool.and_true, Bool.true_and, u_isT, u_int, u_intB, u_abs, u_neg, u_tupL, u_revT, seq?, setO, assignT, assignTs, isTy, List.getElem?_cons_zero, List.getElem?_cons_succ, Option.join_some, List.set_cons_zero, List.set_cons_succ, List.length_cons, List.length_nil, Res.bind, if_true, if_false, Nat.lt_irrefl, Bool.not_true, Bool.not_false, reduceIte, Bool.false_eq_true, toDs_val, trees_val, m1, mo3, mo3', mo2, mo2', mo2'', show (1 + 1 + 1 ≤ most) = True from eq_true (by decide)]
    rfl
theorem idx_bst (N0 D0 : Int) : ev2 .idx (if iab ((N0 / D0 + 1) * D0 - N0) < iab (N0 / D0 * D0 - N0) ∨ (iab ((N0 / D0 + 1) * D0 - N0) = iab (N0 / D0 * D0 - N0) ∧ (iab (N0 / D0 + 1) < iab (N0 / D0) ∨ (iab (N0 / D0 + 1) = iab (N0 / D0) ∧ N0 / D0 + 1 < N0 / D0))) then .tuple [.int (iab ((N0 / D0 + 1) * D0 - N0)), .int (iab (N0 / D0 + 1)), .int (N0 / D0 + 1)] else .tuple [.int (iab (N0 / D0 * D0 - N0)), .int (iab (N0 / D0)), .int (N0 / D0)]) (.int 2) = some (.val (.int (bst N0 D0))) := by
  unfold bst
  by_cases h1 : iab ((N0 / D0 + 1) * D0 - N0) < iab (N0 / D0 * D0 - N0) ∨ (iab ((N0 / D0 + 1) * D0 - N0) = iab (N0 / D0 * D0 - N0) ∧ iab (N0 / D0 + 1) < iab (N0 / D0))
  · rw [if_pos h1, if_pos (h1.imp id fun ⟨a, b⟩ => ⟨a, .inl b⟩)]; rfl
  · rw [if_neg h1, if_neg (fun w => h1 (w.imp id fun ⟨a, b⟩ => ⟨a, b.elim id fun c => by omega⟩))]; rfl
section
variable {t s e : Int} (d : Dc t s e) {c : Rat} (h : Tr c)
include d h
theorem r29 (n : Nat) {k : Int} (k0 : 0 ≤ k) (k1 : k ≤ 1000) : Ret Tb (n + 90) 29 [.val (dc t s e), .val (fr c), .val (.int k)] (.val (.int (bst (nC t s e c k) (dC e c)))) := by
  have := d.e0
  have k11 := fun m' env => call2 (T := Tb) (n := m' + 70) env (r11 d h m')
  have kk := fun m' env => call3 (T := Tb) (n := m' + 9) env (r1 m' (lo := 0) (hi := 1000) k0 k1)
  have k2 := fun m' env => call1 (T := Tb) (n := m' + 5) env (r2 m')
  have bk : B 10 k := by unfold B; omega
  have m1 := vM d.bt d.be
  have m2 := vM d.bte h.b.d
  have m3 := vM h.b.n d.bs
  have b4 : B 81 (t * e * (c.den : Int) - c.num * s) := ((d.bte.mul h.b.d).sub ((h.b.n.mul d.bs).mono (by decide)))
  have m4 := vM bk b4
  have m5 := vM d.be h.b.d
  have hD : 0 < dC e c := Int.mul_pos (by omega) (dpos c)
  have bD : B 70 (dC e c) := d.be.mul h.b.d
  have bN : B 91 (nC t s e c k) := bk.mul b4
  have m6 := v_fdiv (a := nC t s e c k) hD (bD.smD (by decide))
  have bl : B 91 (nC t s e c k / dC e c) := by
    unfold B at *
    exact Nat.lt_of_le_of_lt (Int.natAbs_ediv_le_natAbs _ _) bN
  have kq := fun m a5 a6 a7 => q29 m t s e c k a5 a6 a7 (lo := nC t s e c k / dC e c) (D0 := dC e c) (N0 := nC t s e c k) (bl.mono (by decide)) (bD.mono (by decide))
  have km := u_min3 (iab (nC t s e c k / dC e c * dC e c - nC t s e c k)) (iab (nC t s e c k / dC e c)) (nC t s e c k / dC e c) (iab ((nC t s e c k / dC e c + 1) * dC e c - nC t s e c k)) (iab (nC t s e c k / dC e c + 1)) (nC t s e c k / dC e c + 1)
  have ki := idx_bst (nC t s e c k) (dC e c)
  have g1 : Ev.one Tb (evN Tb (n + 89)) (exN Tb (n + 89)) S29_1 (E29 t s e c k none none none none none none none) = .ok (.next, E29 t s e c k none none none none none none none) := by
    unfold S29_1 E29
    simp only [evS, exS, okb, stb, seqS, one, stepE_none, stepE_bl, stepE_int, stepE_str, stepE_var, stepE_glb, stepE_tup, stepE_lst, stepE_op1, stepE_op2, stepE_not, stepE_and, stepE_or, stepE_ite, stepE_chain, stepE_slice, stepE_call, evD, evDs, evArgs, optI, truthE, truth, O.tree, O.toD, O.trees, O.toDs, v_add, v_sub, v_le, v_lt, v_ge, v_gt, v_min, v_max, v_eq, v_ne, v_is, v_isnt, v_t20, v_t21, u_lenL, u_lenT2, beq_self_eq_true, decide_true, Nat.reduceAdd, Nat.reduceLT, Nat.zero_add, Bool.and_self, Bool.and_true, Bool.true_and, u_isT, u_int, u_intB, u_abs, u_neg, u_tupL, u_revT, seq?, setO, assignT, assignTs, isTy, List.getElem?_cons_zero, List.getElem?_cons_succ, Option.join_some, List.set_cons_zero, List.set_cons_succ, List.length_cons, List.length_nil, Res.bind, if_true, if_false, Nat.lt_irrefl, Bool.not_true, Bool.not_false, reduceIte, Bool.false_eq_true, toDs_val, trees_val, k11]
  have g2 : Ev.one Tb (evN Tb (n + 89)) (exN Tb (n + 89)) S29_2 (E29 t s e c k none none none none none none none) = .ok (.next, E29 t s e c k none none none none none none none) := by
    unfold S29_2 E29
    simp only [evS, exS, okb, stb, seqS, one, stepE_none, stepE_bl, stepE_int, stepE_str, stepE_var, stepE_glb, stepE_tup, stepE_lst, stepE_op1, stepE_op2, stepE_not, stepE_and, stepE_or, stepE_ite, stepE_chain, stepE_slice, stepE_call, evD, evDs, evArgs, optI, truthE, truth, O.tree, O.toD, O.trees, O.toDs, v_add, v_sub, v_le, v_lt, v_ge, v_gt, v_min, v_max, v_eq, v_ne, v_is, v_isnt, v_t20, v_t21, u_lenL, u_lenT2, beq_self_eq_true, decide_true, Nat.reduceAdd, Nat.reduceLT, Nat.zero_add, Bool.and_self, Bool.and_true, Bool.true_and, u_isT, u_int, u_intB, u_abs, u_neg, u_tupL, u_revT, seq?, setO, assignT, assignTs, isTy, List.getElem?_cons_zero, List.getElem?_cons_succ, Option.join_some, List.set_cons_zero, List.set_cons_succ, List.length_cons, List.length_nil, Res.bind, if_true, if_false, Nat.lt_irrefl, Bool.not_true, Bool.not_false, reduceIte, Bool.false_eq_true, toDs_val, trees_val, kk, k2, show Tb.cs[4]? = some (.int 1000) from rfl]
  have g3 : Ev.one Tb (evN Tb (n + 89)) (exN Tb (n + 89)) S29_3 (E29 t s e c k none none none none none none none) = .ok (.next, E29 t s e c k none none (some (.val (.int t))) (some (.val (.int s))) (some (.val (.int e))) none none) := by
    unfold S29_3 E29
    simp only [evS, exS, okb, stb, seqS, one, stepE_none, stepE_bl, stepE_int, stepE_str, stepE_var, stepE_glb, stepE_tup, stepE_lst, stepE_op1, stepE_op2, stepE_not, stepE_and, stepE_or, stepE_ite, stepE_chain, stepE_slice, stepE_call, evD, evDs, evArgs, optI, truthE, truth, O.tree, O.toD, O.trees, O.toDs, v_add, v_sub, v_le, v_lt, v_ge, v_gt, v_min, v_max, v_eq, v_ne, v_is, v_isnt, v_t20, v_t21, u_lenL, u_lenT2, beq_self_eq_true, decide_true, Nat.reduceAdd, Nat.reduceLT, Nat.zero_add, Bool.and_self, Bool.and_true, Bool.true_and, u_isT, u_int, u_intB, u_abs, u_neg, u_tupL, u_revT, seq?, setO, assignT, assignTs, isTy, List.getElem?_cons_zero, List.getElem?_cons_succ, Option.join_some, List.set_cons_zero, List.set_cons_succ, List.length_cons, List.length_nil, Res.bind, if_true, if_false, Nat.lt_irrefl, Bool.not_true, Bool.not_false, reduceIte, Bool.false_eq_true, toDs_val, trees_val]
  have g4 : Ev.one Tb (evN Tb (n + 89)) (exN Tb (n + 89)) S29_4 (E29 t s e c k none none (some (.val (.int t))) (some (.val (.int s))) (some (.val (.int e))) none none) = .ok (.next, E29 t s e c k none none (some (.val (.int t))) (some (.val (.int s))) (some (.val (.int e))) (some (.val (.int (nC t s e c k)))) (some (.val (.int (dC e c))))) := by
    unfold S29_4 E29 nC dC
    simp only [evS, exS, okb, stb, seqS, one, stepE_none, stepE_bl, stepE_int, stepE_str, stepE_var, stepE_glb, stepE_tup, stepE_lst, stepE_op1, stepE_op2, stepE_not, stepE_and, stepE_or, stepE_ite, stepE_chain, stepE_slice, stepE_call, evD, evDs, evArgs, optI, truthE, truth, O.tree, O.toD, O.trees, O.toDs, v_add, v_sub, v_le, v_lt, v_ge, v_gt, v_min, v_max, v_eq, v_ne, v_is, v_isnt, v_t20, v_t21, u_lenL, u_lenT2, beq_self_eq_true, decide_true, Nat.reduceAdd, Nat.reduceLT, Nat.zero_add, Bool.and_self, Bool.and_true, Bool.true_and, u_isT, u_int, u_intB, u_abs, u_neg, u_tupL, u_revT, seq?, setO, assignT, assignTs, isTy, List.getElem?_cons_zero, List.getElem?_cons_succ, Option.join_some, List.set_cons_zero, List.set_cons_succ, List.length_cons, List.length_nil, Res.bind, if_true, if_false, Nat.lt_irrefl, Bool.not_true, Bool.not_false, reduceIte, Bool.false_eq_true, toDs_val, trees_val, m1, m2, m3, m4, m5, mo2, mo2', mo2'']
  generalize nC t s e c k = N0 at *
  generalize dC e c = D0 at *
  have g5 : Ev.one Tb (evN Tb (n + 89)) (exN Tb (n + 89)) S29_5 (E29 t s e c k none none (some (.val (.int t))) (some (.val (.int s))) (some (.val (.int e))) (some (.val (.int N0))) (some (.val (.int D0)))) = .ok (.next, E29 t s e c k (some (.val (.int (N0 / D0)))) none (some (.val (.int t))) (some (.val (.int s))) (some (.val (.int e))) (some (.val (.int N0))) (some (.val (.int D0)))) := by
    unfold S29_5 E29
    simp only [evS, exS, okb, stb, seqS, one, stepE_none, stepE_bl, stepE_int, stepE_str, stepE_var, stepE_glb, stepE_tup, stepE_lst, stepE_op1, stepE_op2, stepE_not, stepE_and, stepE_or, stepE_ite, stepE_chain, stepE_slice, stepE_call, evD, evDs, evArgs, optI, truthE, truth, O.tree, O.toD, O.trees, O.toDs, v_add, v_sub, v_le, v_lt, v_ge, v_gt, v_min, v_max, v_eq, v_ne, v_is, v_isnt, v_t20, v_t21, u_lenL, u_lenT2, beq_self_eq_true, decide_true, Nat.reduceAdd, Nat.reduceLT, Nat.zero_add, Bool.and_self, Bool.and_true, Bool.true_and, u_isT, u_int, u_intB, u_abs, u_neg, u_tupL, u_revT, seq?, setO, assignT, assignTs, isTy, List.getElem?_cons_zero, List.getElem?_cons_succ, Option.join_some, List.set_cons_zero, List.set_cons_succ, List.length_cons, List.length_nil, Res.bind, if_true, if_false, Nat.lt_irrefl, Bool.not_true, Bool.not_false, reduceIte, Bool.false_eq_true, toDs_val, trees_val, m6]
  have g6 : Ev.one Tb (evN Tb (n + 89)) (exN Tb (n + 89)) S29_6 (E29 t s e c k (some (.val (.int (N0 / D0)))) none (some (.val (.int t))) (some (.val (.int s))) (some (.val (.int e))) (some (.val (.int N0))) (some (.val (.int D0)))) = .ok (.next, E29 t s e c k (some (.val (.int (N0 / D0)))) (some (.val (.list ([N0 / D0, N0 / D0 + 1].map fun t => PyData.tuple [.int (iab (t * D0 - N0)), .int (iab t), .int t])))) (some (.val (.int t))) (some (.val (.int s))) (some (.val (.int e))) (some (.val (.int N0))) (some (.val (.int D0)))) :=
    one_asg (i := 4) (env1 := E29 t s e c k (some (.val (.int (N0 / D0)))) none (some (.val (.int t))) (some (.val (.int s))) (some (.val (.int e))) (some (.val (.int N0))) (some (.val (.int D0)))) (evD_lst ((evS (n := n + 88) _ _).trans (kq (n + 68) _ _ _))) (show 4 < 11 by decide)
  have g7 : Ev.one Tb (evN Tb (n + 89)) (exN Tb (n + 89)) S29_7 (E29 t s e c k (some (.val (.int (N0 / D0)))) (some (.val (.list ([N0 / D0, N0 / D0 + 1].map fun t => PyData.tuple [.int (iab (t * D0 - N0)), .int (iab t), .int t])))) (some (.val (.int t))) (some (.val (.int s))) (some (.val (.int e))) (some (.val (.int N0))) (some (.val (.int D0)))) = .ok (.ret (.val (.int (bst N0 D0))), E29 t s e c k (some (.val (.int (N0 / D0)))) (some (.val (.list ([N0 / D0, N0 / D0 + 1].map fun t => PyData.tuple [.int (iab (t * D0 - N0)), .int (iab t), .int t])))) (some (.val (.int t))) (some (.val (.int s))) (some (.val (.int e))) (some (.val (.int N0))) (some (.val (.int D0)))) := by
    unfold S29_7 E29
    simp only [evS, exS, okb, stb, seqS, one, stepE_none, stepE_bl, stepE_int, stepE_str, stepE_var, stepE_glb, stepE_tup, stepE_lst, stepE_op2, stepE_not, stepE_and, stepE_or, stepE_ite, stepE_chain, stepE_slice, stepE_call, evD, evDs, evArgs, optI, truthE, truth, O.tree, O.toD, O.trees, O.toDs, v_add, v_sub, v_le, v_lt, v_ge, v_gt, v_min, v_max, v_eq, v_ne, v_is, v_isnt, v_t20, v_t21, u_lenL, u_lenT2, beq_self_eq_true, decide_true, Nat.reduceAdd, Nat.reduceLT, Nat.zero_add, Bool.and_self, Bool.and_true, Bool.true_and, u_isT, u_int, u_intB, u_abs, u_neg, u_tupL, u_revT, seq?, setO, assignT, assignTs, isTy, List.getElem?_cons_zero, List.getElem?_cons_succ, Option.join_some, List.set_cons_zero, List.set_cons_succ, List.length_cons, List.length_nil, Res.bind, if_true, if_false, Nat.lt_irrefl, Bool.not_true, Bool.not_false, reduceIte, Bool.false_eq_true, toDs_val, trees_val, stepE_op1, List.map_cons, List.map_nil, km, ki]
  exact ⟨_, callF_ret (d := f29) (os := [.val (dc t s e), .val (fr c), .val (.int k)]) (e0 := E29 t s e c k none none none none none none none) rfl rfl rfl ((exS (n := n + 89) _ _).trans (seq_next g1 (seq_next g2 (seq_next g3 (seq_next g4 (seq_next g5 (seq_next g6 (seq_ret g7)))))))) rfl⟩
end
theorem q33 (k : Nat) (q : Rat) : stepE Tb (evN Tb (k + 20)) (exN Tb (k + 20)) (.comp (.call 0 [(.var 1)]) (.nm 1) (.seq (.var 0)) none) [some (.val (fr q)), none] = .ok (.lst (([q.num, (q.den : Int)].map fun x => PyData.bool true).map .val), [some (.val (fr q)), none]) := by
  refine compM (env1 := [some (.val (fr q)), none]) PyData.int [q.num, (q.den : Int)] (fun x => [some (.val (fr q)), some (.val (.int x))]) (fun x => .bool true) (items_seqT (env1 := [some (.val (fr q)), none]) ?_) (most_ok (show 2 ≤ 1000000 by decide)) rfl (fun p _ => ⟨rfl, rfl⟩) (fun x hx => ?_)
  · simp only [evS, exS, okb, stb, seqS, one, stepE_none, stepE_bl, stepE_int, stepE_str, stepE_var, stepE_glb, stepE_tup, stepE_lst, stepE_op1, stepE_op2, stepE_not, stepE_and, stepE_or, stepE_ite, stepE_chain, stepE_slice, stepE_call, evD, evDs, evArgs, optI, truthE, truth, O.tree, O.toD, O.trees, O.toDs, v_add, v_sub, v_le, v_lt, v_ge, v_gt, v_min, v_max, v_eq, v_ne, v_is, v_isnt, v_t20, v_t21, u_lenL, u_lenT2, beq_self_eq_true, decide_true, Nat.reduceAdd, Nat.reduceLT, Nat.zero_add, Bool.and_self, Bool.and_true, Bool.true_and, u_isT, u_int, u_intB, u_abs, u_neg, u_tupL, u_revT, seq?, setO, assignT, assignTs, isTy, List.getElem?_cons_zero, List.getElem?_cons_succ, Option.join_some, List.set_cons_zero, List.set_cons_succ, List.length_cons, List.length_nil, Res.bind, if_true, if_false, Nat.lt_irrefl, Bool.not_true, Bool.not_false, reduceIte, Bool.false_eq_true, toDs_val, trees_val]; rfl
  · have k0 := fun m' env => call1 (T := Tb) (n := m' + 5) env (r0 m' x)
    simp only [evS, exS, okb, stb, seqS, one, stepE_none, stepE_bl, stepE_int, stepE_str, stepE_var, stepE_glb, stepE_tup, stepE_lst, stepE_op1, stepE_op2, stepE_not, stepE_and, stepE_or, stepE_ite, stepE_chain, stepE_slice, stepE_call, evD, evDs, evArgs, optI, truthE, truth, O.tree, O.toD, O.trees, O.toDs, v_add, v_sub, v_le, v_lt, v_ge, v_gt, v_min, v_max, v_eq, v_ne, v_is, v_isnt, v_t20, v_t21, u_lenL, u_lenT2, beq_self_eq_true, decide_true, Nat.reduceAdd, Nat.reduceLT, Nat.zero_add, Bool.and_self, Bool.and_true, Bool.true_and, u_isT, u_int, u_intB, u_abs, u_neg, u_tupL, u_revT, seq?, setO, assignT, assignTs, isTy, List.getElem?_cons_zero, List.getElem?_cons_succ, Option.join_some, List.set_cons_zero, List.set_cons_succ, List.length_cons, List.length_nil, Res.bind, if_true, if_false, Nat.lt_irrefl, Bool.not_true, Bool.not_false, reduceIte, Bool.false_eq_true, toDs_val, trees_val, k0]
theorem r33 (n : Nat) {q : Rat} (b : Bq 300 q) : Ret Tb (n + 60) 33 [.val (fr q)] (.val (.bool true)) := by
  have kq := fun k => q33 k q
  simp only [List.map_cons, List.map_nil] at kq
  have k5 := fun m' env => call2 (T := Tb) (n := m' + 40) env (r5 m' (x := q.num) (dpos q) (b.d.mono (by decide)))
  rw [self_div] at k5
  have e1 : ev1 .all (.list [.bool true, .bool true]) = some (.val (.bool true)) := rfl
  have e2 : decide (0 < (q.den : Int)) = true := decide_eq_true (dpos q)
  refine ⟨?_, ?_⟩
  rotate_left
  · simp only [callF, List.replicate, Nat.sub_self, List.append_nil, List.map_cons, List.map_nil, show Tb.fs[33]? = some f33 from rfl, f33, evS, exS, okb, stb, seqS, one, stepE_none, stepE_bl, stepE_int, stepE_str, stepE_var, stepE_glb, stepE_tup, stepE_lst, stepE_op1, stepE_op2, stepE_not, stepE_and, stepE_or, stepE_ite, stepE_chain, stepE_slice, stepE_call, evD, evDs, evArgs, optI, truthE, truth, O.tree, O.toD, O.trees, O.toDs, v_add, v_sub, v_le, v_lt, v_ge, v_gt, v_min, v_max, v_eq, v_ne, v_is, v_isnt, v_t20, v_t21, u_lenL, u_lenT2, beq_self_eq_true, decide_true, Nat.reduceAdd, Nat.reduceLT, Nat.zero_add, Bool.and_self, Bool.and_true, Bool.true_and, u_isT, u_int, u_intB, u_abs, u_neg, u_tupL, u_revT, seq?, setO, assignT, assignTs, isTy, List.getElem?_cons_zero, List.getElem?_cons_succ, Option.join_some, List.set_cons_zero, List.set_cons_succ, List.length_cons, List.length_nil, Res.bind, if_true, if_false, Nat.lt_irrefl, Bool.not_true, Bool.not_false, reduceIte, Bool.false_eq_true, toDs_val, trees_val, kq, k5, e1, e2, v_eqP, decide_true, show 2 - 1 = 1 from rfl, List.cons_append, List.nil_append]
    rfl
theorem takeI (t s e : Int) (s0 : 0 < s) (c : Rat) : ((t * e * (c.den : Int) - c.num * s : Int) : Rat) / ((s * (c.den : Int) : Int) : Rat) = rnd t s e - c := by
  refine divq (Int.mul_pos s0 (dpos c)) ?_
  have h1 := num_den c
  have h3 : ((t * e : Int) : Rat) / (s : Rat) * (s : Rat) = ((t * e : Int) : Rat) := Rat.div_mul_cancel (pos_cast s0)
  unfold rnd
  rw [Rat.intCast_sub, Rat.intCast_mul, Rat.intCast_mul, Rat.intCast_mul, ← h1]
  grind
section
variable {t s e : Int} (d : Dc t s e) {c : Rat} (h : Tr c)
include d h
theorem r34 (n : Nat) : Ret Tb (n + 80) 34 [.val (dc t s e), .val (fr c), .val (.int (dft t s e c).num), .val (.int ((dft t s e c).den : Int))] (.val (.bool true)) := by
  have := d.s0
  have k1 := fun m' env => call3 (T := Tb) (n := m' + 9) env (r1 m' (lo := 2) (hi := 400) d.t0 d.t1)
  have k1' := fun m' env => call3 (T := Tb) (n := m' + 9) env (r1 m' (lo := 1) (hi := 48) d.e0 d.e1)
  have k1'' := fun m' env => call3 (T := Tb) (n := m' + 9) env (r1 m' (lo := 1) (hi := t) d.s0 d.s1)
  have k2 := fun m' env => call1 (T := Tb) (n := m' + 5) env (r2 m')
  have k33 := fun m' env => call1 (T := Tb) (n := m' + 60) env (r33 m' (q := c) (h.b.mono (by decide)))
  have m1 := vM d.bt d.be
  have m2 := vM d.bte h.b.d
  have m3 := vM h.b.n d.bs
  have m4 := vM d.bs h.b.d
  have m5 := vM (x := 10000) (B.lit (k := 20) (by decide)) h.b.d
  have k5 := fun m' env => call2 (T := Tb) (n := m' + 40) env (r5 m' (x := t * e * (c.den : Int) - c.num * s) (y := s * (c.den : Int)) (Int.mul_pos (by omega) (dpos c)) ((d.bs.mul h.b.d).mono (by decide)))
  rw [takeI t s e (by omega) c] at k5
  have e1 := v_eqR (dft t s e c) (dft t s e c)
  rw [decide_eq_true (rfl : dft t s e c = dft t s e c)] at e1
  have c1 : decide ((c.den : Int) ≤ c.num) = true := decide_eq_true h.lo
  have c2 : decide (c.num ≤ 10000 * (c.den : Int)) = true := decide_eq_true h.hi
  refine ⟨?_, ?_⟩
  rotate_left
  · simp only [callF, List.replicate, Nat.sub_self, List.append_nil, List.map_cons, List.map_nil, show Tb.fs[34]? = some f34 from rfl, f34, evS, exS, okb, stb, seqS, one, stepE_none, stepE_bl, stepE_int, stepE_str, stepE_var, stepE_glb, stepE_tup, stepE_lst, stepE_op1, stepE_op2, stepE_not, stepE_and, stepE_or, stepE_ite, stepE_chain, stepE_slice, stepE_call, evD, evDs, evArgs, optI, truthE, truth, O.tree, O.toD, O.trees, O.toDs, v_add, v_sub, v_le, v_lt, v_ge, v_gt, v_min, v_max, v_eq, v_ne, v_is, v_isnt, v_t20, v_t21, u_lenL, u_lenT2, beq_self_eq_true, decide_true, Nat.reduceAdd, Nat.reduceLT, Nat.zero_add, Bool.and_self, Bool.and_true, Bool.true_and, u_isT, u_int, u_intB, u_abs, u_neg, u_tupL, u_revT, seq?, setO, assignT, assignTs, isTy, List.getElem?_cons_zero, List.getElem?_cons_succ, Option.join_some, List.set_cons_zero, List.set_cons_succ, List.length_cons, List.length_nil, Res.bind, if_true, if_false, Nat.lt_irrefl, Bool.not_true, Bool.not_false, reduceIte, Bool.false_eq_true, toDs_val, trees_val, k1, k1', k1'', k2, k33, m1, m2, m3, m4, m5, k5, e1, c1, c2, t30, t31, t32, u_lenT3, mo2, mo2', mo2'', show 7 - 4 = 3 from rfl, List.cons_append, List.nil_append]
    rfl
end
end Hd

end
section
set_option autoImplicit false
set_option linter.all false
set_option maxRecDepth 100000
set_option maxHeartbeats 1000000
namespace Hd
open PySem Ev
/-- kept within the teeth -/
def clm (t x : Int) : Int := if (if x < t then x else t) > 1 then (if x < t then x else t) else 1
theorem clm_in {t : Int} (h : 1 ≤ t) (x : Int) : 1 ≤ clm t x ∧ clm t x ≤ t := by unfold clm; split <;> split <;> omega
theorem clm_le {t : Int} {x y : Int} (h : x ≤ y) : clm t x ≤ clm t y := by unfold clm; grind
/-- the step that would be right -/
def nr (c : Rat) (e t : Int) : Int := t * e * (c.den : Int) / c.num
abbrev W (c : Rat) (e : Int) (p : Int × Int) : Rat := ab (dft p.1 p.2 e c)
def bsS (c : Rat) (e t : Int) : Int := if W c e (t, clm t (nr c e t + 1)) < W c e (t, clm t (nr c e t)) then clm t (nr c e t + 1) else clm t (nr c e t)
theorem sort2 {a b : Int} (h : a ≤ b) : sortI [a, b] = if a = b then [a] else [a, b] := by
  show insI a [b] = _
  unfold insI
  by_cases c : a = b
  · rw [if_neg (by omega), if_pos c, if_pos c, c]
  · rw [if_pos (by omega), if_neg c]
abbrev S19_1 : Ev.S := (.asg (.nm 3) (.op2 .fdiv (.op2 .mul (.op2 .mul (.var 2) (.var 1)) (.op2 .idx (.var 0) (.int 1))) (.op2 .idx (.var 0) (.int 0))))
abbrev S19_2 : Ev.S := (.asg (.nm 4) (.sortedKeys (.op2 .max2 (.int 1) (.op2 .min2 (.var 2) (.var 6))) (.nm 6) (.seq (.tup [(.var 3), (.op2 .add (.var 3) (.int 1))])) none))
abbrev S19_3 : Ev.S := (.asg (.nm 5) (.tup [(.var 2), (.op2 .idx (.var 4) (.int 0)), (.var 1)]))
abbrev S19_4 : Ev.S := (.forS (.nm 6) (.seq (.slice (.var 4) (some (.int 1)) none)) [(.ifS (.call 18 [(.call 17 [(.tup [(.var 2), (.var 6), (.var 1)]), (.var 0)]), (.call 17 [(.var 5), (.var 0)])]) [(.asg (.nm 5) (.tup [(.var 2), (.var 6), (.var 1)]))] [])])
abbrev S19_5 : Ev.S := (.ret (.var 5))
abbrev S21_1 : Ev.S := (.asgO 3 (.lst []))
abbrev S21_2 : Ev.S := (.forS (.nm 4) (.range2 (.glb 0) (.op2 .add (.var 2) (.int 1))) [(.asg (.nm 5) (.call 19 [(.var 0), (.var 1), (.var 4)])), (.ifS (.snap (.or (.op2 .eq (.op1 .len (.var 3)) (.int 0)) (.call 18 [(.call 17 [(.var 5), (.var 0)]), (.call 17 [(.op2 .idx (.var 3) (.op1 .neg (.int 1))), (.var 0)])]))) [(.app 3 (.var 5))] [])])
abbrev S21_3 : Ev.S := (.retO (.move 3))
abbrev E19 (c : Rat) (e t : Int) (a3 a4 a5 a6 : Option O) : Ev.Env := [some (.val (fr c)), some (.val (.int e)), some (.val (.int t)), a3, a4, a5, a6]
section
variable {c : Rat} (h : Tr c) {e : Int} (e0 : 1 ≤ e) (e1 : e ≤ 48)
include h e0 e1
theorem W_B {t s : Int} (d : Dc t s e) : Bq 81 (W c e (t, s)) := (d.bd h).ab
theorem r19 (n : Nat) {t : Int} (t0 : 2 ≤ t) (t1 : t ≤ 400) : Ret Tb (n + 110) 19 [.val (fr c), .val (.int e), .val (.int t)] (.val (dc t (bsS c e t) e)) := by
  have cp : 0 < c.num := by have := h.lo; have := dpos c; omega
  have da : ∀ x, Dc t (clm t x) e := fun x => ⟨t0, t1, (clm_in (by omega) x).1, (clm_in (by omega) x).2, e0, e1⟩
  have bt : B 10 t := (da 0).bt
  have be : B 10 e := (da 0).be
  have bte := (da 0).bte
  have m1 := vM bt be
  have m2 := vM bte h.b.d
  have m3 := v_fdiv (a := t * e * (c.den : Int)) (b := c.num) cp (h.b.n.smD (by decide))
  have k17 := fun x => fun m' env => call2 (T := Tb) (n := m' + 80) env (r17 (da x) h m')
  have hw := fun x => W_B h e0 e1 (da x)
  have k18 := fun x y => fun m' env => call2 (T := Tb) (n := m' + 9) env (r18 m' (p := W c e (t, clm t x)) (q := W c e (t, clm t y)) ((hw x).mono (by decide)) ((hw y).mono (by decide)))
  unfold W at k18
  dsimp only at k18
  have key : bsS c e t = if ab (dft t (clm t (nr c e t + 1)) e c) < ab (dft t (clm t (nr c e t)) e c) then clm t (nr c e t + 1) else clm t (nr c e t) := rfl
  have hle : clm t (nr c e t) ≤ clm t (nr c e t + 1) := clm_le (by omega)
  rw [show t * e * (c.den : Int) / c.num = nr c e t from rfl] at m3
  generalize nr c e t = N at *
  have g1 : Ev.one Tb (evN Tb (n + 109)) (exN Tb (n + 109)) S19_1 (E19 c e t none none none none) = .ok (.next, E19 c e t (some (.val (.int N))) none none none) := by
    unfold S19_1 E19
    simp only [evS, exS, okb, stb, seqS, one, stepE_none, stepE_bl, stepE_int, stepE_str, stepE_var, stepE_glb, stepE_tup, stepE_lst, stepE_op1, stepE_op2, stepE_not, stepE_and, stepE_or, stepE_ite, stepE_chain, stepE_slice, stepE_call, evD, evDs, evArgs, optI, truthE, truth, O.tree, O.toD, O.trees, O.toDs, v_add, v_sub, v_le, v_lt, v_ge, v_gt, v_min, v_max, v_eq, v_ne, v_is, v_isnt, v_t20, v_t21, u_lenL, u_lenT2, beq_self_eq_true, decide_true, Nat.reduceAdd, Nat.reduceLT, Nat.zero_add, Bool.and_self, Bool.and_true, Bool.true_and, u_isT, u_int, u_intB, u_abs, u_neg, u_tupL, u_revT, seq?, setO, assignT, assignTs, isTy, List.getElem?_cons_zero, List.getElem?_cons_succ, Option.join_some, List.set_cons_zero, List.set_cons_succ, List.length_cons, List.length_nil, Res.bind, if_true, if_false, Nat.lt_irrefl, Bool.not_true, Bool.not_false, reduceIte, Bool.false_eq_true, toDs_val, trees_val, m1, m2, m3]
  have g2 : Ev.one Tb (evN Tb (n + 109)) (exN Tb (n + 109)) S19_2 (E19 c e t (some (.val (.int N))) none none none) = .ok (.next, E19 c e t (some (.val (.int N))) (some (.val (.list ((sortI [clm t N, clm t (N + 1)]).map .int)))) none none) := by
    refine one_asg (i := 4) (env1 := E19 c e t (some (.val (.int N))) none none none) (evD_lst ((evS (n := n + 108) _ _).trans ?_)) (show 4 < 7 by decide)
    refine (keys_pure (env1 := E19 c e t (some (.val (.int N))) none none none) (ds := [.int N, .int (N + 1)]) (fun _ => true) (fun d => match d with | .int x => clm t x | _ => 0) (items_seqT (env1 := E19 c e t (some (.val (.int N))) none none none) ?_) (most_ok (show 2 ≤ 1000000 by decide)) rfl (fun d hd => ?_)).trans ?_
    · rw [show n + 108 = n + 100 + 8 from rfl]
      simp only [evS, exS, okb, stb, seqS, one, stepE_none, stepE_bl, stepE_int, stepE_str, stepE_var, stepE_glb, stepE_tup, stepE_lst, stepE_op1, stepE_op2, stepE_not, stepE_and, stepE_or, stepE_ite, stepE_chain, stepE_slice, stepE_call, evD, evDs, evArgs, optI, truthE, truth, O.tree, O.toD, O.trees, O.toDs, v_add, v_sub, v_le, v_lt, v_ge, v_gt, v_min, v_max, v_eq, v_ne, v_is, v_isnt, v_t20, v_t21, u_lenL, u_lenT2, beq_self_eq_true, decide_true, Nat.reduceAdd, Nat.reduceLT, Nat.zero_add, Bool.and_self, Bool.and_true, Bool.true_and, u_isT, u_int, u_intB, u_abs, u_neg, u_tupL, u_revT, seq?, setO, assignT, assignTs, isTy, List.getElem?_cons_zero, List.getElem?_cons_succ, Option.join_some, List.set_cons_zero, List.set_cons_succ, List.length_cons, List.length_nil, Res.bind, if_true, if_false, Nat.lt_irrefl, Bool.not_true, Bool.not_false, reduceIte, Bool.false_eq_true, toDs_val, trees_val, mo2, mo2', mo2'']
    · have : ∃ x, d = .int x := by
        rcases List.mem_cons.mp hd with rfl | hd
        · exact ⟨_, rfl⟩
        · rcases List.mem_cons.mp hd with rfl | hd
          · exact ⟨_, rfl⟩
          · cases hd
      obtain ⟨x, rfl⟩ := this
      refine ⟨E19 c e t (some (.val (.int N))) none none (some (.val (.int x))), rfl, rfl, rfl, fun _ => ?_⟩
      rw [show n + 108 = n + 100 + 8 from rfl]
      simp only [evS, exS, okb, stb, seqS, one, stepE_none, stepE_bl, stepE_int, stepE_str, stepE_var, stepE_glb, stepE_tup, stepE_lst, stepE_op1, stepE_op2, stepE_not, stepE_and, stepE_or, stepE_ite, stepE_chain, stepE_slice, stepE_call, evD, evDs, evArgs, optI, truthE, truth, O.tree, O.toD, O.trees, O.toDs, v_add, v_sub, v_le, v_lt, v_ge, v_gt, v_min, v_max, v_eq, v_ne, v_is, v_isnt, v_t20, v_t21, u_lenL, u_lenT2, beq_self_eq_true, decide_true, Nat.reduceAdd, Nat.reduceLT, Nat.zero_add, Bool.and_self, Bool.and_true, Bool.true_and, u_isT, u_int, u_intB, u_abs, u_neg, u_tupL, u_revT, seq?, setO, assignT, assignTs, isTy, List.getElem?_cons_zero, List.getElem?_cons_succ, Option.join_some, List.set_cons_zero, List.set_cons_succ, List.length_cons, List.length_nil, Res.bind, if_true, if_false, Nat.lt_irrefl, Bool.not_true, Bool.not_false, reduceIte, Bool.false_eq_true, toDs_val, trees_val]
      rfl
    · rw [List.map_map]
      rfl
  rw [sort2 hle] at g2
  by_cases ce : clm t N = clm t (N + 1)
  · rw [if_pos ce] at g2
    rw [← ce, if_neg (Rat.lt_irrefl)] at key
    rw [key]
    have g3 : Ev.one Tb (evN Tb (n + 109)) (exN Tb (n + 109)) S19_3 (E19 c e t (some (.val (.int N))) (some (.val (.list ([clm t N].map .int)))) none none) = .ok (.next, E19 c e t (some (.val (.int N))) (some (.val (.list ([clm t N].map .int)))) (some (.val (dc t (clm t N) e))) none) := by
      have i0 : ev2 .idx (.list ([clm t N].map .int)) (.int 0) = some (.val (.int (clm t N))) := rfl
      unfold S19_3 E19
      simp only [evS, exS, okb, stb, seqS, one, stepE_none, stepE_bl, stepE_int, stepE_str, stepE_var, stepE_glb, stepE_tup, stepE_lst, stepE_op1, stepE_op2, stepE_not, stepE_and, stepE_or, stepE_ite, stepE_chain, stepE_slice, stepE_call, evD, evDs, evArgs, optI, truthE, truth, O.tree, O.toD, O.trees, O.toDs, v_add, v_sub, v_le, v_lt, v_ge, v_gt, v_min, v_max, v_eq, v_ne, v_is, v_isnt, v_t20, v_t21, u_lenL, u_lenT2, beq_self_eq_true, decide_true, Nat.reduceAdd, Nat.reduceLT, Nat.zero_add, Bool.and_self, Bool.and_true, Bool.true_and, u_isT, u_int, u_intB, u_abs, u_neg, u_tupL, u_revT, seq?, setO, assignT, assignTs, isTy, List.getElem?_cons_zero, List.getElem?_cons_succ, Option.join_some, List.set_cons_zero, List.set_cons_succ, List.length_cons, List.length_nil, Res.bind, if_true, if_false, Nat.lt_irrefl, Bool.not_true, Bool.not_false, reduceIte, Bool.false_eq_true, toDs_val, trees_val, i0, mo3, mo3', mo2, mo2', mo2'', show (1 + 1 + 1 ≤ most) = True from eq_true (by decide)]
    have g4 : Ev.one Tb (evN Tb (n + 109)) (exN Tb (n + 109)) S19_4 (E19 c e t (some (.val (.int N))) (some (.val (.list ([clm t N].map .int)))) (some (.val (dc t (clm t N) e))) none) = .ok (.next, E19 c e t (some (.val (.int N))) (some (.val (.list ([clm t N].map .int)))) (some (.val (dc t (clm t N) e))) none) :=
      one_for (ds := []) (env1 := E19 c e t (some (.val (.int N))) (some (.val (.list ([clm t N].map .int)))) (some (.val (dc t (clm t N) e))) none) rfl rfl
    exact ⟨_, callF_ret (d := f19) (os := [.val (fr c), .val (.int e), .val (.int t)]) (e0 := E19 c e t none none none none) rfl rfl rfl ((exS (n := n + 109) _ _).trans (seq_next g1 (seq_next g2 (seq_next g3 (seq_next g4 (seq_ret (one_ret (env1 := E19 c e t (some (.val (.int N))) (some (.val (.list ([clm t N].map .int)))) (some (.val (dc t (clm t N) e))) none) (d := dc t (clm t N) e) rfl))))))) rfl⟩
  · rw [if_neg ce] at g2
    have g3 : Ev.one Tb (evN Tb (n + 109)) (exN Tb (n + 109)) S19_3 (E19 c e t (some (.val (.int N))) (some (.val (.list ([clm t N, clm t (N + 1)].map .int)))) none none) = .ok (.next, E19 c e t (some (.val (.int N))) (some (.val (.list ([clm t N, clm t (N + 1)].map .int)))) (some (.val (dc t (clm t N) e))) none) := by
      have i0 : ev2 .idx (.list ([clm t N, clm t (N + 1)].map .int)) (.int 0) = some (.val (.int (clm t N))) := rfl
      unfold S19_3 E19
      simp only [evS, exS, okb, stb, seqS, one, stepE_none, stepE_bl, stepE_int, stepE_str, stepE_var, stepE_glb, stepE_tup, stepE_lst, stepE_op1, stepE_op2, stepE_not, stepE_and, stepE_or, stepE_ite, stepE_chain, stepE_slice, stepE_call, evD, evDs, evArgs, optI, truthE, truth, O.tree, O.toD, O.trees, O.toDs, v_add, v_sub, v_le, v_lt, v_ge, v_gt, v_min, v_max, v_eq, v_ne, v_is, v_isnt, v_t20, v_t21, u_lenL, u_lenT2, beq_self_eq_true, decide_true, Nat.reduceAdd, Nat.reduceLT, Nat.zero_add, Bool.and_self, Bool.and_true, Bool.true_and, u_isT, u_int, u_intB, u_abs, u_neg, u_tupL, u_revT, seq?, setO, assignT, assignTs, isTy, List.getElem?_cons_zero, List.getElem?_cons_succ, Option.join_some, List.set_cons_zero, List.set_cons_succ, List.length_cons, List.length_nil, Res.bind, if_true, if_false, Nat.lt_irrefl, Bool.not_true, Bool.not_false, reduceIte, Bool.false_eq_true, toDs_val, trees_val, i0, mo3, mo3', mo2, mo2', mo2'', show (1 + 1 + 1 ≤ most) = True from eq_true (by decide)]
    have g4 : ∃ b6, Ev.one Tb (evN Tb (n + 109)) (exN Tb (n + 109)) S19_4 (E19 c e t (some (.val (.int N))) (some (.val (.list ([clm t N, clm t (N + 1)].map .int)))) (some (.val (dc t (clm t N) e))) none) = .ok (.next, E19 c e t (some (.val (.int N))) (some (.val (.list ([clm t N, clm t (N + 1)].map .int)))) (some (.val (dc t (bsS c e t) e))) b6) := by
      refine ⟨some (.val (.int (clm t (N + 1)))), one_for (ds := [.int (clm t (N + 1))]) (env1 := E19 c e t (some (.val (.int N))) (some (.val (.list ([clm t N, clm t (N + 1)].map .int)))) (some (.val (dc t (clm t N) e))) none) rfl ?_⟩
      refine (loopF_next (env1 := E19 c e t (some (.val (.int N))) (some (.val (.list ([clm t N, clm t (N + 1)].map .int)))) (some (.val (dc t (clm t N) e))) (some (.val (.int (clm t (N + 1)))))) (env2 := E19 c e t (some (.val (.int N))) (some (.val (.list ([clm t N, clm t (N + 1)].map .int)))) (some (.val (dc t (bsS c e t) e))) (some (.val (.int (clm t (N + 1)))))) rfl ?_).trans rfl
      rw [key]
      have ka := k17 N
      have kb := k17 (N + 1)
      have kc := k18 (N + 1) N
      generalize dft t (clm t N) e c = x at *
      generalize dft t (clm t (N + 1)) e c = y at *
      by_cases cw : ab y < ab x
      · rw [if_pos cw]
        rw [decide_eq_true cw] at kc
        rw [show n + 109 = n + 108 + 1 from rfl]
        simp only [evS, exS, okb, stb, seqS, one, stepE_none, stepE_bl, stepE_int, stepE_str, stepE_var, stepE_glb, stepE_tup, stepE_lst, stepE_op1, stepE_op2, stepE_not, stepE_and, stepE_or, stepE_ite, stepE_chain, stepE_slice, stepE_call, evD, evDs, evArgs, optI, truthE, truth, O.tree, O.toD, O.trees, O.toDs, v_add, v_sub, v_le, v_lt, v_ge, v_gt, v_min, v_max, v_eq, v_ne, v_is, v_isnt, v_t20, v_t21, u_lenL, u_lenT2, beq_self_eq_true, decide_true, Nat.reduceAdd, Nat.reduceLT, Nat.zero_add, Bool.and_self, Bool.and_true, Bool.true_and, u_isT, u_int, u_intB, u_abs, u_neg, u_tupL, u_revT, seq?, setO, assignT, assignTs, isTy, List.getElem?_cons_zero, List.getElem?_cons_succ, Option.join_some, List.set_cons_zero, List.set_cons_succ, List.length_cons, List.length_nil, Res.bind, if_true, if_false, Nat.lt_irrefl, Bool.not_true, Bool.not_false, reduceIte, Bool.false_eq_true, toDs_val, trees_val, ka, kb, kc, mo3, mo3', mo2, mo2', mo2'', show (1 + 1 + 1 ≤ most) = True from eq_true (by decide)]
      · rw [if_neg cw]
        rw [decide_eq_false cw] at kc
        rw [show n + 109 = n + 108 + 1 from rfl]
        simp only [evS, exS, okb, stb, seqS, one, stepE_none, stepE_bl, stepE_int, stepE_str, stepE_var, stepE_glb, stepE_tup, stepE_lst, stepE_op1, stepE_op2, stepE_not, stepE_and, stepE_or, stepE_ite, stepE_chain, stepE_slice, stepE_call, evD, evDs, evArgs, optI, truthE, truth, O.tree, O.toD, O.trees, O.toDs, v_add, v_sub, v_le, v_lt, v_ge, v_gt, v_min, v_max, v_eq, v_ne, v_is, v_isnt, v_t20, v_t21, u_lenL, u_lenT2, beq_self_eq_true, decide_true, Nat.reduceAdd, Nat.reduceLT, Nat.zero_add, Bool.and_self, Bool.and_true, Bool.true_and, u_isT, u_int, u_intB, u_abs, u_neg, u_tupL, u_revT, seq?, setO, assignT, assignTs, isTy, List.getElem?_cons_zero, List.getElem?_cons_succ, Option.join_some, List.set_cons_zero, List.set_cons_succ, List.length_cons, List.length_nil, Res.bind, if_true, if_false, Nat.lt_irrefl, Bool.not_true, Bool.not_false, reduceIte, Bool.false_eq_true, toDs_val, trees_val, ka, kb, kc, mo3, mo3', mo2, mo2', mo2'', show (1 + 1 + 1 ≤ most) = True from eq_true (by decide)]
    obtain ⟨b6, g4⟩ := g4
    exact ⟨_, callF_ret (d := f19) (os := [.val (fr c), .val (.int e), .val (.int t)]) (e0 := E19 c e t none none none none) rfl rfl rfl ((exS (n := n + 109) _ _).trans (seq_next g1 (seq_next g2 (seq_next g3 (seq_next g4 (seq_ret (one_ret (env1 := E19 c e t (some (.val (.int N))) (some (.val (.list ([clm t N, clm t (N + 1)].map .int)))) (some (.val (dc t (bsS c e t) e))) b6) (d := dc t (bsS c e t) e) rfl))))))) rfl⟩
theorem r20 (n : Nat) {m : Int} (m0 : 2 ≤ m) (m1 : m ≤ 400) : Ret Tb (n + 70) 20 [.val (fr c), .val (.int e), .val (.int m)] (.val .none) := by
  have k9 := fun m' env => call1 (T := Tb) (n := m' + 60) env (r9 m' h)
  have k2 := fun m' env => call1 (T := Tb) (n := m' + 5) env (r2 m')
  have ke := fun m' env => call3 (T := Tb) (n := m' + 9) env (r1 m' (lo := 1) (hi := 48) e0 e1)
  have km := fun m' env => call3 (T := Tb) (n := m' + 9) env (r1 m' (lo := 2) (hi := 400) m0 m1)
  refine ⟨?_, ?_⟩
  rotate_left
  · simp only [callF, List.replicate, Nat.sub_self, List.append_nil, List.map_cons, List.map_nil, show Tb.fs[20]? = some f20 from rfl, f20, evS, exS, okb, stb, seqS, one, stepE_none, stepE_bl, stepE_int, stepE_str, stepE_var, stepE_glb, stepE_tup, stepE_lst, stepE_op1, stepE_op2, stepE_not, stepE_and, stepE_or, stepE_ite, stepE_chain, stepE_slice, stepE_call, evD, evDs, evArgs, optI, truthE, truth, O.tree, O.toD, O.trees, O.toDs, v_add, v_sub, v_le, v_lt, v_ge, v_gt, v_min, v_max, v_eq, v_ne, v_is, v_isnt, v_t20, v_t21, u_lenL, u_lenT2, beq_self_eq_true, decide_true, Nat.reduceAdd, Nat.reduceLT, Nat.zero_add, Bool.and_self, Bool.and_true, Bool.true_and, u_isT, u_int, u_intB, u_abs, u_neg, u_tupL, u_revT, seq?, setO, assignT, assignTs, isTy, List.getElem?_cons_zero, List.getElem?_cons_succ, Option.join_some, List.set_cons_zero, List.set_cons_succ, List.length_cons, List.length_nil, Res.bind, if_true, if_false, Nat.lt_irrefl, Bool.not_true, Bool.not_false, reduceIte, Bool.false_eq_true, toDs_val, trees_val, k9, k2, ke, km, show Tb.cs[0]? = some (.int 2) from rfl, show Tb.cs[1]? = some (.int 400) from rfl, show Tb.cs[2]? = some (.int 48) from rfl]
    rfl
end
end Hd

end
section
set_option autoImplicit false
set_option linter.all false
set_option maxRecDepth 100000
set_option maxHeartbeats 1000000
namespace Hd
open PySem Ev
/-! the row of bests -/
def addB (c : Rat) (e : Int) (acc : List (Int × Int)) (t : Int) : List (Int × Int) := match acc.getLast? with
  | none => acc ++ [(t, bsS c e t)]
  | some l => if W c e (t, bsS c e t) < W c e l then acc ++ [(t, bsS c e t)] else acc
def teeth (m : Int) : List Int := (List.range (m - 1).toNat).map fun (k : Nat) => 2 + (k : Int)
def row (c : Rat) (e m : Int) : List (Int × Int) := (teeth m).foldl (addB c e) []
abbrev dcp (e : Int) (p : Int × Int) : D := dc p.1 p.2 e
abbrev rowO (e : Int) (l : List (Int × Int)) : O := .lst ((l.map (dcp e)).map .val)
abbrev B21 : List Ev.S := [(.asg (.nm 5) (.call 19 [(.var 0), (.var 1), (.var 4)])), (.ifS (.snap (.or (.op2 .eq (.op1 .len (.var 3)) (.int 0)) (.call 18 [(.call 17 [(.var 5), (.var 0)]), (.call 17 [(.op2 .idx (.var 3) (.op1 .neg (.int 1))), (.var 0)])]))) [(.app 3 (.var 5))] [])]
abbrev E21 (c : Rat) (e m : Int) (l : List (Int × Int)) (a4 a5 : Option O) : Ev.Env := [some (.val (fr c)), some (.val (.int e)), some (.val (.int m)), some (rowO e l), a4, a5]
theorem addB_len (c : Rat) (e : Int) (l : List (Int × Int)) (t : Int) : (addB c e l t).length ≤ l.length + 1 := by
  unfold addB
  split
  · rw [List.length_append]; exact Nat.le_refl _
  · split
    · rw [List.length_append]; exact Nat.le_refl _
    · omega
theorem addB_all {c : Rat} {e : Int} {P : Int × Int → Prop} {l : List (Int × Int)} {t : Int} (h : ∀ p ∈ l, P p) (ht : P (t, bsS c e t)) : ∀ p ∈ addB c e l t, P p := by
  have key : ∀ p ∈ l ++ [(t, bsS c e t)], P p := fun p hp => by
    rcases List.mem_append.mp hp with hp | hp
    · exact h p hp
    · rw [List.mem_singleton] at hp; subst hp; exact ht
  unfold addB
  split
  · exact key
  · split
    · exact key
    · exact h
theorem bsS_in (c : Rat) (e : Int) {t : Int} (h : 1 ≤ t) : 1 ≤ bsS c e t ∧ bsS c e t ≤ t := by
  unfold bsS
  split
  · exact clm_in h _
  · exact clm_in h _
section
variable {c : Rat} (h : Tr c) {e : Int} (e0 : 1 ≤ e) (e1 : e ≤ 48)
include h e0 e1
theorem bsS_dc {t : Int} (t0 : 2 ≤ t) (t1 : t ≤ 400) : Dc t (bsS c e t) e := ⟨t0, t1, (bsS_in c e (by omega)).1, (bsS_in c e (by omega)).2, e0, e1⟩
theorem idx_row (l : List (Int × Int)) (p : Int × Int) : ev2 .idx (.list ((l ++ [p]).map (dcp e))) (.int (-1)) = some (.val (dcp e p)) := by
  show (atD ((l ++ [p]).map (dcp e)) (-1)).map O.val = _
  unfold atD
  rw [List.map_append, List.map_cons, List.map_nil, L2.atI_last]
  rfl
theorem b21 (n : Nat) (m : Int) (l : List (Int × Int)) (hl : ∀ p ∈ l, Dc p.1 p.2 e) (hn : l.length ≤ 1000) {t : Int} (t0 : 2 ≤ t) (t1 : t ≤ 400) (a5 : Option O) : exN Tb (n + 120) B21 (E21 c e m l (some (.val (.int t))) a5) = .ok (.next, E21 c e m (addB c e l t) (some (.val (.int t))) (some (.val (dc t (bsS c e t) e)))) := by
  have d := bsS_dc h e0 e1 t0 t1
  have k19 := fun m' env => call3 (T := Tb) (n := m' + 110) env (r19 h e0 e1 m' t0 t1)
  have k17 := fun m' env => call2 (T := Tb) (n := m' + 80) env (r17 d h m')
  have hw := W_B h e0 e1 d
  have s1 : Ev.one Tb (evN Tb (n + 119)) (exN Tb (n + 119)) (.asg (.nm 5) (.call 19 [(.var 0), (.var 1), (.var 4)])) (E21 c e m l (some (.val (.int t))) a5) = .ok (.next, E21 c e m l (some (.val (.int t))) (some (.val (dc t (bsS c e t) e)))) := by
    unfold E21 rowO
    simp only [evS, exS, okb, stb, seqS, one, stepE_none, stepE_bl, stepE_int, stepE_str, stepE_var, stepE_glb, stepE_tup, stepE_lst, stepE_op1, stepE_op2, stepE_not, stepE_and, stepE_or, stepE_ite, stepE_chain, stepE_slice, stepE_call, evD, evDs, evArgs, optI, truthE, truth, O.tree, O.toD, O.trees, O.toDs, v_add, v_sub, v_le, v_lt, v_ge, v_gt, v_min, v_max, v_eq, v_ne, v_is, v_isnt, v_t20, v_t21, u_lenL, u_lenT2, beq_self_eq_true, decide_true, Nat.reduceAdd, Nat.reduceLT, Nat.zero_add, Bool.and_self, Bool.and_true, Bool.true_and, u_isT, u_int, u_intB, u_abs, u_neg, u_tupL, u_revT, seq?, setO, assignT, assignTs, isTy, List.getElem?_cons_zero, List.getElem?_cons_succ, Option.join_some, List.set_cons_zero, List.set_cons_succ, List.length_cons, List.length_nil, Res.bind, if_true, if_false, Nat.lt_irrefl, Bool.not_true, Bool.not_false, reduceIte, Bool.false_eq_true, toDs_val, trees_val, k19]
  have app : ∀ s, exN Tb (n + 119) [(.app 3 (.var 5))] (E21 c e m l (some (.val (.int t))) (some (.val (dc t s e)))) = .ok (.next, E21 c e m (l ++ [(t, s)]) (some (.val (.int t))) (some (.val (dc t s e)))) := fun s => by
    refine (exS (n := n + 118) _ _).trans (seq_next (env1 := E21 c e m (l ++ [(t, s)]) (some (.val (.int t))) (some (.val (dc t s e)))) ?_ seq_nil)
    rw [one_app (xs := (l.map (dcp e)).map .val) (d := dc t s e) rfl rfl (by rw [List.length_map, List.length_map]; exact most_ok (by omega))]
    show Res.ok (Fl.next, [some (O.val (fr c)), some (O.val (.int e)), some (O.val (.int m)), some (O.lst ((l.map (dcp e)).map O.val ++ [O.val (dc t s e)])), _, _]) = _
    unfold E21 rowO
    rw [List.map_append, List.map_append]
    rfl
  rw [show n + 120 = n + 119 + 1 from rfl]
  refine (exS (n := n + 119) _ _).trans (seq_next s1 ?_)
  have fz : ∀ s, frozen (E21 c e m l (some (.val (.int t))) (some (.val (dc t s e)))) = [some (.val (fr c)), some (.val (.int e)), some (.val (.int m)), some (.val (.list (l.map (dcp e)))), some (.val (.int t)), some (.val (dc t s e))] := fun s => by
    have e1 : O.tree (rowO e l) = true := trees_val _
    show [some (O.val (fr c)), some (O.val (.int e)), some (O.val (.int m)), (if O.tree (rowO e l) = true then some (O.val (O.toD (rowO e l))) else none), some (O.val (.int t)), some (O.val (dc t s e))] = _
    rw [if_pos e1]
    show [_, _, _, some (O.val (.list (O.toDs ((l.map (dcp e)).map O.val)))), _, _] = _
    rw [toDs_val]
  rcases List.eq_nil_or_concat l with rfl | ⟨l', p, rfl⟩
  · refine seq_next (env1 := E21 c e m (addB c e [] t) (some (.val (.int t))) (some (.val (dc t (bsS c e t) e)))) ?_ seq_nil
    refine one_ifT (env1 := E21 c e m [] (some (.val (.int t))) (some (.val (dc t (bsS c e t) e)))) ?_ (app (bsS c e t))
    rw [show n + 119 = n + 110 + 9 from rfl]
    rfl
  · rw [List.concat_eq_append] at *
    have dp := hl p (List.mem_append_right _ (List.mem_singleton.mpr rfl))
    have k17' := fun m' env => call2 (T := Tb) (n := m' + 80) env (r17 dp h m')
    have k18 := fun m' env => call2 (T := Tb) (n := m' + 9) env (r18 m' (p := ab (dft t (bsS c e t) e c)) (q := ab (dft p.1 p.2 e c)) (hw.mono (by decide)) ((W_B h e0 e1 dp).mono (by decide)))
    have ix := idx_row h e0 e1 l' p
    have ln : ((((l' ++ [p]).map (dcp e)).length : Int) == 0) = false := by rw [beq_eq_false_iff_ne, List.length_map, List.length_append, List.length_singleton]; omega
    have hadd : addB c e (l' ++ [p]) t = if ab (dft t (bsS c e t) e c) < ab (dft p.1 p.2 e c) then l' ++ [p] ++ [(t, bsS c e t)] else l' ++ [p] := by
      unfold addB
      rw [List.getLast?_concat]
    rw [hadd]
    have fzs := fz (bsS c e t)
    have tst : truthE (evN Tb (n + 119)) (.snap (.or (.op2 .eq (.op1 .len (.var 3)) (.int 0)) (.call 18 [(.call 17 [(.var 5), (.var 0)]), (.call 17 [(.op2 .idx (.var 3) (.op1 .neg (.int 1))), (.var 0)])]))) (E21 c e m (l' ++ [p]) (some (.val (.int t))) (some (.val (dc t (bsS c e t) e)))) = .ok (decide (ab (dft t (bsS c e t) e c) < ab (dft p.1 p.2 e c)), E21 c e m (l' ++ [p]) (some (.val (.int t))) (some (.val (dc t (bsS c e t) e)))) := by
      generalize E21 c e m (l' ++ [p]) (some (.val (.int t))) (some (.val (dc t (bsS c e t) e))) = Z at *
      generalize (l' ++ [p]).map (dcp e) = Y at *
      generalize bsS c e t = b at *
      unfold dcp at ix
      generalize decide (ab (dft t b e c) < ab (dft p.1 p.2 e c)) = R at *
      generalize ab (dft t b e c) = x at *
      generalize ab (dft p.1 p.2 e c) = y at *
      rw [show n + 119 = n + 110 + 9 from rfl]
      simp only [evS, exS, okb, stb, seqS, one, stepE_none, stepE_bl, stepE_int, stepE_str, stepE_var, stepE_glb, stepE_tup, stepE_lst, stepE_op1, stepE_op2, stepE_not, stepE_and, stepE_or, stepE_ite, stepE_chain, stepE_slice, stepE_call, evD, evDs, evArgs, optI, truthE, truth, O.tree, O.toD, O.trees, O.toDs, v_add, v_sub, v_le, v_lt, v_ge, v_gt, v_min, v_max, v_eq, v_ne, v_is, v_isnt, v_t20, v_t21, u_lenL, u_lenT2, beq_self_eq_true, decide_true, Nat.reduceAdd, Nat.reduceLT, Nat.zero_add, Bool.and_self, Bool.and_true, Bool.true_and, u_isT, u_int, u_intB, u_abs, u_neg, u_tupL, u_revT, seq?, setO, assignT, assignTs, isTy, List.getElem?_cons_zero, List.getElem?_cons_succ, Option.join_some, List.set_cons_zero, List.set_cons_succ, List.length_cons, List.length_nil, Res.bind, if_true, if_false, Nat.lt_irrefl, Bool.not_true, Bool.not_false, reduceIte, Bool.false_eq_true, toDs_val, trees_val, stepE_snap, fzs, ln, k17, k17', k18, ix, Ev.loose, flat]
    by_cases cw : ab (dft t (bsS c e t) e c) < ab (dft p.1 p.2 e c)
    · rw [if_pos cw]
      rw [decide_eq_true cw] at tst
      exact seq_next (one_ifT tst (app (bsS c e t))) seq_nil
    · rw [if_neg cw]
      rw [decide_eq_false cw] at tst
      exact seq_next (one_ifF tst rfl) seq_nil
theorem loop21 (n : Nat) (m : Int) : ∀ (ts : List Int) (l : List (Int × Int)) (a4 a5 : Option O), (∀ p ∈ l, Dc p.1 p.2 e) → l.length + ts.length ≤ 1000 → (∀ t ∈ ts, 2 ≤ t ∧ t ≤ 400) → ∃ b4 b5, loopF (exN Tb (n + 120) B21) (.nm 4) (ts.map .int) (E21 c e m l a4 a5) = .ok (.next, E21 c e m (ts.foldl (addB c e) l) b4 b5)
  | [], l, a4, a5, _, _, _ => ⟨a4, a5, rfl⟩
  | t :: ts, l, a4, a5, hl, hn, ht => by
    obtain ⟨t0, t1⟩ := ht t List.mem_cons_self
    rw [List.length_cons] at hn
    obtain ⟨b4, b5, ih⟩ := loop21 n m ts (addB c e l t) (some (.val (.int t))) (some (.val (dc t (bsS c e t) e))) (addB_all hl (bsS_dc h e0 e1 t0 t1)) (by have := addB_len c e l t; omega) (fun x hx => ht x (List.mem_cons_of_mem _ hx))
    exact ⟨b4, b5, (loopF_next (env1 := E21 c e m l (some (.val (.int t))) a5) rfl (b21 h e0 e1 n m l hl (by omega) t0 t1 a5)).trans ih⟩
end
theorem teeth_in {m : Int} (m1 : m ≤ 400) : ∀ t ∈ teeth m, 2 ≤ t ∧ t ≤ m := fun t ht => by
  obtain ⟨k, hk, rfl⟩ := List.mem_map.mp ht
  rw [List.mem_range] at hk
  omega
theorem teeth_range {m : Int} (m0 : 2 ≤ m) : rangeD 2 (m + 1) = (teeth m).map .int := by
  unfold rangeD teeth
  rw [List.map_map, show m + 1 - 2 = m - 1 by omega]
  rfl
section
variable {c : Rat} (h : Tr c) {e : Int} (e0 : 1 ≤ e) (e1 : e ≤ 48) {m : Int} (m0 : 2 ≤ m) (m1 : m ≤ 400)
include h e0 e1 m0 m1
theorem r21 (n : Nat) : Ret Tb (n + 130) 21 [.val (fr c), .val (.int e), .val (.int m)] (rowO e (row c e m)) := by
  obtain ⟨b4, b5, hl⟩ := loop21 h e0 e1 (n + 9) m (teeth m) [] none none (fun p hp => nomatch hp) (by unfold teeth; rw [List.length_map, List.length_range, List.length_nil]; omega) (fun t ht => by have := teeth_in m1 t ht; omega)
  have gi : items (evN Tb (n + 129)) (.range2 (.glb 0) (.op2 .add (.var 2) (.int 1))) (E21 c e m [] none none) = .ok ((teeth m).map .int, E21 c e m [] none none) := by
    rw [← teeth_range m0]
    refine items_r2w (env1 := E21 c e m [] none none) (env2 := E21 c e m [] none none) ?_ ?_ (by omega)
    · simp only [evS, exS, okb, stb, seqS, one, stepE_none, stepE_bl, stepE_int, stepE_str, stepE_var, stepE_glb, stepE_tup, stepE_lst, stepE_op1, stepE_op2, stepE_not, stepE_and, stepE_or, stepE_ite, stepE_chain, stepE_slice, stepE_call, evD, evDs, evArgs, optI, truthE, truth, O.tree, O.toD, O.trees, O.toDs, v_add, v_sub, v_le, v_lt, v_ge, v_gt, v_min, v_max, v_eq, v_ne, v_is, v_isnt, v_t20, v_t21, u_lenL, u_lenT2, beq_self_eq_true, decide_true, Nat.reduceAdd, Nat.reduceLT, Nat.zero_add, Bool.and_self, Bool.and_true, Bool.true_and, u_isT, u_int, u_intB, u_abs, u_neg, u_tupL, u_revT, seq?, setO, assignT, assignTs, isTy, List.getElem?_cons_zero, List.getElem?_cons_succ, Option.join_some, List.set_cons_zero, List.set_cons_succ, List.length_cons, List.length_nil, Res.bind, if_true, if_false, Nat.lt_irrefl, Bool.not_true, Bool.not_false, reduceIte, Bool.false_eq_true, toDs_val, trees_val, show Tb.cs[0]? = some (.int 2) from rfl]
    · simp only [evS, exS, okb, stb, seqS, one, stepE_none, stepE_bl, stepE_int, stepE_str, stepE_var, stepE_glb, stepE_tup, stepE_lst, stepE_op1, stepE_op2, stepE_not, stepE_and, stepE_or, stepE_ite, stepE_chain, stepE_slice, stepE_call, evD, evDs, evArgs, optI, truthE, truth, O.tree, O.toD, O.trees, O.toDs, v_add, v_sub, v_le, v_lt, v_ge, v_gt, v_min, v_max, v_eq, v_ne, v_is, v_isnt, v_t20, v_t21, u_lenL, u_lenT2, beq_self_eq_true, decide_true, Nat.reduceAdd, Nat.reduceLT, Nat.zero_add, Bool.and_self, Bool.and_true, Bool.true_and, u_isT, u_int, u_intB, u_abs, u_neg, u_tupL, u_revT, seq?, setO, assignT, assignTs, isTy, List.getElem?_cons_zero, List.getElem?_cons_succ, Option.join_some, List.set_cons_zero, List.set_cons_succ, List.length_cons, List.length_nil, Res.bind, if_true, if_false, Nat.lt_irrefl, Bool.not_true, Bool.not_false, reduceIte, Bool.false_eq_true, toDs_val, trees_val]
  refine ⟨_, callF_ret (d := f21) (os := [.val (fr c), .val (.int e), .val (.int m)]) (e0 := [some (.val (fr c)), some (.val (.int e)), some (.val (.int m)), none, none, none]) rfl rfl rfl ((exS (n := n + 129) _ _).trans (seq_next (env1 := E21 c e m [] none none) rfl (seq_next (one_for gi hl) (seq_ret (env1 := [some (.val (fr c)), some (.val (.int e)), some (.val (.int m)), none, b4, b5]) ?_)))) rfl⟩
  rfl
theorem r23 (n : Nat) : Ret Tb (n + 140) 23 [.val (fr c), .val (.int e), .val (.int m)] (rowO e (row c e m)) := by
  have k20 := fun m' env => call3 (T := Tb) (n := m' + 70) env (r20 h e0 e1 m' m0 m1)
  have k21 := fun m' env => call3 (T := Tb) (n := m' + 130) env (r21 h e0 e1 m0 m1 m')
  generalize row c e m = R at *
  refine ⟨?_, ?_⟩
  rotate_left
  · simp only [callF, List.replicate, Nat.sub_self, List.append_nil, List.map_cons, List.map_nil, show Tb.fs[23]? = some f23 from rfl, f23, evS, exS, okb, stb, seqS, one, stepE_none, stepE_bl, stepE_int, stepE_str, stepE_var, stepE_glb, stepE_tup, stepE_lst, stepE_op1, stepE_op2, stepE_not, stepE_and, stepE_or, stepE_ite, stepE_chain, stepE_slice, stepE_call, evD, evDs, evArgs, optI, truthE, truth, O.tree, O.toD, O.trees, O.toDs, v_add, v_sub, v_le, v_lt, v_ge, v_gt, v_min, v_max, v_eq, v_ne, v_is, v_isnt, v_t20, v_t21, u_lenL, u_lenT2, beq_self_eq_true, decide_true, Nat.reduceAdd, Nat.reduceLT, Nat.zero_add, Bool.and_self, Bool.and_true, Bool.true_and, u_isT, u_int, u_intB, u_abs, u_neg, u_tupL, u_revT, seq?, setO, assignT, assignTs, isTy, List.getElem?_cons_zero, List.getElem?_cons_succ, Option.join_some, List.set_cons_zero, List.set_cons_succ, List.length_cons, List.length_nil, Res.bind, if_true, if_false, Nat.lt_irrefl, Bool.not_true, Bool.not_false, reduceIte, Bool.false_eq_true, toDs_val, trees_val, k20, k21]
    rfl
theorem r22 (n : Nat) {l : List (Int × Int)} {p : Int × Int} (hr : row c e m = l ++ [p]) : Ret Tb (n + 140) 22 [.val (fr c), .val (.int e), .val (.int m)] (.val (dcp e p)) := by
  have k20 := fun m' env => call3 (T := Tb) (n := m' + 70) env (r20 h e0 e1 m' m0 m1)
  have k21 := fun m' env => call3 (T := Tb) (n := m' + 130) env (r21 h e0 e1 m0 m1 m')
  have ix := idx_row h e0 e1 l p
  have t1 : O.trees (((l ++ [p]).map (dcp e)).map O.val) = true := trees_val _
  have t2 : O.toDs (((l ++ [p]).map (dcp e)).map O.val) = (l ++ [p]).map (dcp e) := toDs_val _
  rw [hr] at k21
  unfold rowO at k21
  generalize (l ++ [p]).map (dcp e) = Y at *
  refine ⟨?_, ?_⟩
  rotate_left
  · simp only [callF, List.replicate, Nat.sub_self, List.append_nil, List.map_cons, List.map_nil, show Tb.fs[22]? = some f22 from rfl, f22, evS, exS, okb, stb, seqS, one, stepE_none, stepE_bl, stepE_int, stepE_str, stepE_var, stepE_glb, stepE_tup, stepE_lst, stepE_op1, stepE_op2, stepE_not, stepE_and, stepE_or, stepE_ite, stepE_chain, stepE_slice, stepE_call, evD, evDs, evArgs, optI, truthE, truth, O.tree, O.toD, O.trees, O.toDs, v_add, v_sub, v_le, v_lt, v_ge, v_gt, v_min, v_max, v_eq, v_ne, v_is, v_isnt, v_t20, v_t21, u_lenL, u_lenT2, beq_self_eq_true, decide_true, Nat.reduceAdd, Nat.reduceLT, Nat.zero_add, Bool.and_self, Bool.and_true, Bool.true_and, u_isT, u_int, u_intB, u_abs, u_neg, u_tupL, u_revT, seq?, setO, assignT, assignTs, isTy, List.getElem?_cons_zero, List.getElem?_cons_succ, Option.join_some, List.set_cons_zero, List.set_cons_succ, List.length_cons, List.length_nil, Res.bind, if_true, if_false, Nat.lt_irrefl, Bool.not_true, Bool.not_false, reduceIte, Bool.false_eq_true, toDs_val, trees_val, k20, k21, ix, t1, t2]
    rfl
end
end Hd

end
section
set_option autoImplicit false
set_option linter.all false
set_option maxRecDepth 100000
namespace Hd
open PySem Ev
/-! the law's draws -/
def dr (ds : List Int) : O := .lst ((ds.map PyData.int).map .val)
def tk (ds : List Int) (b : Int) : Int := match ds.getLast? with
  | none => 0
  | some x => x % b
theorem tk_in (ds : List Int) {b : Int} (hb : 0 < b) : 0 ≤ tk ds b ∧ tk ds b < b := by
  unfold tk
  split
  · omega
  · exact ⟨Int.emod_nonneg _ (by omega), Int.emod_lt_of_pos _ hb⟩
theorem r36 (n : Nat) (ds : List Int) {b : Int} (hb : 0 < b) : callF Tb (exN Tb (n + 9)) 36 [dr ds, .val (.int b)] = .ok (.val (.int (tk ds b)), [some (dr ds.dropLast), some (.val (.int b))]) := by
  rcases List.eq_nil_or_concat ds with rfl | ⟨l, x, rfl⟩
  · rfl
  · have k2 := v_mod (a := x) (b := b) hb
    have e1 : ((l.concat x).map PyData.int).length = l.length + 1 := by rw [List.length_map, List.length_concat]
    have e2 : (((l.length + 1 : Nat) : Int) == 0) = false := by rw [beq_eq_false_iff_ne]; omega
    have e3 : (((l.concat x).map PyData.int).map O.val).getLast? = some (.val (.int x)) := by
      rw [List.concat_eq_append, List.map_append, List.map_append]; exact List.getLast?_concat
    have e4 : (((l.concat x).map PyData.int).map O.val).dropLast = (l.map PyData.int).map O.val := by
      rw [List.concat_eq_append, List.map_append, List.map_append]; exact List.dropLast_concat
    have e5 : (l.concat x).dropLast = l := by rw [List.concat_eq_append]; exact List.dropLast_concat
    have e6 : tk (l.concat x) b = x % b := by unfold tk; rw [List.concat_eq_append, List.getLast?_concat]
    rw [e5, e6]
    unfold dr
    simp only [callF, List.replicate, Nat.sub_self, List.append_nil, List.map_nil, List.map_cons, show Tb.fs[36]? = some f36 from rfl, f36, evS, exS, okb, stb, seqS, one, stepE_none, stepE_bl, stepE_int, stepE_str, stepE_var, stepE_glb, stepE_tup, stepE_lst, stepE_op1, stepE_op2, stepE_not, stepE_and, stepE_or, stepE_ite, stepE_chain, stepE_slice, stepE_call, evD, evDs, evArgs, optI, truthE, truth, O.tree, O.toD, O.trees, O.toDs, v_add, v_sub, v_le, v_lt, v_ge, v_gt, v_min, v_max, v_eq, v_ne, v_is, v_isnt, v_t20, v_t21, u_lenL, u_lenT2, beq_self_eq_true, decide_true, Nat.reduceAdd, Nat.reduceLT, Nat.zero_add, Bool.and_self, Bool.and_true, Bool.true_and, u_isT, u_int, u_intB, u_abs, u_neg, u_tupL, u_revT, seq?, setO, assignT, assignTs, isTy, List.getElem?_cons_zero, List.getElem?_cons_succ, Option.join_some, List.set_cons_zero, List.set_cons_succ, List.length_cons, List.length_nil, Res.bind, if_true, if_false, Nat.lt_irrefl, Bool.not_true, Bool.not_false, reduceIte, Bool.false_eq_true, toDs_val, trees_val, stepE_snap, stepE_pop, frozen, Ev.loose, Ev.looses, flat, e1, e2, e3, e4, k2]
    rfl
theorem t36_0 (n : Nat) (ds : List Int) {b : Int} (hb : 0 < b) (env : Ev.Env) : callA Tb (exN Tb (n + 9)) 36 [(some 0, .none), (none, .int b)] (some (dr ds) :: env) = .ok (.val (.int (tk ds b)), some (dr ds.dropLast) :: env) :=
  callA_run (by simp [lent]) rfl rfl (r36 n ds hb)
theorem t36_1 (n : Nat) (ds : List Int) {b : Int} (hb : 0 < b) (o : Option O) (env : Ev.Env) : callA Tb (exN Tb (n + 9)) 36 [(some 1, .none), (none, .int b)] (o :: some (dr ds) :: env) = .ok (.val (.int (tk ds b)), o :: some (dr ds.dropLast) :: env) :=
  callA_run (by simp [lent]) rfl rfl (r36 n ds hb)
def pk (ds : List Int) (xs : List D) : D := (xs[(tk ds xs.length).toNat]?).getD .none
theorem r37 (n : Nat) (ds : List Int) (xs : List D) (h : xs ≠ []) : callF Tb (exN Tb (n + 20)) 37 [dr ds, .val (.list xs)] = .ok (.val (pk ds xs), [some (dr ds.dropLast), some (.val (.list xs))]) := by
  have hl : 0 < (xs.length : Int) := by
    cases xs with
    | nil => exact absurd rfl h
    | cons a r => rw [List.length_cons]; omega
  obtain ⟨t0, t1⟩ := tk_in ds hl
  have hi : ev2 .idx (.list xs) (.int (tk ds xs.length)) = some (.val (pk ds xs)) := by
    have hj : (tk ds xs.length).toNat < xs.length := by omega
    have e : xs[(tk ds xs.length).toNat]? = some (pk ds xs) := by
      unfold pk
      rw [List.getElem?_eq_getElem hj]
      rfl
    have e2 := L2.atI_nat e
    rw [show (((tk ds xs.length).toNat : Nat) : Int) = tk ds xs.length from by omega] at e2
    show (atD xs _).map _ = _
    unfold atD
    rw [e2]
    rfl
  have k36 := fun m' => t36_0 m' ds hl
  simp only [callF, List.replicate, Nat.sub_self, List.append_nil, List.map_cons, List.map_nil, show Tb.fs[37]? = some f37 from rfl, f37, evS, exS, okb, stb, seqS, one, stepE_none, stepE_bl, stepE_int, stepE_str, stepE_var, stepE_glb, stepE_tup, stepE_lst, stepE_op1, stepE_op2, stepE_not, stepE_and, stepE_or, stepE_ite, stepE_chain, stepE_slice, stepE_call, evD, evDs, evArgs, optI, truthE, truth, O.tree, O.toD, O.trees, O.toDs, v_add, v_sub, v_le, v_lt, v_ge, v_gt, v_min, v_max, v_eq, v_ne, v_is, v_isnt, v_t20, v_t21, u_lenL, u_lenT2, beq_self_eq_true, decide_true, Nat.reduceAdd, Nat.reduceLT, Nat.zero_add, Bool.and_self, Bool.and_true, Bool.true_and, u_isT, u_int, u_intB, u_abs, u_neg, u_tupL, u_revT, seq?, setO, assignT, assignTs, isTy, List.getElem?_cons_zero, List.getElem?_cons_succ, Option.join_some, List.set_cons_zero, List.set_cons_succ, List.length_cons, List.length_nil, Res.bind, if_true, if_false, Nat.lt_irrefl, Bool.not_true, Bool.not_false, reduceIte, Bool.false_eq_true, toDs_val, trees_val, k36, hi, show ((some (dr ds)) :: ([] : Ev.Env))[0]? = some (some (dr ds)) from rfl]
  rfl
theorem t37_0 (n : Nat) (ds : List Int) (xs : List D) (h : xs ≠ []) (env : Ev.Env) : callA Tb (exN Tb (n + 20)) 37 [(some 0, .none), (none, .list xs)] (some (dr ds) :: env) = .ok (.val (pk ds xs), some (dr ds.dropLast) :: env) :=
  callA_run (by simp [lent]) rfl rfl (r37 n ds xs h)
theorem t37_1 (n : Nat) (ds : List Int) (xs : List D) (h : xs ≠ []) (o : Option O) (env : Ev.Env) : callA Tb (exN Tb (n + 20)) 37 [(some 1, .none), (none, .list xs)] (o :: some (dr ds) :: env) = .ok (.val (pk ds xs), o :: some (dr ds.dropLast) :: env) :=
  callA_run (by simp [lent]) rfl rfl (r37 n ds xs h)
theorem pk_in {ds : List Int} {xs : List D} (h : xs ≠ []) : pk ds xs ∈ xs := by
  have hl : 0 < (xs.length : Int) := by
    cases xs with
    | nil => exact absurd rfl h
    | cons a r => rw [List.length_cons]; omega
  obtain ⟨t0, t1⟩ := tk_in ds hl
  have hj : (tk ds xs.length).toNat < xs.length := by omega
  unfold pk
  rw [List.getElem?_eq_getElem hj]
  exact List.getElem_mem hj
theorem dr_app (ds : List Int) (r : Int) : O.lst (((ds.map PyData.int).map O.val) ++ [.val (.int r)]) = dr (ds ++ [r]) := by
  unfold dr; rw [List.map_append, List.map_append]; rfl
theorem app_dr {T : Tab} {ev : Ev.E → Ev.Env → Res (O × Ev.Env)} {exs : List Ev.S → Ev.Env → Res (Fl × Ev.Env)} {i : Nat} {e : Ev.E} {env : Ev.Env} {r : Int} {ds : List Int} (h0 : (env[i]?).join = some (dr ds)) (he : evD ev e env = .ok (.int r, env)) (hl : ds.length < 20000) : Ev.one T ev exs (.app i e) env = .ok (.next, setO env i (dr (ds ++ [r]))) := by
  rw [one_app (xs := (ds.map PyData.int).map O.val) h0 he (by rw [List.length_map, List.length_map]; exact Nat.lt_of_lt_of_le hl (most_ok (by decide))), dr_app]
theorem v_pow18 : ev2 .pow (.int 10) (.int 18) = some (.val (.int 1000000000000000000)) := by simp only [ev2]; rfl
abbrev E35 (ns ds : List Int) (s : Int) (c b y : Option O) : Ev.Env := [some (.scr ns), some (dr ds), some (.val (.int s)), c, b, y]
abbrev inn35 : List Ev.S := [(.ifS (.op2 .gt (.var 5) (.int 0)) [(.app 1 (.op2 .mod (.op1 .int (.var 5)) (.int 997))), (.asg (.nm 5) (.op2 .fdiv (.var 5) (.int 997)))] [])]
theorem q35in (k : Nat) (ns : List Int) (s : Int) (a b : Option O) (y : Int) (ds : List Int) (hl : ds.length ≤ 10000) : ∃ ds' b' y', loopF (exN Tb (k + 20) inn35) (.nm 4) (rangeD 0 60) (E35 ns ds s a b (some (.val (.int y)))) = .ok (.next, E35 ns ds' s a b' (some (.val (.int y')))) ∧ ds'.length ≤ ds.length + 60 := by
  obtain ⟨env', h, ds', b', y', e, hl'⟩ := loop_cnt (body := exN Tb (k + 20) inn35) (t := .nm 4) (fun j env => ∃ ds' b' y', env = E35 ns ds' s a b' (some (.val (.int y'))) ∧ ds'.length + j ≤ ds.length + 60) (ds := rangeD 0 60) (env := E35 ns ds s a b (some (.val (.int y))))
    ⟨ds, b, y, rfl, Nat.le_refl _⟩ (by
      rintro v _ j env ⟨ds', b', y', rfl, hj⟩
      refine ⟨E35 ns ds' s a (some (.val v)) (some (.val (.int y'))), ?_⟩
      by_cases hy : 0 < y'
      · refine ⟨E35 ns (ds' ++ [y' % 997]) s a (some (.val v)) (some (.val (.int (y' / 997)))), rfl, ?_, _, _, _, rfl, by rw [List.length_append, List.length_singleton]; omega⟩
        rw [exS]
        refine seq_next (one_ifT (env1 := E35 ns ds' s a (some (.val v)) (some (.val (.int y')))) ?_ ?_) seq_nil
        · simp only [evS, exS, okb, stb, seqS, one, stepE_none, stepE_bl, stepE_int, stepE_str, stepE_var, stepE_glb, stepE_tup, stepE_lst, stepE_op1, stepE_op2, stepE_not, stepE_and, stepE_or, stepE_ite, stepE_chain, stepE_slice, stepE_call, evD, evDs, evArgs, optI, truthE, truth, O.tree, O.toD, O.trees, O.toDs, v_add, v_sub, v_le, v_lt, v_ge, v_gt, v_min, v_max, v_eq, v_ne, v_is, v_isnt, v_t20, v_t21, u_lenL, u_lenT2, beq_self_eq_true, decide_true, Nat.reduceAdd, Nat.reduceLT, Nat.zero_add, Bool.and_self, Bool.and_true, Bool.true_and, u_isT, u_int, u_intB, u_abs, u_neg, u_tupL, u_revT, seq?, setO, assignT, assignTs, isTy, List.getElem?_cons_zero, List.getElem?_cons_succ, Option.join_some, List.set_cons_zero, List.set_cons_succ, List.length_cons, List.length_nil, Res.bind, if_true, if_false, Nat.lt_irrefl, Bool.not_true, Bool.not_false, reduceIte, Bool.false_eq_true, toDs_val, trees_val, decide_eq_true (show y' > 0 from hy)]
        · rw [exS]
          have k1 := v_mod (a := y') (b := 997) (by decide)
          have k2 := v_fdiv (a := y') (b := 997) (by decide) (SmD_of (by decide) (by decide))
          refine seq_next (app_dr (r := y' % 997) rfl ?_ (by omega)) (seq_next (one_asg (d := .int (y' / 997)) (env1 := E35 ns (ds' ++ [y' % 997]) s a (some (.val v)) (some (.val (.int y')))) ?_ (show 5 < 6 by decide)) seq_nil)
          · simp only [evS, exS, okb, stb, seqS, one, stepE_none, stepE_bl, stepE_int, stepE_str, stepE_var, stepE_glb, stepE_tup, stepE_lst, stepE_op1, stepE_op2, stepE_not, stepE_and, stepE_or, stepE_ite, stepE_chain, stepE_slice, stepE_call, evD, evDs, evArgs, optI, truthE, truth, O.tree, O.toD, O.trees, O.toDs, v_add, v_sub, v_le, v_lt, v_ge, v_gt, v_min, v_max, v_eq, v_ne, v_is, v_isnt, v_t20, v_t21, u_lenL, u_lenT2, beq_self_eq_true, decide_true, Nat.reduceAdd, Nat.reduceLT, Nat.zero_add, Bool.and_self, Bool.and_true, Bool.true_and, u_isT, u_int, u_intB, u_abs, u_neg, u_tupL, u_revT, seq?, setO, assignT, assignTs, isTy, List.getElem?_cons_zero, List.getElem?_cons_succ, Option.join_some, List.set_cons_zero, List.set_cons_succ, List.length_cons, List.length_nil, Res.bind, if_true, if_false, Nat.lt_irrefl, Bool.not_true, Bool.not_false, reduceIte, Bool.false_eq_true, toDs_val, trees_val, k1]
          · simp only [evS, exS, okb, stb, seqS, one, stepE_none, stepE_bl, stepE_int, stepE_str, stepE_var, stepE_glb, stepE_tup, stepE_lst, stepE_op1, stepE_op2, stepE_not, stepE_and, stepE_or, stepE_ite, stepE_chain, stepE_slice, stepE_call, evD, evDs, evArgs, optI, truthE, truth, O.tree, O.toD, O.trees, O.toDs, v_add, v_sub, v_le, v_lt, v_ge, v_gt, v_min, v_max, v_eq, v_ne, v_is, v_isnt, v_t20, v_t21, u_lenL, u_lenT2, beq_self_eq_true, decide_true, Nat.reduceAdd, Nat.reduceLT, Nat.zero_add, Bool.and_self, Bool.and_true, Bool.true_and, u_isT, u_int, u_intB, u_abs, u_neg, u_tupL, u_revT, seq?, setO, assignT, assignTs, isTy, List.getElem?_cons_zero, List.getElem?_cons_succ, Option.join_some, List.set_cons_zero, List.set_cons_succ, List.length_cons, List.length_nil, Res.bind, if_true, if_false, Nat.lt_irrefl, Bool.not_true, Bool.not_false, reduceIte, Bool.false_eq_true, toDs_val, trees_val, k2]
      · refine ⟨E35 ns ds' s a (some (.val v)) (some (.val (.int y'))), rfl, ?_, _, _, _, rfl, by omega⟩
        rw [exS]
        refine seq_next (one_ifF (env1 := E35 ns ds' s a (some (.val v)) (some (.val (.int y')))) ?_ ?_) seq_nil
        · simp only [evS, exS, okb, stb, seqS, one, stepE_none, stepE_bl, stepE_int, stepE_str, stepE_var, stepE_glb, stepE_tup, stepE_lst, stepE_op1, stepE_op2, stepE_not, stepE_and, stepE_or, stepE_ite, stepE_chain, stepE_slice, stepE_call, evD, evDs, evArgs, optI, truthE, truth, O.tree, O.toD, O.trees, O.toDs, v_add, v_sub, v_le, v_lt, v_ge, v_gt, v_min, v_max, v_eq, v_ne, v_is, v_isnt, v_t20, v_t21, u_lenL, u_lenT2, beq_self_eq_true, decide_true, Nat.reduceAdd, Nat.reduceLT, Nat.zero_add, Bool.and_self, Bool.and_true, Bool.true_and, u_isT, u_int, u_intB, u_abs, u_neg, u_tupL, u_revT, seq?, setO, assignT, assignTs, isTy, List.getElem?_cons_zero, List.getElem?_cons_succ, Option.join_some, List.set_cons_zero, List.set_cons_succ, List.length_cons, List.length_nil, Res.bind, if_true, if_false, Nat.lt_irrefl, Bool.not_true, Bool.not_false, reduceIte, Bool.false_eq_true, toDs_val, trees_val, decide_eq_false (show ¬ y' > 0 from hy)]
        · rfl)
  exact ⟨ds', b', y', by rw [h, e], by omega⟩
abbrev if35 : Ev.S := (.ifS (.op2 .lt (.var 5) (.op2 .pow (.int 10) (.int 18))) [(.app 1 (.op2 .mod (.op1 .int (.var 5)) (.int 997))), (.app 1 (.op2 .mod (.op1 .int (.var 2)) (.int 65521))), (.asg (.nm 5) (.int 0))] [])
abbrev cell35 : List Ev.S := [(.asg (.nm 5) (.op1 .abs (.op1 .int (.var 3)))), (.asg (.nm 2) (.op2 .mod (.op1 .int (.op2 .add (.op2 .add (.op2 .mul (.var 2) (.int 48271)) (.var 5)) (.int 1))) (.int 2147483647))), if35, (.forS (.nm 4) (.range (.int 60)) inn35)]
theorem q35cell (k : Nat) (ns : List Int) (c : Int) (b y : Option O) (s : Int) (hs : Sm s) (ds : List Int) (hl : ds.length ≤ 9000) : ∃ ds' s' b' y', exN Tb (k + 40) cell35 (E35 ns ds s (some (.val (.int c))) b y) = .ok (.next, E35 ns ds' s' (some (.val (.int c))) b' (some (.val (.int y')))) ∧ Sm s' ∧ ds'.length ≤ ds.length + 62 := by
  have hy : 0 ≤ (if c < 0 then -c else c) := by split <;> omega
  have m1 := v_mul (a := s) (b := 48271) hs (Sm_of (by decide) (by decide))
  have m2 := v_mod (a := s * 48271 + (if c < 0 then -c else c) + 1) (b := 2147483647) (by decide)
  have h0 : exN Tb (k + 40) cell35 (E35 ns ds s (some (.val (.int c))) b y) = seqS (Ev.one Tb (evN Tb (k + 39)) (exN Tb (k + 39))) [if35, (.forS (.nm 4) (.range (.int 60)) inn35)] (E35 ns ds ((s * 48271 + (if c < 0 then -c else c) + 1) % 2147483647) (some (.val (.int c))) b (some (.val (.int (if c < 0 then -c else c))))) := by
    rw [exS]
    refine seq_next (one_asg (d := .int (if c < 0 then -c else c)) (env1 := E35 ns ds s (some (.val (.int c))) b y) ?_ (show 5 < 6 by decide)) (seq_next (one_asg (d := .int ((s * 48271 + (if c < 0 then -c else c) + 1) % 2147483647)) (env1 := E35 ns ds s (some (.val (.int c))) b (some (.val (.int (if c < 0 then -c else c))))) ?_ (show 2 < 6 by decide)) rfl)
    · simp only [evS, exS, okb, stb, seqS, one, stepE_none, stepE_bl, stepE_int, stepE_str, stepE_var, stepE_glb, stepE_tup, stepE_lst, stepE_op1, stepE_op2, stepE_not, stepE_and, stepE_or, stepE_ite, stepE_chain, stepE_slice, stepE_call, evD, evDs, evArgs, optI, truthE, truth, O.tree, O.toD, O.trees, O.toDs, v_add, v_sub, v_le, v_lt, v_ge, v_gt, v_min, v_max, v_eq, v_ne, v_is, v_isnt, v_t20, v_t21, u_lenL, u_lenT2, beq_self_eq_true, decide_true, Nat.reduceAdd, Nat.reduceLT, Nat.zero_add, Bool.and_self, Bool.and_true, Bool.true_and, u_isT, u_int, u_intB, u_abs, u_neg, u_tupL, u_revT, seq?, setO, assignT, assignTs, isTy, List.getElem?_cons_zero, List.getElem?_cons_succ, Option.join_some, List.set_cons_zero, List.set_cons_succ, List.length_cons, List.length_nil, Res.bind, if_true, if_false, Nat.lt_irrefl, Bool.not_true, Bool.not_false, reduceIte, Bool.false_eq_true, toDs_val, trees_val]
    · simp only [evS, exS, okb, stb, seqS, one, stepE_none, stepE_bl, stepE_int, stepE_str, stepE_var, stepE_glb, stepE_tup, stepE_lst, stepE_op1, stepE_op2, stepE_not, stepE_and, stepE_or, stepE_ite, stepE_chain, stepE_slice, stepE_call, evD, evDs, evArgs, optI, truthE, truth, O.tree, O.toD, O.trees, O.toDs, v_add, v_sub, v_le, v_lt, v_ge, v_gt, v_min, v_max, v_eq, v_ne, v_is, v_isnt, v_t20, v_t21, u_lenL, u_lenT2, beq_self_eq_true, decide_true, Nat.reduceAdd, Nat.reduceLT, Nat.zero_add, Bool.and_self, Bool.and_true, Bool.true_and, u_isT, u_int, u_intB, u_abs, u_neg, u_tupL, u_revT, seq?, setO, assignT, assignTs, isTy, List.getElem?_cons_zero, List.getElem?_cons_succ, Option.join_some, List.set_cons_zero, List.set_cons_succ, List.length_cons, List.length_nil, Res.bind, if_true, if_false, Nat.lt_irrefl, Bool.not_true, Bool.not_false, reduceIte, Bool.false_eq_true, toDs_val, trees_val, m1, m2]
  rw [h0]
  have hf : 0 ≤ (s * 48271 + (if c < 0 then -c else c) + 1) % 2147483647 ∧ (s * 48271 + (if c < 0 then -c else c) + 1) % 2147483647 < 2147483647 := ⟨Int.emod_nonneg _ (by decide), Int.emod_lt_of_pos _ (by decide)⟩
  generalize (s * 48271 + (if c < 0 then -c else c) + 1) % 2147483647 = t at hf ⊢
  generalize (if c < 0 then -c else c) = y0 at hy ⊢
  have key : ∃ ds2 y2, Ev.one Tb (evN Tb (k + 39)) (exN Tb (k + 39)) if35 (E35 ns ds t (some (.val (.int c))) b (some (.val (.int y0)))) = .ok (.next, E35 ns ds2 t (some (.val (.int c))) b (some (.val (.int y2)))) ∧ ds2.length ≤ ds.length + 2 := by
    by_cases hc : y0 < 1000000000000000000
    · refine ⟨ds ++ [y0 % 997] ++ [t % 65521], 0, ?_, by simp only [List.length_append, List.length_singleton]; omega⟩
      refine one_ifT (env1 := E35 ns ds t (some (.val (.int c))) b (some (.val (.int y0)))) ?_ ?_
      · simp only [evS, exS, okb, stb, seqS, one, stepE_none, stepE_bl, stepE_int, stepE_str, stepE_var, stepE_glb, stepE_tup, stepE_lst, stepE_op1, stepE_op2, stepE_not, stepE_and, stepE_or, stepE_ite, stepE_chain, stepE_slice, stepE_call, evD, evDs, evArgs, optI, truthE, truth, O.tree, O.toD, O.trees, O.toDs, v_add, v_sub, v_le, v_lt, v_ge, v_gt, v_min, v_max, v_eq, v_ne, v_is, v_isnt, v_t20, v_t21, u_lenL, u_lenT2, beq_self_eq_true, decide_true, Nat.reduceAdd, Nat.reduceLT, Nat.zero_add, Bool.and_self, Bool.and_true, Bool.true_and, u_isT, u_int, u_intB, u_abs, u_neg, u_tupL, u_revT, seq?, setO, assignT, assignTs, isTy, List.getElem?_cons_zero, List.getElem?_cons_succ, Option.join_some, List.set_cons_zero, List.set_cons_succ, List.length_cons, List.length_nil, Res.bind, if_true, if_false, Nat.lt_irrefl, Bool.not_true, Bool.not_false, reduceIte, Bool.false_eq_true, toDs_val, trees_val, v_pow18, decide_eq_true hc]
      · have m2 := v_mod (a := y0) (b := 997) (by decide)
        have m4 := v_mod (a := t) (b := 65521) (by decide)
        rw [exS]
        refine seq_next (app_dr (r := y0 % 997) (ds := ds) rfl ?_ (by omega)) (seq_next (app_dr (r := t % 65521) (ds := ds ++ [y0 % 997]) rfl ?_ (by rw [List.length_append, List.length_singleton]; omega)) (seq_next (one_asg (d := .int 0) (env1 := E35 ns (ds ++ [y0 % 997] ++ [t % 65521]) t (some (.val (.int c))) b (some (.val (.int y0)))) ?_ (show 5 < 6 by decide)) seq_nil))
        · simp only [evS, exS, okb, stb, seqS, one, stepE_none, stepE_bl, stepE_int, stepE_str, stepE_var, stepE_glb, stepE_tup, stepE_lst, stepE_op1, stepE_op2, stepE_not, stepE_and, stepE_or, stepE_ite, stepE_chain, stepE_slice, stepE_call, evD, evDs, evArgs, optI, truthE, truth, O.tree, O.toD, O.trees, O.toDs, v_add, v_sub, v_le, v_lt, v_ge, v_gt, v_min, v_max, v_eq, v_ne, v_is, v_isnt, v_t20, v_t21, u_lenL, u_lenT2, beq_self_eq_true, decide_true, Nat.reduceAdd, Nat.reduceLT, Nat.zero_add, Bool.and_self, Bool.and_true, Bool.true_and, u_isT, u_int, u_intB, u_abs, u_neg, u_tupL, u_revT, seq?, setO, assignT, assignTs, isTy, List.getElem?_cons_zero, List.getElem?_cons_succ, Option.join_some, List.set_cons_zero, List.set_cons_succ, List.length_cons, List.length_nil, Res.bind, if_true, if_false, Nat.lt_irrefl, Bool.not_true, Bool.not_false, reduceIte, Bool.false_eq_true, toDs_val, trees_val, m2]
        · simp only [evS, exS, okb, stb, seqS, one, stepE_none, stepE_bl, stepE_int, stepE_str, stepE_var, stepE_glb, stepE_tup, stepE_lst, stepE_op1, stepE_op2, stepE_not, stepE_and, stepE_or, stepE_ite, stepE_chain, stepE_slice, stepE_call, evD, evDs, evArgs, optI, truthE, truth, O.tree, O.toD, O.trees, O.toDs, v_add, v_sub, v_le, v_lt, v_ge, v_gt, v_min, v_max, v_eq, v_ne, v_is, v_isnt, v_t20, v_t21, u_lenL, u_lenT2, beq_self_eq_true, decide_true, Nat.reduceAdd, Nat.reduceLT, Nat.zero_add, Bool.and_self, Bool.and_true, Bool.true_and, u_isT, u_int, u_intB, u_abs, u_neg, u_tupL, u_revT, seq?, setO, assignT, assignTs, isTy, List.getElem?_cons_zero, List.getElem?_cons_succ, Option.join_some, List.set_cons_zero, List.set_cons_succ, List.length_cons, List.length_nil, Res.bind, if_true, if_false, Nat.lt_irrefl, Bool.not_true, Bool.not_false, reduceIte, Bool.false_eq_true, toDs_val, trees_val, m4]
        · simp only [evS, exS, okb, stb, seqS, one, stepE_none, stepE_bl, stepE_int, stepE_str, stepE_var, stepE_glb, stepE_tup, stepE_lst, stepE_op1, stepE_op2, stepE_not, stepE_and, stepE_or, stepE_ite, stepE_chain, stepE_slice, stepE_call, evD, evDs, evArgs, optI, truthE, truth, O.tree, O.toD, O.trees, O.toDs, v_add, v_sub, v_le, v_lt, v_ge, v_gt, v_min, v_max, v_eq, v_ne, v_is, v_isnt, v_t20, v_t21, u_lenL, u_lenT2, beq_self_eq_true, decide_true, Nat.reduceAdd, Nat.reduceLT, Nat.zero_add, Bool.and_self, Bool.and_true, Bool.true_and, u_isT, u_int, u_intB, u_abs, u_neg, u_tupL, u_revT, seq?, setO, assignT, assignTs, isTy, List.getElem?_cons_zero, List.getElem?_cons_succ, Option.join_some, List.set_cons_zero, List.set_cons_succ, List.length_cons, List.length_nil, Res.bind, if_true, if_false, Nat.lt_irrefl, Bool.not_true, Bool.not_false, reduceIte, Bool.false_eq_true, toDs_val, trees_val]
    · refine ⟨ds, y0, ?_, by omega⟩
      refine one_ifF (env1 := E35 ns ds t (some (.val (.int c))) b (some (.val (.int y0)))) ?_ rfl
      simp only [evS, exS, okb, stb, seqS, one, stepE_none, stepE_bl, stepE_int, stepE_str, stepE_var, stepE_glb, stepE_tup, stepE_lst, stepE_op1, stepE_op2, stepE_not, stepE_and, stepE_or, stepE_ite, stepE_chain, stepE_slice, stepE_call, evD, evDs, evArgs, optI, truthE, truth, O.tree, O.toD, O.trees, O.toDs, v_add, v_sub, v_le, v_lt, v_ge, v_gt, v_min, v_max, v_eq, v_ne, v_is, v_isnt, v_t20, v_t21, u_lenL, u_lenT2, beq_self_eq_true, decide_true, Nat.reduceAdd, Nat.reduceLT, Nat.zero_add, Bool.and_self, Bool.and_true, Bool.true_and, u_isT, u_int, u_intB, u_abs, u_neg, u_tupL, u_revT, seq?, setO, assignT, assignTs, isTy, List.getElem?_cons_zero, List.getElem?_cons_succ, Option.join_some, List.set_cons_zero, List.set_cons_succ, List.length_cons, List.length_nil, Res.bind, if_true, if_false, Nat.lt_irrefl, Bool.not_true, Bool.not_false, reduceIte, Bool.false_eq_true, toDs_val, trees_val, v_pow18, decide_eq_false hc]
  obtain ⟨ds2, y2, h2, l2⟩ := key
  obtain ⟨ds3, b3, y3, h3, l3⟩ := q35in (k + 19) ns t (some (.val (.int c))) b y2 ds2 (by omega)
  refine ⟨ds3, t, b3, y3, ?_, Sm_of (by omega) (by omega), by omega⟩
  refine seq_next h2 (seq_next (one_for (items_range (j := 60) (env1 := E35 ns ds2 t (some (.val (.int c))) b (some (.val (.int y2)))) ?_ (by decide) rfl) h3) seq_nil)
  simp only [evS, exS, okb, stb, seqS, one, stepE_none, stepE_bl, stepE_int, stepE_str, stepE_var, stepE_glb, stepE_tup, stepE_lst, stepE_op1, stepE_op2, stepE_not, stepE_and, stepE_or, stepE_ite, stepE_chain, stepE_slice, stepE_call, evD, evDs, evArgs, optI, truthE, truth, O.tree, O.toD, O.trees, O.toDs, v_add, v_sub, v_le, v_lt, v_ge, v_gt, v_min, v_max, v_eq, v_ne, v_is, v_isnt, v_t20, v_t21, u_lenL, u_lenT2, beq_self_eq_true, decide_true, Nat.reduceAdd, Nat.reduceLT, Nat.zero_add, Bool.and_self, Bool.and_true, Bool.true_and, u_isT, u_int, u_intB, u_abs, u_neg, u_tupL, u_revT, seq?, setO, assignT, assignTs, isTy, List.getElem?_cons_zero, List.getElem?_cons_succ, Option.join_some, List.set_cons_zero, List.set_cons_succ, List.length_cons, List.length_nil, Res.bind, if_true, if_false, Nat.lt_irrefl, Bool.not_true, Bool.not_false, reduceIte, Bool.false_eq_true, toDs_val, trees_val]
theorem q35out (k : Nat) (ns : List Int) (hn : ns.length ≤ 63) : ∃ ds s a b y, loopF (exN Tb (k + 40) cell35) (.nm 3) (ns.map .int) (E35 ns [] 11 none none none) = .ok (.next, E35 ns ds s a b y) ∧ Sm s ∧ ds.length ≤ 62 * ns.length := by
  obtain ⟨env', h, ds, s, a, b, y, e, hs, hl⟩ := loop_cnt (body := exN Tb (k + 40) cell35) (t := .nm 3) (fun j env => ∃ ds s a b y, env = E35 ns ds s a b y ∧ Sm s ∧ ds.length + 62 * j ≤ 62 * ns.length) (ds := ns.map .int) (env := E35 ns [] 11 none none none)
    ⟨[], 11, none, none, none, rfl, Sm_of (by decide) (by decide), by rw [List.length_map, List.length_nil]; omega⟩ (by
      rintro v hv j env ⟨ds, s, a, b, y, rfl, hs, hj⟩
      obtain ⟨z, hz, rfl⟩ := List.mem_map.mp hv
      obtain ⟨ds', s', b', y', h, hs', hl⟩ := q35cell k ns z b y s hs ds (by omega)
      exact ⟨E35 ns ds s (some (.val (.int z))) b y, _, rfl, h, _, _, _, _, _, rfl, hs', by omega⟩)
  exact ⟨ds, s, a, b, y, by rw [h, e], hs, by omega⟩
abbrev seed35 : List Ev.S := [(.asg (.nm 2) (.op2 .mod (.op1 .int (.op2 .add (.op2 .mul (.var 2) (.int 48271)) (.int 69621))) (.int 2147483647))), (.app 1 (.op2 .fdiv (.var 2) (.int 5)))]
theorem q35seed (k : Nat) (ns ds : List Int) (a b y : Option O) (s : Int) (hs : Sm s) (hl : ds.length ≤ 5000) : ∃ ds' s' b', loopF (exN Tb (k + 20) seed35) (.nm 4) (rangeD 0 1200) (E35 ns ds s a b y) = .ok (.next, E35 ns ds' s' a b' y) := by
  obtain ⟨env', h, ds', s', b', e, _⟩ := loop_cnt (body := exN Tb (k + 20) seed35) (t := .nm 4) (fun j env => ∃ ds s b, env = E35 ns ds s a b y ∧ Sm s ∧ ds.length + j ≤ 14000) (ds := rangeD 0 1200) (env := E35 ns ds s a b y)
    ⟨ds, s, b, rfl, hs, by unfold rangeD; rw [List.length_map, List.length_range]; omega⟩ (by
      rintro v _ j env ⟨ds, s, b, rfl, hs, hj⟩
      have hf : 0 ≤ (s * 48271 + 69621) % 2147483647 ∧ (s * 48271 + 69621) % 2147483647 < 2147483647 := ⟨Int.emod_nonneg _ (by decide), Int.emod_lt_of_pos _ (by decide)⟩
      have m1 := v_mul (a := s) (b := 48271) hs (Sm_of (by decide) (by decide))
      have m2 := v_mod (a := s * 48271 + 69621) (b := 2147483647) (by decide)
      have m3 := v_fdiv (a := (s * 48271 + 69621) % 2147483647) (b := 5) (by decide) (SmD_of (by decide) (by decide))
      refine ⟨E35 ns ds s a (some (.val v)) y, E35 ns (ds ++ [(s * 48271 + 69621) % 2147483647 / 5]) ((s * 48271 + 69621) % 2147483647) a (some (.val v)) y, rfl, ?_, _, _, _, rfl, Sm_of (by omega) (by omega), by rw [List.length_append, List.length_singleton]; omega⟩
      rw [exS]
      refine seq_next (one_asg (d := .int ((s * 48271 + 69621) % 2147483647)) (env1 := E35 ns ds s a (some (.val v)) y) ?_ (show 2 < 6 by decide)) (seq_next (app_dr (r := (s * 48271 + 69621) % 2147483647 / 5) (ds := ds) rfl ?_ (by omega)) seq_nil)
      · simp only [evS, exS, okb, stb, seqS, one, stepE_none, stepE_bl, stepE_int, stepE_str, stepE_var, stepE_glb, stepE_tup, stepE_lst, stepE_op1, stepE_op2, stepE_not, stepE_and, stepE_or, stepE_ite, stepE_chain, stepE_slice, stepE_call, evD, evDs, evArgs, optI, truthE, truth, O.tree, O.toD, O.trees, O.toDs, v_add, v_sub, v_le, v_lt, v_ge, v_gt, v_min, v_max, v_eq, v_ne, v_is, v_isnt, v_t20, v_t21, u_lenL, u_lenT2, beq_self_eq_true, decide_true, Nat.reduceAdd, Nat.reduceLT, Nat.zero_add, Bool.and_self, Bool.and_true, Bool.true_and, u_isT, u_int, u_intB, u_abs, u_neg, u_tupL, u_revT, seq?, setO, assignT, assignTs, isTy, List.getElem?_cons_zero, List.getElem?_cons_succ, Option.join_some, List.set_cons_zero, List.set_cons_succ, List.length_cons, List.length_nil, Res.bind, if_true, if_false, Nat.lt_irrefl, Bool.not_true, Bool.not_false, reduceIte, Bool.false_eq_true, toDs_val, trees_val, m1, m2]
      · simp only [evS, exS, okb, stb, seqS, one, stepE_none, stepE_bl, stepE_int, stepE_str, stepE_var, stepE_glb, stepE_tup, stepE_lst, stepE_op1, stepE_op2, stepE_not, stepE_and, stepE_or, stepE_ite, stepE_chain, stepE_slice, stepE_call, evD, evDs, evArgs, optI, truthE, truth, O.tree, O.toD, O.trees, O.toDs, v_add, v_sub, v_le, v_lt, v_ge, v_gt, v_min, v_max, v_eq, v_ne, v_is, v_isnt, v_t20, v_t21, u_lenL, u_lenT2, beq_self_eq_true, decide_true, Nat.reduceAdd, Nat.reduceLT, Nat.zero_add, Bool.and_self, Bool.and_true, Bool.true_and, u_isT, u_int, u_intB, u_abs, u_neg, u_tupL, u_revT, seq?, setO, assignT, assignTs, isTy, List.getElem?_cons_zero, List.getElem?_cons_succ, Option.join_some, List.set_cons_zero, List.set_cons_succ, List.length_cons, List.length_nil, Res.bind, if_true, if_false, Nat.lt_irrefl, Bool.not_true, Bool.not_false, reduceIte, Bool.false_eq_true, toDs_val, trees_val, m3])
  exact ⟨ds', s', b', by rw [h, e]⟩
theorem r35 (n : Nat) (ns : List Int) (hn : ns.length ≤ 63) : ∃ ds, callF Tb (exN Tb (n + 60)) 35 [.scr ns] = .ok (dr ds, [some (.scr ns)]) := by
  obtain ⟨ds, s, a, b, y, h1, hs, l1⟩ := q35out (n + 19) ns hn
  obtain ⟨ds', s', b', h3⟩ := q35seed (n + 39) ns ds a b y s hs (by omega)
  refine ⟨ds'.reverse, ?_⟩
  have e : freezeAt (E35 ns ds' s' a b' y) [1] = [some (.scr ns), some (.val (.list (ds'.map .int))), some (.val (.int s')), a, b', y] := by
    show (match some (dr ds') with | some o => if o.tree then setO (E35 ns ds' s' a b' y) 1 (.val o.toD) else E35 ns ds' s' a b' y | none => E35 ns ds' s' a b' y) = _
    unfold dr
    dsimp only
    rw [show O.tree (O.lst ((ds'.map PyData.int).map O.val)) = true from trees_val _, if_pos rfl]
    show setO _ 1 (O.val (PyData.list (O.toDs ((ds'.map PyData.int).map O.val)))) = _
    rw [toDs_val]
    rfl
  have hx : exN Tb (n + 60) f35.body [some (.scr ns), none, none, none, none, none] = .ok (.ret (dr ds'.reverse), [some (.scr ns), some (.val (.list (ds'.map .int))), some (.val (.int s')), a, b', y]) := by
    rw [exS]
    refine seq_next (env1 := [some (.scr ns), some (dr []), none, none, none, none]) rfl (seq_next (env1 := E35 ns [] 11 none none none) rfl (seq_next (one_for (ds := ns.map .int) (env1 := E35 ns [] 11 none none none) rfl h1) (seq_next (one_for (ds := rangeD 0 1200) (env1 := E35 ns ds s a b y) (items_range (j := 1200) ?_ (by decide) rfl) h3) (seq_next (env1 := [some (.scr ns), some (.val (.list (ds'.map .int))), some (.val (.int s')), a, b', y]) (congrArg (fun e => Res.ok (Fl.next, e)) e) (seq_ret ?_)))))
    · simp only [evS, exS, okb, stb, seqS, one, stepE_none, stepE_bl, stepE_int, stepE_str, stepE_var, stepE_glb, stepE_tup, stepE_lst, stepE_op1, stepE_op2, stepE_not, stepE_and, stepE_or, stepE_ite, stepE_chain, stepE_slice, stepE_call, evD, evDs, evArgs, optI, truthE, truth, O.tree, O.toD, O.trees, O.toDs, v_add, v_sub, v_le, v_lt, v_ge, v_gt, v_min, v_max, v_eq, v_ne, v_is, v_isnt, v_t20, v_t21, u_lenL, u_lenT2, beq_self_eq_true, decide_true, Nat.reduceAdd, Nat.reduceLT, Nat.zero_add, Bool.and_self, Bool.and_true, Bool.true_and, u_isT, u_int, u_intB, u_abs, u_neg, u_tupL, u_revT, seq?, setO, assignT, assignTs, isTy, List.getElem?_cons_zero, List.getElem?_cons_succ, Option.join_some, List.set_cons_zero, List.set_cons_succ, List.length_cons, List.length_nil, Res.bind, if_true, if_false, Nat.lt_irrefl, Bool.not_true, Bool.not_false, reduceIte, Bool.false_eq_true, toDs_val, trees_val]
    · have e2 : ev1 .listRev (.list (ds'.map .int)) = some (dr ds'.reverse) := by
        show some (O.lst ((ds'.map PyData.int).reverse.map O.val)) = _
        unfold dr
        simp only [List.map_reverse]
      simp only [evS, exS, okb, stb, seqS, one, stepE_none, stepE_bl, stepE_int, stepE_str, stepE_var, stepE_glb, stepE_tup, stepE_lst, stepE_op1, stepE_op2, stepE_not, stepE_and, stepE_or, stepE_ite, stepE_chain, stepE_slice, stepE_call, evD, evDs, evArgs, optI, truthE, truth, O.tree, O.toD, O.trees, O.toDs, v_add, v_sub, v_le, v_lt, v_ge, v_gt, v_min, v_max, v_eq, v_ne, v_is, v_isnt, v_t20, v_t21, u_lenL, u_lenT2, beq_self_eq_true, decide_true, Nat.reduceAdd, Nat.reduceLT, Nat.zero_add, Bool.and_self, Bool.and_true, Bool.true_and, u_isT, u_int, u_intB, u_abs, u_neg, u_tupL, u_revT, seq?, setO, assignT, assignTs, isTy, List.getElem?_cons_zero, List.getElem?_cons_succ, Option.join_some, List.set_cons_zero, List.set_cons_succ, List.length_cons, List.length_nil, Res.bind, if_true, if_false, Nat.lt_irrefl, Bool.not_true, Bool.not_false, reduceIte, Bool.false_eq_true, toDs_val, trees_val, e2]
  unfold callF
  rw [show Tb.fs[35]? = some f35 from rfl]
  show (exN Tb (n + 60) f35.body [some (.scr ns), none, none, none, none, none]).bind _ = _
  rw [hx]
  rfl
end Hd

end
section
set_option autoImplicit false
set_option linter.all false
set_option maxRecDepth 100000
set_option maxHeartbeats 1000000
namespace Hd
open PySem Ev
theorem gcd_for {body : Ev.Env → Res (Fl × Ev.Env)} {t : Ev.Tgt} (st : Int → Int → Option O → Ev.Env) (ha : ∀ a b x d, assignT t d (st a b x) = some (st a b (some (.val d)))) (h0 : ∀ a x, body (st a 0 x) = .ok (.brk, st a 0 x)) (h1 : ∀ a b x, 0 < b → body (st a b x) = .ok (.next, st b (a % b) x)) :
    ∀ (j : Nat) (ds : List D) (a b : Int) (x : Option O), 2 * j + 1 ≤ ds.length → 0 ≤ a → 0 ≤ b → b < 2 ^ j → ∃ x', loopF body t ds (st a b x) = .ok (.next, st (gI a b) 0 x') := by
  have stop : ∀ (d : D) (ds : List D) (a : Int) (x : Option O), 0 ≤ a → ∃ x', loopF body t (d :: ds) (st a 0 x) = .ok (.next, st (gI a 0) 0 x') := by
    intro d ds a x ha0
    refine ⟨some (.val d), ?_⟩
    show (match assignT t d (st a 0 x) with | none => Res.stuck | some env1 => _) = _
    rw [ha]
    dsimp only
    rw [h0, gI_zero ha0]
    rfl
  intro j
  induction j with
  | zero =>
    intro ds a b x hl ha0 hb0 h
    have : b = 0 := by have : b < 1 := h; omega
    subst this
    cases ds with
    | nil => simp at hl
    | cons d ds => exact stop d ds a x ha0
  | succ j ih =>
    intro ds a b x hl ha0 hb0 h
    cases ds with
    | nil => simp at hl
    | cons d ds =>
      by_cases hp : 0 < b
      · rw [loopF_next (ha a b x d) (h1 a b _ hp), ← gI_step ha0 hp]
        have h2 : 0 ≤ a % b := Int.emod_nonneg _ (by omega)
        have h3 : a % b < b := Int.emod_lt_of_pos _ hp
        generalize a % b = r at *
        cases ds with
        | nil => simp at hl
        | cons d2 ds =>
          by_cases hr : 0 < r
          · rw [loopF_next (ha b r _ d2) (h1 b r _ hr), ← gI_step hb0 hr]
            have h4 := half_mod hr h3
            have h5 : (2 : Int) ^ (j + 1) = 2 ^ j * 2 := Int.pow_succ 2 j
            exact ih ds r (b % r) _ (by simp at hl; omega) h2 (Int.emod_nonneg _ (by omega)) (by omega)
          · have : r = 0 := by omega
            subst this
            exact stop d2 ds b _ hb0
      · have : b = 0 := by omega
        subst this
        exact stop d ds a x ha0
theorem r38 (n : Nat) {x y : Int} (hy : 0 < y) (b : B 1000 y) : Ret Tb (n + 40) 38 [.val (.int x), .val (.int y)] (.val (fr ((x : Rat) / (y : Rat)))) := by
  have hg := gA_pos (x := x) hy
  have k1 := v_fdiv (a := x) (b := gA x y) hg.1 ((b.le (by omega) hg.2).smD (by decide))
  have k2 := v_fdiv (a := y) (b := gA x y) hg.1 ((b.le (by omega) hg.2).smD (by decide))
  unfold fr
  rw [rat_num hy, rat_den hy]
  obtain ⟨x', hl⟩ := gcd_for (body := exN Tb (n + 39) [(.ifS (.op2 .eq (.var 4) (.int 0)) [.brk] []), (.par [3, 4] [false, false] [(.var 4), (.op2 .mod (.op1 .int (.var 3)) (.var 4))])]) (t := .nm 2) (fun a b z => [some (.val (.int x)), some (.val (.int y)), z, some (.val (.int a)), some (.val (.int b))]) (fun a b z d => rfl) (fun a z => by
      rw [show n + 39 = n + 30 + 9 from rfl]
      simp only [evS, exS, okb, stb, seqS, one, stepE_none, stepE_bl, stepE_int, stepE_str, stepE_var, stepE_glb, stepE_tup, stepE_lst, stepE_op1, stepE_op2, stepE_not, stepE_and, stepE_or, stepE_ite, stepE_chain, stepE_slice, stepE_call, evD, evDs, evArgs, optI, truthE, truth, O.tree, O.toD, O.trees, O.toDs, v_add, v_sub, v_le, v_lt, v_ge, v_gt, v_min, v_max, v_eq, v_ne, v_is, v_isnt, v_t20, v_t21, u_lenL, u_lenT2, beq_self_eq_true, decide_true, Nat.reduceAdd, Nat.reduceLT, Nat.zero_add, Bool.and_self, Bool.and_true, Bool.true_and, u_isT, u_int, u_intB, u_abs, u_neg, u_tupL, u_revT, seq?, setO, assignT, assignTs, isTy, List.getElem?_cons_zero, List.getElem?_cons_succ, Option.join_some, List.set_cons_zero, List.set_cons_succ, List.length_cons, List.length_nil, Res.bind, if_true, if_false, Nat.lt_irrefl, Bool.not_true, Bool.not_false, reduceIte, Bool.false_eq_true, toDs_val, trees_val]) (fun a b z hb => by
      have k2 := v_mod (a := a) (b := b) hb
      have e1 : (b == 0) = false := by rw [beq_eq_false_iff_ne]; omega
      rw [show n + 39 = n + 30 + 9 from rfl]
      simp only [evS, exS, okb, stb, seqS, one, stepE_none, stepE_bl, stepE_int, stepE_str, stepE_var, stepE_glb, stepE_tup, stepE_lst, stepE_op1, stepE_op2, stepE_not, stepE_and, stepE_or, stepE_ite, stepE_chain, stepE_slice, stepE_call, evD, evDs, evArgs, optI, truthE, truth, O.tree, O.toD, O.trees, O.toDs, v_add, v_sub, v_le, v_lt, v_ge, v_gt, v_min, v_max, v_eq, v_ne, v_is, v_isnt, v_t20, v_t21, u_lenL, u_lenT2, beq_self_eq_true, decide_true, Nat.reduceAdd, Nat.reduceLT, Nat.zero_add, Bool.and_self, Bool.and_true, Bool.true_and, u_isT, u_int, u_intB, u_abs, u_neg, u_tupL, u_revT, seq?, setO, assignT, assignTs, isTy, List.getElem?_cons_zero, List.getElem?_cons_succ, Option.join_some, List.set_cons_zero, List.set_cons_succ, List.length_cons, List.length_nil, Res.bind, if_true, if_false, Nat.lt_irrefl, Bool.not_true, Bool.not_false, reduceIte, Bool.false_eq_true, toDs_val, trees_val, evOs, parAsg, k2, e1]) 1000 (rangeD 0 4000) (if x < 0 then -x else x) (if y < 0 then -y else y) none (by unfold rangeD; rw [List.length_map, List.length_range]; decide) (by split <;> omega) (by split <;> omega) b.iab.lt
  rw [gI_iab] at hl
  refine ⟨[some (.val (.int x)), some (.val (.int y))], callF_ret (d := f38) (os := [.val (.int x), .val (.int y)]) (env := [some (.val (.int x)), some (.val (.int y)), x', some (.val (.int (gA x y))), some (.val (.int 0))]) (e0 := [some (.val (.int x)), some (.val (.int y)), none, none, none]) rfl rfl rfl ((exS (n := n + 39) _ _).trans (seq_next (env1 := [some (.val (.int x)), some (.val (.int y)), none, some (.val (.int (if x < 0 then -x else x))), some (.val (.int (if y < 0 then -y else y)))]) ?_ (seq_next (one_for (env1 := [some (.val (.int x)), some (.val (.int y)), none, some (.val (.int (if x < 0 then -x else x))), some (.val (.int (if y < 0 then -y else y)))]) (items_range (j := 4000) ?_ (by decide) rfl) hl) (seq_ret (one_ret (evD_val (env1 := [some (.val (.int x)), some (.val (.int y)), x', some (.val (.int (gA x y))), some (.val (.int 0))]) ?_)))))) rfl⟩
  · simp only [evS, exS, okb, stb, seqS, one, stepE_none, stepE_bl, stepE_int, stepE_str, stepE_var, stepE_glb, stepE_tup, stepE_lst, stepE_op1, stepE_op2, stepE_not, stepE_and, stepE_or, stepE_ite, stepE_chain, stepE_slice, stepE_call, evD, evDs, evArgs, optI, truthE, truth, O.tree, O.toD, O.trees, O.toDs, v_add, v_sub, v_le, v_lt, v_ge, v_gt, v_min, v_max, v_eq, v_ne, v_is, v_isnt, v_t20, v_t21, u_lenL, u_lenT2, beq_self_eq_true, decide_true, Nat.reduceAdd, Nat.reduceLT, Nat.zero_add, Bool.and_self, Bool.and_true, Bool.true_and, u_isT, u_int, u_intB, u_abs, u_neg, u_tupL, u_revT, seq?, setO, assignT, assignTs, isTy, List.getElem?_cons_zero, List.getElem?_cons_succ, Option.join_some, List.set_cons_zero, List.set_cons_succ, List.length_cons, List.length_nil, Res.bind, if_true, if_false, Nat.lt_irrefl, Bool.not_true, Bool.not_false, reduceIte, Bool.false_eq_true, toDs_val, trees_val, evOs, parAsg]
  · simp only [evS, exS, okb, stb, seqS, one, stepE_none, stepE_bl, stepE_int, stepE_str, stepE_var, stepE_glb, stepE_tup, stepE_lst, stepE_op1, stepE_op2, stepE_not, stepE_and, stepE_or, stepE_ite, stepE_chain, stepE_slice, stepE_call, evD, evDs, evArgs, optI, truthE, truth, O.tree, O.toD, O.trees, O.toDs, v_add, v_sub, v_le, v_lt, v_ge, v_gt, v_min, v_max, v_eq, v_ne, v_is, v_isnt, v_t20, v_t21, u_lenL, u_lenT2, beq_self_eq_true, decide_true, Nat.reduceAdd, Nat.reduceLT, Nat.zero_add, Bool.and_self, Bool.and_true, Bool.true_and, u_isT, u_int, u_intB, u_abs, u_neg, u_tupL, u_revT, seq?, setO, assignT, assignTs, isTy, List.getElem?_cons_zero, List.getElem?_cons_succ, Option.join_some, List.set_cons_zero, List.set_cons_succ, List.length_cons, List.length_nil, Res.bind, if_true, if_false, Nat.lt_irrefl, Bool.not_true, Bool.not_false, reduceIte, Bool.false_eq_true, toDs_val, trees_val]
  · simp only [evS, exS, okb, stb, seqS, one, stepE_none, stepE_bl, stepE_int, stepE_str, stepE_var, stepE_glb, stepE_tup, stepE_lst, stepE_op1, stepE_op2, stepE_not, stepE_and, stepE_or, stepE_ite, stepE_chain, stepE_slice, stepE_call, evD, evDs, evArgs, optI, truthE, truth, O.tree, O.toD, O.trees, O.toDs, v_add, v_sub, v_le, v_lt, v_ge, v_gt, v_min, v_max, v_eq, v_ne, v_is, v_isnt, v_t20, v_t21, u_lenL, u_lenT2, beq_self_eq_true, decide_true, Nat.reduceAdd, Nat.reduceLT, Nat.zero_add, Bool.and_self, Bool.and_true, Bool.true_and, u_isT, u_int, u_intB, u_abs, u_neg, u_tupL, u_revT, seq?, setO, assignT, assignTs, isTy, List.getElem?_cons_zero, List.getElem?_cons_succ, Option.join_some, List.set_cons_zero, List.set_cons_succ, List.length_cons, List.length_nil, Res.bind, if_true, if_false, Nat.lt_irrefl, Bool.not_true, Bool.not_false, reduceIte, Bool.false_eq_true, toDs_val, trees_val, k1, k2, mo2, mo2', mo2'']
theorem plusI (p : Rat) {x y : Int} (hy : 0 < y) : ((p.num * y + x * (p.den : Int) : Int) : Rat) / (((p.den : Int) * y : Int) : Rat) = p + (x : Rat) / (y : Rat) := by
  refine divq (Int.mul_pos (dpos p) hy) ?_
  have h1 := num_den p
  have h2 := pos_cast hy
  rw [Rat.intCast_add, Rat.intCast_mul, Rat.intCast_mul, Rat.intCast_mul, ← h1]
  have h3 : (x : Rat) / (y : Rat) * (y : Rat) = (x : Rat) := Rat.div_mul_cancel h2
  grind
theorem r39 (n : Nat) {p : Rat} (hp : Bq 300 p) {x y : Int} (hx : B 300 x) (hy : 0 < y) (hb : B 300 y) : Ret Tb (n + 50) 39 [.val (fr p), .val (.tuple [.int x, .int y])] (.val (fr (p + (x : Rat) / (y : Rat)))) := by
  refine ⟨?_, ?_⟩
  rotate_left
  · have m1 := vM hp.n hb
    have m2 := vM hx hp.d
    have m3 := vM hp.d hb
    have k := fun m' env => call2 (T := Tb) (n := m' + 40) env (r38 m' (x := p.num * y + x * (p.den : Int)) (Int.mul_pos (dpos p) hy) ((hp.d.mul hb).mono (by decide)))
    rw [plusI p hy] at k
    simp only [callF, List.replicate, Nat.sub_self, List.append_nil, List.map_cons, List.map_nil, show Tb.fs[39]? = some f39 from rfl, f39, evS, exS, okb, stb, seqS, one, stepE_none, stepE_bl, stepE_int, stepE_str, stepE_var, stepE_glb, stepE_tup, stepE_lst, stepE_op1, stepE_op2, stepE_not, stepE_and, stepE_or, stepE_ite, stepE_chain, stepE_slice, stepE_call, evD, evDs, evArgs, optI, truthE, truth, O.tree, O.toD, O.trees, O.toDs, v_add, v_sub, v_le, v_lt, v_ge, v_gt, v_min, v_max, v_eq, v_ne, v_is, v_isnt, v_t20, v_t21, u_lenL, u_lenT2, beq_self_eq_true, decide_true, Nat.reduceAdd, Nat.reduceLT, Nat.zero_add, Bool.and_self, Bool.and_true, Bool.true_and, u_isT, u_int, u_intB, u_abs, u_neg, u_tupL, u_revT, seq?, setO, assignT, assignTs, isTy, List.getElem?_cons_zero, List.getElem?_cons_succ, Option.join_some, List.set_cons_zero, List.set_cons_succ, List.length_cons, List.length_nil, Res.bind, if_true, if_false, Nat.lt_irrefl, Bool.not_true, Bool.not_false, reduceIte, Bool.false_eq_true, toDs_val, trees_val, m1, m2, m3, k]
    rfl
theorem r39f (n : Nat) {p q : Rat} (hp : Bq 300 p) (hq : Bq 300 q) : Ret Tb (n + 50) 39 [.val (fr p), .val (fr q)] (.val (fr (p + q))) := by
  have := r39 n hp hq.n (dpos q) hq.d
  rwa [self_div] at this
theorem r40 (n : Nat) {p q : Rat} (hp : Bq 1000 p) (hq : Bq 1000 q) : Ret Tb (n + 9) 40 [.val (fr p), .val (fr q)] (.val (.bool (decide (p ≤ q)))) := by
  rw [show decide (p ≤ q) = decide (p.num * (q.den : Int) ≤ q.num * (p.den : Int)) from decide_eq_decide.mpr (Rat.le_iff p q)]
  refine ⟨?_, ?_⟩
  rotate_left
  · have m1 := vM hp.n hq.d
    have m2 := vM hq.n hp.d
    simp only [callF, List.replicate, Nat.sub_self, List.append_nil, List.map_cons, List.map_nil, show Tb.fs[40]? = some f40 from rfl, f40, evS, exS, okb, stb, seqS, one, stepE_none, stepE_bl, stepE_int, stepE_str, stepE_var, stepE_glb, stepE_tup, stepE_lst, stepE_op1, stepE_op2, stepE_not, stepE_and, stepE_or, stepE_ite, stepE_chain, stepE_slice, stepE_call, evD, evDs, evArgs, optI, truthE, truth, O.tree, O.toD, O.trees, O.toDs, v_add, v_sub, v_le, v_lt, v_ge, v_gt, v_min, v_max, v_eq, v_ne, v_is, v_isnt, v_t20, v_t21, u_lenL, u_lenT2, beq_self_eq_true, decide_true, Nat.reduceAdd, Nat.reduceLT, Nat.zero_add, Bool.and_self, Bool.and_true, Bool.true_and, u_isT, u_int, u_intB, u_abs, u_neg, u_tupL, u_revT, seq?, setO, assignT, assignTs, isTy, List.getElem?_cons_zero, List.getElem?_cons_succ, Option.join_some, List.set_cons_zero, List.set_cons_succ, List.length_cons, List.length_nil, Res.bind, if_true, if_false, Nat.lt_irrefl, Bool.not_true, Bool.not_false, reduceIte, Bool.false_eq_true, toDs_val, trees_val, m1, m2]
    rfl
theorem r40i (n : Nat) {a b c d : Int} (ha : B 1000 a) (hb : B 1000 b) (hc : B 1000 c) (hd : B 1000 d) : Ret Tb (n + 9) 40 [.val (.tuple [.int a, .int b]), .val (.tuple [.int c, .int d])] (.val (.bool (decide (a * d ≤ c * b)))) := by
  refine ⟨?_, ?_⟩
  rotate_left
  · have k1 := vM ha hd
    have k2 := vM hc hb
    simp only [callF, List.replicate, Nat.sub_self, List.append_nil, List.map_cons, List.map_nil, show Tb.fs[40]? = some f40 from rfl, f40, evS, exS, okb, stb, seqS, one, stepE_none, stepE_bl, stepE_int, stepE_str, stepE_var, stepE_glb, stepE_tup, stepE_lst, stepE_op1, stepE_op2, stepE_not, stepE_and, stepE_or, stepE_ite, stepE_chain, stepE_slice, stepE_call, evD, evDs, evArgs, optI, truthE, truth, O.tree, O.toD, O.trees, O.toDs, v_add, v_sub, v_le, v_lt, v_ge, v_gt, v_min, v_max, v_eq, v_ne, v_is, v_isnt, v_t20, v_t21, u_lenL, u_lenT2, beq_self_eq_true, decide_true, Nat.reduceAdd, Nat.reduceLT, Nat.zero_add, Bool.and_self, Bool.and_true, Bool.true_and, u_isT, u_int, u_intB, u_abs, u_neg, u_tupL, u_revT, seq?, setO, assignT, assignTs, isTy, List.getElem?_cons_zero, List.getElem?_cons_succ, Option.join_some, List.set_cons_zero, List.set_cons_succ, List.length_cons, List.length_nil, Res.bind, if_true, if_false, Nat.lt_irrefl, Bool.not_true, Bool.not_false, reduceIte, Bool.false_eq_true, toDs_val, trees_val, k1, k2]
    rfl
theorem r45 (n : Nat) (p : Rat) : Ret Tb (n + 9) 45 [.val (fr p)] (.val (fr (ab p))) := by
  unfold fr
  rw [ab_num, ab_den]
  refine ⟨?_, ?_⟩
  rotate_left
  · simp only [callF, List.replicate, Nat.sub_self, List.append_nil, List.map_cons, List.map_nil, show Tb.fs[45]? = some f45 from rfl, f45, evS, exS, okb, stb, seqS, one, stepE_none, stepE_bl, stepE_int, stepE_str, stepE_var, stepE_glb, stepE_tup, stepE_lst, stepE_op1, stepE_op2, stepE_not, stepE_and, stepE_or, stepE_ite, stepE_chain, stepE_slice, stepE_call, evD, evDs, evArgs, optI, truthE, truth, O.tree, O.toD, O.trees, O.toDs, v_add, v_sub, v_le, v_lt, v_ge, v_gt, v_min, v_max, v_eq, v_ne, v_is, v_isnt, v_t20, v_t21, u_lenL, u_lenT2, beq_self_eq_true, decide_true, Nat.reduceAdd, Nat.reduceLT, Nat.zero_add, Bool.and_self, Bool.and_true, Bool.true_and, u_isT, u_int, u_intB, u_abs, u_neg, u_tupL, u_revT, seq?, setO, assignT, assignTs, isTy, List.getElem?_cons_zero, List.getElem?_cons_succ, Option.join_some, List.set_cons_zero, List.set_cons_succ, List.length_cons, List.length_nil, Res.bind, if_true, if_false, Nat.lt_irrefl, Bool.not_true, Bool.not_false, reduceIte, Bool.false_eq_true, toDs_val, trees_val, mo2, mo2', mo2'']
    rfl
theorem negI (p : Rat) : ((0 - p.num : Int) : Rat) / ((p.den : Int) : Rat) = -p := by
  refine divq (dpos p) ?_
  rw [Int.zero_sub, Rat.intCast_neg, ← num_den p]
  grind
section
variable {t s e : Int} (d : Dc t s e) {c : Rat} (h : Tr c)
include d h
omit h in
theorem r42 (n : Nat) : Ret Tb (n + 50) 42 [.val (dc t s e)] (.val (fr (rnd t s e))) := by
  refine ⟨?_, ?_⟩
  rotate_left
  · have m1 := vM d.bt d.be
    have k5 := fun m' env => call2 (T := Tb) (n := m' + 40) env (r38 m' (x := t * e) (y := s) (by have := d.s0; omega) (d.bs.mono (by decide)))
    simp only [callF, List.replicate, Nat.sub_self, List.append_nil, List.map_cons, List.map_nil, show Tb.fs[42]? = some f42 from rfl, f42, evS, exS, okb, stb, seqS, one, stepE_none, stepE_bl, stepE_int, stepE_str, stepE_var, stepE_glb, stepE_tup, stepE_lst, stepE_op1, stepE_op2, stepE_not, stepE_and, stepE_or, stepE_ite, stepE_chain, stepE_slice, stepE_call, evD, evDs, evArgs, optI, truthE, truth, O.tree, O.toD, O.trees, O.toDs, v_add, v_sub, v_le, v_lt, v_ge, v_gt, v_min, v_max, v_eq, v_ne, v_is, v_isnt, v_t20, v_t21, u_lenL, u_lenT2, beq_self_eq_true, decide_true, Nat.reduceAdd, Nat.reduceLT, Nat.zero_add, Bool.and_self, Bool.and_true, Bool.true_and, u_isT, u_int, u_intB, u_abs, u_neg, u_tupL, u_revT, seq?, setO, assignT, assignTs, isTy, List.getElem?_cons_zero, List.getElem?_cons_succ, Option.join_some, List.set_cons_zero, List.set_cons_succ, List.length_cons, List.length_nil, Res.bind, if_true, if_false, Nat.lt_irrefl, Bool.not_true, Bool.not_false, reduceIte, Bool.false_eq_true, toDs_val, trees_val, m1, k5, t30, t31, t32]
    rfl
theorem r43 (n : Nat) : Ret Tb (n + 70) 43 [.val (dc t s e), .val (fr c)] (.val (fr (dft t s e c))) := by
  refine ⟨?_, ?_⟩
  rotate_left
  · have k42 := fun m' env => call1 (T := Tb) (n := m' + 50) env (r42 d m')
    have k39 := fun m' env => call2 (T := Tb) (n := m' + 50) env (r39 m' (p := rnd t s e) (x := 0 - c.num) (y := (c.den : Int)) (d.br.mono (by decide)) ((B.sub (B.lit (k := 60) (i := 0) (by decide)) h.b.n).mono (by decide)) (dpos c) (h.b.d.mono (by decide)))
    rw [negI c, ← Rat.sub_eq_add_neg] at k39
    simp only [callF, List.replicate, Nat.sub_self, List.append_nil, List.map_cons, List.map_nil, show Tb.fs[43]? = some f43 from rfl, f43, evS, exS, okb, stb, seqS, one, stepE_none, stepE_bl, stepE_int, stepE_str, stepE_var, stepE_glb, stepE_tup, stepE_lst, stepE_op1, stepE_op2, stepE_not, stepE_and, stepE_or, stepE_ite, stepE_chain, stepE_slice, stepE_call, evD, evDs, evArgs, optI, truthE, truth, O.tree, O.toD, O.trees, O.toDs, v_add, v_sub, v_le, v_lt, v_ge, v_gt, v_min, v_max, v_eq, v_ne, v_is, v_isnt, v_t20, v_t21, u_lenL, u_lenT2, beq_self_eq_true, decide_true, Nat.reduceAdd, Nat.reduceLT, Nat.zero_add, Bool.and_self, Bool.and_true, Bool.true_and, u_isT, u_int, u_intB, u_abs, u_neg, u_tupL, u_revT, seq?, setO, assignT, assignTs, isTy, List.getElem?_cons_zero, List.getElem?_cons_succ, Option.join_some, List.set_cons_zero, List.set_cons_succ, List.length_cons, List.length_nil, Res.bind, if_true, if_false, Nat.lt_irrefl, Bool.not_true, Bool.not_false, reduceIte, Bool.false_eq_true, toDs_val, trees_val, k42, k39, mo2, mo2', mo2'']
    rfl
end
/-! the law's discs -/
theorem g0 (d : O) (l : Ev.Env) : (some d :: l)[0]? = some (some d) := rfl
theorem len_3 {x y z : D} : ev1 .len (.list [x, y, z]) = some (.val (.int 3)) := rfl
theorem pick3 {ds : List Int} {a b c : Int} {P : Int → Prop} (ha : P a) (hb : P b) (hc : P c) : ∃ x, P x ∧ pk ds [.int a, .int b, .int c] = .int x := by
  have hp : pk ds [.int a, .int b, .int c] ∈ [PyData.int a, .int b, .int c] := pk_in (by simp)
  simp only [List.mem_cons, List.not_mem_nil, or_false] at hp
  rcases hp with e | e | e
  · exact ⟨a, ha, e⟩
  · exact ⟨b, hb, e⟩
  · exact ⟨c, hc, e⟩
theorem r41 (ds : List Int) : ∃ t s e ds', Dc t s e ∧ ∀ n, callF Tb (exN Tb (n + 60)) 41 [dr ds, .val (.int 400)] = .ok (.val (dc t s e), [some (dr ds'), some (.val (.int 400))]) := by
  have a1 := tk_in ds (b := 399) (by decide)
  have k1 := fun m' (env : Ev.Env) => t36_0 m' ds (b := 399) (by decide) env
  generalize ht : 2 + tk ds 399 = t at *
  have t0 : 2 ≤ t := by omega
  have t1 : t ≤ 400 := by omega
  have a2 := tk_in ds.dropLast (b := t) (by omega)
  have k2 := fun m' (env : Ev.Env) => t36_0 m' ds.dropLast (b := t) (by omega) env
  obtain ⟨s, hs, es⟩ := pick3 (ds := ds.dropLast.dropLast) (a := 1) (b := 1 + tk ds.dropLast t) (c := t) (P := fun s => 1 ≤ s ∧ s ≤ t) (by omega) (by omega) (by omega)
  have k3 := fun m' env => t37_0 m' ds.dropLast.dropLast [.int 1, .int (1 + tk ds.dropLast t), .int t] (by simp) env
  rw [es] at k3
  have a4 := tk_in ds.dropLast.dropLast.dropLast (b := 48) (by decide)
  have k4 := fun m' (env : Ev.Env) => t36_0 m' ds.dropLast.dropLast.dropLast (b := 48) (by decide) env
  obtain ⟨e, he, ee⟩ := pick3 (ds := ds.dropLast.dropLast.dropLast.dropLast) (a := 1) (b := 12) (c := 1 + tk ds.dropLast.dropLast.dropLast 48) (P := fun e => 1 ≤ e ∧ e ≤ 48) (by decide) (by decide) (by omega)
  have k5 := fun m' env => t37_0 m' ds.dropLast.dropLast.dropLast.dropLast [.int 1, .int 12, .int (1 + tk ds.dropLast.dropLast.dropLast 48)] (by simp) env
  rw [ee] at k5
  refine ⟨t, s, e, ds.dropLast.dropLast.dropLast.dropLast.dropLast, ⟨t0, t1, hs.1, hs.2, he.1, he.2⟩, fun n => ?_⟩
  simp only [callF, List.replicate, Nat.sub_self, List.append_nil, List.map_cons, List.map_nil, show Tb.fs[41]? = some f41 from rfl, f41, evS, exS, okb, stb, seqS, one, stepE_none, stepE_bl, stepE_int, stepE_str, stepE_var, stepE_glb, stepE_tup, stepE_lst, stepE_op1, stepE_op2, stepE_not, stepE_and, stepE_or, stepE_ite, stepE_chain, stepE_slice, stepE_call, evD, evDs, evArgs, optI, truthE, truth, O.tree, O.toD, O.trees, O.toDs, v_add, v_sub, v_le, v_lt, v_ge, v_gt, v_min, v_max, v_eq, v_ne, v_is, v_isnt, v_t20, v_t21, u_lenL, u_lenT2, beq_self_eq_true, decide_true, Nat.reduceAdd, Nat.reduceLT, Nat.zero_add, Bool.and_self, Bool.and_true, Bool.true_and, u_isT, u_int, u_intB, u_abs, u_neg, u_tupL, u_revT, seq?, setO, assignT, assignTs, isTy, List.getElem?_cons_zero, List.getElem?_cons_succ, Option.join_some, List.set_cons_zero, List.set_cons_succ, List.length_cons, List.length_nil, Res.bind, if_true, if_false, Nat.lt_irrefl, Bool.not_true, Bool.not_false, reduceIte, Bool.false_eq_true, toDs_val, trees_val, k1, k2, k3, k4, k5, ht, g0, mo3, mo3', mo2, mo2', mo2'', show (1 + 1 + 1 ≤ most) = True from eq_true (by decide), show (400 : Int) - 1 = 399 from rfl, show 3 - 2 = 1 from rfl, List.cons_append, List.nil_append]
  rfl
end Hd

end
section
set_option autoImplicit false
set_option linter.all false
set_option maxRecDepth 100000
set_option maxHeartbeats 1000000
namespace Hd
open PySem Ev
theorem len_4 {x y z w : D} : ev1 .len (.list [x, y, z, w]) = some (.val (.int 4)) := rfl
theorem pick4 {ds : List Int} {a b c d : Rat} {P : Rat → Prop} (ha : P a) (hb : P b) (hc : P c) (hd : P d) : ∃ x, P x ∧ pk ds [fr a, fr b, fr c, fr d] = fr x := by
  have hp : pk ds [fr a, fr b, fr c, fr d] ∈ [fr a, fr b, fr c, fr d] := pk_in (by simp)
  simp only [List.mem_cons, List.not_mem_nil, or_false] at hp
  rcases hp with e | e | e | e
  · exact ⟨a, ha, e⟩
  · exact ⟨b, hb, e⟩
  · exact ⟨c, hc, e⟩
  · exact ⟨d, hd, e⟩
theorem r44 (ds : List Int) {t s e : Int} (d : Dc t s e) : ∃ c ds', Tr c ∧ ∀ n, callF Tb (exN Tb (n + 80)) 44 [dr ds, .val (dc t s e)] = .ok (.val (fr c), [some (dr ds'), some (.val (dc t s e))]) := by
  have k42 := fun m' env => call1 (T := Tb) (n := m' + 50) env (r42 d m')
  have a1 := tk_in ds (b := 9) (by decide)
  have k1 := fun m' (env : Ev.Env) => t36_0 m' ds (b := 9) (by decide) env
  have a2 := tk_in ds.dropLast (b := 30) (by decide)
  have k2 := fun m' (env : Ev.Env) => t36_0 m' ds.dropLast (b := 30) (by decide) env
  have k38 := fun m' env => call2 (T := Tb) (n := m' + 40) env (r38 m' (x := tk ds 9) (y := 1 + tk ds.dropLast 30) (by omega) ((B.of (by omega) (by omega)).mono (by decide)))
  have bm : Bq 20 (((tk ds 9 : Int) : Rat) / ((1 + tk ds.dropLast 30 : Int) : Rat)) := .div (B.of (by omega) (by omega)) (B.of (by omega) (by omega)) (by omega)
  generalize ((tk ds 9 : Int) : Rat) / ((1 + tk ds.dropLast 30 : Int) : Rat) = w at *
  have br := d.br
  have k39 := fun m' env => call2 (T := Tb) (n := m' + 50) env (r39f m' (p := rnd t s e) (q := w) (br.mono (by decide)) (bm.mono (by decide)))
  have k39' := fun m' env => call2 (T := Tb) (n := m' + 50) env (r39 m' (p := rnd t s e) (x := 0 - w.num) (y := (w.den : Int)) (br.mono (by decide)) ((B.sub (B.lit (k := 20) (i := 0) (by decide)) bm.n).mono (by decide)) (dpos w) (bm.d.mono (by decide)))
  rw [negI w, ← Rat.sub_eq_add_neg] at k39'
  have a3 := tk_in ds.dropLast.dropLast (b := 900) (by decide)
  have k3 := fun m' (env : Ev.Env) => t36_0 m' ds.dropLast.dropLast (b := 900) (by decide) env
  have f4 : PyData.tuple [.int (1 + tk ds.dropLast.dropLast 900), .int 1] = fr ((1 + tk ds.dropLast.dropLast 900 : Int) : Rat) := rfl
  have b4 : Bq 60 ((1 + tk ds.dropLast.dropLast 900 : Int) : Rat) := ⟨(B.of (show -1000000 ≤ 1 + tk ds.dropLast.dropLast 900 by omega) (by omega)).mono (by decide), B.lit (k := 60) (i := 1) (by decide)⟩
  generalize hz : ((1 + tk ds.dropLast.dropLast 900 : Int) : Rat) = z at *
  obtain ⟨c, hc, ec⟩ := pick4 (ds := ds.dropLast.dropLast.dropLast) (a := rnd t s e) (b := rnd t s e + w) (c := rnd t s e - w) (d := z) (P := Bq 60) (br.mono (by decide)) ((br.add bm).mono (by decide)) ((br.sub bm).mono (by decide)) b4
  have k4 := fun m' env => t37_0 m' ds.dropLast.dropLast.dropLast [fr (rnd t s e), fr (rnd t s e + w), fr (rnd t s e - w), fr z] (by simp) env
  rw [ec] at k4
  generalize rnd t s e + w = x1 at *
  generalize rnd t s e - w = x2 at *
  generalize rnd t s e = x3 at *
  have q1 := fun m' env => call2 (T := Tb) (n := m' + 9) env (r40i m' (a := 1) (b := 1) (c := c.num) (d := (c.den : Int)) (B.lit (k := 1000) (by decide)) (B.lit (k := 1000) (by decide)) (hc.n.mono (by decide)) (hc.d.mono (by decide)))
  have q2 := fun m' env => call2 (T := Tb) (n := m' + 9) env (r40i m' (a := c.num) (b := (c.den : Int)) (c := 10000) (d := 1) (hc.n.mono (by decide)) (hc.d.mono (by decide)) (B.lit (k := 1000) (by decide)) (B.lit (k := 1000) (by decide)))
  rw [Int.one_mul, Int.mul_one] at q1
  rw [Int.mul_one] at q2
  by_cases h1 : (c.den : Int) ≤ c.num
  · rw [decide_eq_true h1] at q1
    by_cases h2 : c.num ≤ 10000 * (c.den : Int)
    · rw [decide_eq_true h2] at q2
      refine ⟨c, ds.dropLast.dropLast.dropLast.dropLast, ⟨hc, h1, h2⟩, fun n => ?_⟩
      unfold fr at *
      simp only [callF, List.replicate, Nat.sub_self, List.append_nil, List.map_cons, List.map_nil, show Tb.fs[44]? = some f44 from rfl, f44, evS, exS, okb, stb, seqS, one, stepE_none, stepE_bl, stepE_int, stepE_str, stepE_var, stepE_glb, stepE_tup, stepE_lst, stepE_op1, stepE_op2, stepE_not, stepE_and, stepE_or, stepE_ite, stepE_chain, stepE_slice, stepE_call, evD, evDs, evArgs, optI, truthE, truth, O.tree, O.toD, O.trees, O.toDs, v_add, v_sub, v_le, v_lt, v_ge, v_gt, v_min, v_max, v_eq, v_ne, v_is, v_isnt, v_t20, v_t21, u_lenL, u_lenT2, beq_self_eq_true, decide_true, Nat.reduceAdd, Nat.reduceLT, Nat.zero_add, Bool.and_self, Bool.and_true, Bool.true_and, u_isT, u_int, u_intB, u_abs, u_neg, u_tupL, u_revT, seq?, setO, assignT, assignTs, isTy, List.getElem?_cons_zero, List.getElem?_cons_succ, Option.join_some, List.set_cons_zero, List.set_cons_succ, List.length_cons, List.length_nil, Res.bind, if_true, if_false, Nat.lt_irrefl, Bool.not_true, Bool.not_false, reduceIte, Bool.false_eq_true, toDs_val, trees_val, k42, k1, k2, k38, k39, k39', k3, f4, k4, q1, q2, evOs, parAsg, g0, mo4, mo4', mo3, mo3', mo2, mo2', mo2'', show (1 + 1 + 1 ≤ most) = True from eq_true (by decide), show (1 + 1 + 1 + 1 ≤ most) = True from eq_true (by decide), show 5 - 2 = 3 from rfl, List.cons_append, List.nil_append]
      rfl
    · rw [decide_eq_false h2] at q2
      refine ⟨29 / 2, ds.dropLast.dropLast.dropLast.dropLast, ⟨⟨B.lit (by decide +kernel), B.lit (by decide +kernel)⟩, by decide +kernel, by decide +kernel⟩, fun n => ?_⟩
      rw [show fr (29 / 2) = .tuple [.int 29, .int 2] by kernel_rfl]
      unfold fr at *
      simp only [callF, List.replicate, Nat.sub_self, List.append_nil, List.map_cons, List.map_nil, show Tb.fs[44]? = some f44 from rfl, f44, evS, exS, okb, stb, seqS, one, stepE_none, stepE_bl, stepE_int, stepE_str, stepE_var, stepE_glb, stepE_tup, stepE_lst, stepE_op1, stepE_op2, stepE_not, stepE_and, stepE_or, stepE_ite, stepE_chain, stepE_slice, stepE_call, evD, evDs, evArgs, optI, truthE, truth, O.tree, O.toD, O.trees, O.toDs, v_add, v_sub, v_le, v_lt, v_ge, v_gt, v_min, v_max, v_eq, v_ne, v_is, v_isnt, v_t20, v_t21, u_lenL, u_lenT2, beq_self_eq_true, decide_true, Nat.reduceAdd, Nat.reduceLT, Nat.zero_add, Bool.and_self, Bool.and_true, Bool.true_and, u_isT, u_int, u_intB, u_abs, u_neg, u_tupL, u_revT, seq?, setO, assignT, assignTs, isTy, List.getElem?_cons_zero, List.getElem?_cons_succ, Option.join_some, List.set_cons_zero, List.set_cons_succ, List.length_cons, List.length_nil, Res.bind, if_true, if_false, Nat.lt_irrefl, Bool.not_true, Bool.not_false, reduceIte, Bool.false_eq_true, toDs_val, trees_val, k42, k1, k2, k38, k39, k39', k3, f4, k4, q1, q2, evOs, parAsg, g0, mo4, mo4', mo3, mo3', mo2, mo2', mo2'', show (1 + 1 + 1 ≤ most) = True from eq_true (by decide), show (1 + 1 + 1 + 1 ≤ most) = True from eq_true (by decide), show 5 - 2 = 3 from rfl, List.cons_append, List.nil_append]
      rfl
  · rw [decide_eq_false h1] at q1
    refine ⟨29 / 2, ds.dropLast.dropLast.dropLast.dropLast, ⟨⟨B.lit (by decide +kernel), B.lit (by decide +kernel)⟩, by decide +kernel, by decide +kernel⟩, fun n => ?_⟩
    rw [show fr (29 / 2) = .tuple [.int 29, .int 2] by kernel_rfl]
    unfold fr at *
    simp only [callF, List.replicate, Nat.sub_self, List.append_nil, List.map_cons, List.map_nil, show Tb.fs[44]? = some f44 from rfl, f44, evS, exS, okb, stb, seqS, one, stepE_none, stepE_bl, stepE_int, stepE_str, stepE_var, stepE_glb, stepE_tup, stepE_lst, stepE_op1, stepE_op2, stepE_not, stepE_and, stepE_or, stepE_ite, stepE_chain, stepE_slice, stepE_call, evD, evDs, evArgs, optI, truthE, truth, O.tree, O.toD, O.trees, O.toDs, v_add, v_sub, v_le, v_lt, v_ge, v_gt, v_min, v_max, v_eq, v_ne, v_is, v_isnt, v_t20, v_t21, u_lenL, u_lenT2, beq_self_eq_true, decide_true, Nat.reduceAdd, Nat.reduceLT, Nat.zero_add, Bool.and_self, Bool.and_true, Bool.true_and, u_isT, u_int, u_intB, u_abs, u_neg, u_tupL, u_revT, seq?, setO, assignT, assignTs, isTy, List.getElem?_cons_zero, List.getElem?_cons_succ, Option.join_some, List.set_cons_zero, List.set_cons_succ, List.length_cons, List.length_nil, Res.bind, if_true, if_false, Nat.lt_irrefl, Bool.not_true, Bool.not_false, reduceIte, Bool.false_eq_true, toDs_val, trees_val, k42, k1, k2, k38, k39, k39', k3, f4, k4, q1, q2, evOs, parAsg, g0, mo4, mo4', mo3, mo3', mo2, mo2', mo2'', show (1 + 1 + 1 ≤ most) = True from eq_true (by decide), show (1 + 1 + 1 + 1 ≤ most) = True from eq_true (by decide), show 5 - 2 = 3 from rfl, List.cons_append, List.nil_append]
    rfl
/-! what repr tells -/
theorem len_int {i : Int} {k : Nat} (h : B k i) (hk : 0 < k) : (PyData.shown (.int i)).length ≤ k + 1 := by
  have h1 : i.natAbs.log2 < k := by
    by_cases h0 : i.natAbs = 0
    · rw [h0]; exact hk
    · exact (Nat.log2_lt h0).mpr h
  have h2 := PySem.int_text_length_le hk h1
  unfold PyData.shown
  rw [ofString_length]
  exact h2
theorem shown_tup2 (a b : D) : PyData.shown (.tuple [a, b]) = tupleText [a.shown, b.shown] := by
  rw [PyData.shown, PyData.shownAll, PyData.shownAll, PyData.shownAll]
theorem shown_list4 (a b c d : D) : PyData.shown (.list [a, b, c, d]) = listText [a.shown, b.shown, c.shown, d.shown] := by
  rw [PyData.shown, PyData.shownAll, PyData.shownAll, PyData.shownAll, PyData.shownAll, PyData.shownAll]
theorem len_fr {x : Rat} {k : Nat} (h : Bq k x) (hk : 0 < k) : (PyData.shown (fr x)).length ≤ 2 * k + 6 := by
  have h1 := len_int h.n hk
  have h2 := len_int h.d hk
  rw [shown_tup2]
  generalize PyData.shown (.int x.num) = A at *
  generalize PyData.shown (.int (x.den : Int)) = C at *
  show (("(" : Str) ++ (A ++ ", " ++ C) ++ ((if ([A, C] : List Str).length == 1 then ",)" else ")" : String) : Str)).length ≤ _
  have e1 : ((("(" : String) : Str)).length = 1 := rfl
  have e2 : (((", " : String) : Str)).length = 2 := rfl
  have e3 : (((if ([A, C] : List Str).length == 1 then ",)" else ")" : String) : Str)).length = 1 := rfl
  rw [strLen_append, strLen_append, strLen_append, strLen_append, e1, e2, e3]
  omega
abbrev got3 (x y : Rat) : D := .list [.bool true, fr x, fr y, .bool true]
theorem len_got {x y : Rat} (hx : Bq 100 x) (hy : Bq 100 y) : (PyData.shown (got3 x y)).length ≤ 1000000 := by
  have h1 := len_fr hx (by decide)
  have h2 := len_fr hy (by decide)
  have e0 := shown_list4 (.bool true) (fr x) (fr y) (.bool true)
  have e1 : (PyData.shown (.bool true)).length = 4 := rfl
  rw [e0]
  generalize PyData.shown (fr x) = A at *
  generalize PyData.shown (fr y) = C at *
  generalize PyData.shown (.bool true) = T at *
  show (("[" : Str) ++ (("" : String) : Str) ++ T ++ ((", " : String) : Str) ++ A ++ ((", " : String) : Str) ++ C ++ ((", " : String) : Str) ++ T ++ (("]" : String) : Str)).length ≤ _
  have e2 : ((("[" : String) : Str)).length = 1 := rfl
  have e3 : (((", " : String) : Str)).length = 2 := rfl
  have e4 : ((("" : String) : Str)).length = 0 := rfl
  have e5 : ((("]" : String) : Str)).length = 1 := rfl
  simp only [strLen_append, e1, e2, e3, e4, e5]
  omega
theorem log_B {i : Int} {k : Nat} (h : B k i) (hk : 0 < k) (hk2 : k ≤ 1920) : decide (i.natAbs.log2 < 1920) = true := by
  refine decide_eq_true (Nat.lt_of_lt_of_le ?_ hk2)
  by_cases h0 : i.natAbs = 0
  · rw [h0]; exact hk
  · exact (Nat.log2_lt h0).mpr h
theorem u_repr3 {x y : Rat} (hx : Bq 100 x) (hy : Bq 100 y) : ev1 .repr (got3 x y) = some (.val (.str (PyData.shown (got3 x y)))) := by
  have h1 := log_B hx.n (by decide) (by decide)
  have h2 := log_B hx.d (by decide) (by decide)
  have h3 := log_B hy.n (by decide) (by decide)
  have h4 := log_B hy.d (by decide) (by decide)
  have h5 : decide ((PyData.shown (got3 x y)).length ≤ 1000000) = true := decide_eq_true (len_got hx hy)
  have h6 : (got3 x y).showable = true := by
    show (true && ((decide (x.num.natAbs.log2 < 1920) && (decide ((x.den : Int).natAbs.log2 < 1920) && true)) && ((decide (y.num.natAbs.log2 < 1920) && (decide ((y.den : Int).natAbs.log2 < 1920) && true)) && (true && true)))) = true
    rw [h1, h2, h3, h4]; rfl
  have h7 : reprOk (got3 x y) = true := by
    show (true && (true && ((got3 x y).showable && (true && (decide ((got3 x y).depth ≤ 50) && decide ((PyData.shown (got3 x y)).length ≤ 1000000)))))) = true
    rw [h5, h6]
    rfl
  show (if reprOk (got3 x y) = true then some (O.val (.str (PyData.shown (got3 x y)))) else none) = _
  rw [if_pos h7]
theorem v_neS (S : Str) : ev2 .ne (.str S) (.str S) = some (.val (.bool false)) := by
  have h : (PyData.plain (.str S) && PyData.plain (.str S) && decide ((PyData.str S).depth ≤ 20)) = true := rfl
  have e : PyData.eqv (.str S) (.str S) = true := by simp [PyData.eqv]
  simp only [ev2]
  rw [if_pos h, e]
  rfl
end Hd

end
section
set_option autoImplicit false
set_option linter.all false
set_option maxRecDepth 100000
set_option maxHeartbeats 1000000
namespace Hd
open PySem Ev
abbrev T47_1 : Ev.S := (.asg (.nm 3) (.call 41 [(.lend 1), (.int 400)]))
abbrev T47_2 : Ev.S := (.asg (.nm 4) (.call 44 [(.lend 1), (.var 3)]))
abbrev T47_3 : Ev.S := (.par [12, 13] [false, false] [(.call 15 [(.var 3), (.var 4)]), (.call 14 [(.var 3)])])
abbrev T47_4 : Ev.S := (.ifS (.op2 .ne (.op1 .repr (.lst [(.call 7 [(.var 3)]), (.var 13), (.var 12), (.call 34 [(.var 3), (.var 4), (.op2 .idx (.var 12) (.int 0)), (.op2 .idx (.var 12) (.int 1))])])) (.op1 .repr (.lst [(.bl true), (.call 42 [(.var 3)]), (.call 43 [(.var 3), (.var 4)]), (.bl true)]))) [(.ret (.bl false))] [])
abbrev T47_5 : Ev.S := (.asg (.tup [(.nm 14), (.nm 15)]) (.call 38 [(.op2 .add (.int 1) (.call 36 [(.lend 1), (.int 4000)])), (.op2 .add (.int 1) (.call 36 [(.lend 1), (.int 9)]))]))
abbrev T47_6 : Ev.S := (.asg (.nm 5) (.call 16 [(.var 3), (.var 4), (.var 14), (.var 15)]))
abbrev T47_7 : Ev.S := (.ifS (.op2 .ne (.op2 .is (.var 5) .none) (.op2 .eq (.op2 .idx (.var 12) (.int 0)) (.int 0))) [(.ret (.bl false))] [])
abbrev T47_8 : Ev.S := (.ifS (.and (.op2 .isnt (.var 5) .none) (.not (.call 40 [(.tup [(.op2 .mul (.op1 .abs (.op2 .idx (.var 12) (.int 0))) (.var 5)), (.op2 .idx (.var 12) (.int 1))]), (.tup [(.var 14), (.var 15)])]))) [(.ret (.bl false))] [])
abbrev T47_9 : Ev.S := (.ifS (.and (.op2 .isnt (.var 5) .none) (.call 40 [(.tup [(.op2 .mul (.op1 .abs (.op2 .idx (.var 12) (.int 0))) (.op2 .add (.var 5) (.int 1))), (.op2 .idx (.var 12) (.int 1))]), (.tup [(.var 14), (.var 15)])])) [(.ret (.bl false))] [])
abbrev T47_10 : Ev.S := (.forS (.nm 6) (.range (.int 6)) [(.par [19, 20] [false, false] [(.call 37 [(.lend 1), (.lst [(.call 36 [(.lend 1), (.op2 .pow (.int 10) (.int 9))]), (.call 36 [(.lend 1), (.int 3000)])])]), (.op2 .add (.int 1) (.call 36 [(.lend 1), (.int 100)]))]), (.par [21, 22] [false, false] [(.call 26 [(.var 3), (.var 19)]), (.call 31 [(.var 3), (.var 19)])]), (.ifS (.or (.op2 .ne (.var 21) (.op2 .mod (.op1 .int (.op2 .mul (.var 22) (.op2 .idx (.var 3) (.int 1)))) (.op2 .idx (.var 3) (.int 0)))) (.or (.not (.chain .le .lt (.op2 .mul (.var 22) (.op2 .idx (.var 3) (.int 2))) (.var 19) (.op2 .mul (.op2 .add (.var 22) (.int 1)) (.op2 .idx (.var 3) (.int 2))))) (.op2 .ne (.call 26 [(.var 3), (.op2 .add (.var 19) (.op2 .mul (.op2 .idx (.var 3) (.int 0)) (.op2 .idx (.var 3) (.int 2))))]) (.var 21)))) [(.ret (.bl false))] []), (.ifS (.or (.op2 .ne (.call 27 [(.var 3), (.var 21), (.var 19)]) (.var 19)) (.op2 .ne (.call 28 [(.var 3), (.var 19), (.var 20)]) (.op2 .fdiv (.op2 .mul (.var 21) (.var 20)) (.op2 .idx (.var 3) (.int 0))))) [(.ret (.bl false))] []), (.asg (.nm 16) (.call 36 [(.lend 1), (.op2 .idx (.var 3) (.int 0))])), (.asg (.nm 17) (.call 27 [(.var 3), (.var 16), (.var 19)])), (.ifS (.and (.op2 .is (.var 17) .none) (.call 32 [(.var 3)])) [(.ret (.bl false))] []), (.ifS (.and (.op2 .isnt (.var 17) .none) (.or (.op2 .ne (.call 26 [(.var 3), (.var 17)]) (.var 16)) (.or (.op2 .lt (.var 17) (.var 19)) (.op2 .gt (.var 17) (.op2 .add (.var 19) (.op2 .mul (.op2 .idx (.var 3) (.int 0)) (.op2 .idx (.var 3) (.int 2)))))))) [(.ret (.bl false))] []), (.ifS (.and (.op2 .isnt (.var 17) .none) (.and (.op2 .gt (.var 17) (.var 19)) (.op2 .eq (.call 26 [(.var 3), (.op2 .sub (.var 17) (.int 1))]) (.var 16)))) [(.ret (.bl false))] []), (.forS (.nm 18) (.range (.int 6)) [(.asg (.nm 23) (.op2 .add (.var 19) (.call 36 [(.lend 1), (.op2 .mul (.op2 .idx (.var 3) (.int 0)) (.op2 .idx (.var 3) (.int 2)))]))), (.ifS (.and (.op2 .eq (.call 26 [(.var 3), (.var 23)]) (.var 16)) (.or (.op2 .is (.var 17) .none) (.op2 .lt (.var 23) (.var 17)))) [(.ret (.bl false))] [])])])
abbrev T47_11 : Ev.S := (.asg (.nm 7) (.call 36 [(.lend 1), (.int 1001)]))
abbrev T47_12 : Ev.S := (.asg (.nm 8) (.call 29 [(.var 3), (.var 4), (.var 7)]))
abbrev T47_13 : Ev.S := (.asg (.nm 9) (.call 38 [(.op2 .mul (.op2 .mul (.op2 .idx (.var 12) (.int 0)) (.var 7)) (.op2 .idx (.var 3) (.int 1))), (.op2 .mul (.op2 .idx (.var 12) (.int 1)) (.op2 .idx (.var 3) (.int 2)))]))
abbrev T47_14 : Ev.S := (.asg (.nm 10) (.op1 .abs (.op2 .sub (.op2 .mul (.var 8) (.op2 .idx (.var 9) (.int 1))) (.op2 .idx (.var 9) (.int 0)))))
abbrev T47_15 : Ev.S := (.ifS (.or (.op2 .gt (.op2 .mul (.int 2) (.var 10)) (.op2 .idx (.var 9) (.int 1))) (.or (.and (.op2 .eq (.op2 .mul (.int 2) (.var 10)) (.op2 .idx (.var 9) (.int 1))) (.op2 .gt (.op2 .mul (.op1 .abs (.var 8)) (.op2 .idx (.var 9) (.int 1))) (.op1 .abs (.op2 .idx (.var 9) (.int 0))))) (.or (.op2 .lt (.op2 .mul (.var 8) (.op2 .idx (.var 9) (.int 0))) (.int 0)) (.op2 .ne (.call 29 [(.var 3), (.var 4), (.int 0)]) (.int 0))))) [(.ret (.bl false))] [])
abbrev T47_16 : Ev.S := (.asg (.nm 11) (.tup [(.op2 .idx (.var 3) (.int 0)), (.op2 .idx (.var 3) (.int 1)), (.op2 .idx (.var 3) (.int 2))]))
abbrev T47_17 : Ev.S := (.ifS (.op2 .le (.op2 .idx (.var 3) (.int 0)) (.int 200)) [(.asg (.nm 11) (.tup [(.op2 .mul (.op2 .idx (.var 3) (.int 0)) (.int 2)), (.op2 .mul (.op2 .idx (.var 3) (.int 1)) (.int 2)), (.op2 .idx (.var 3) (.int 2))]))] [])
abbrev T47_18 : Ev.S := (.ifS (.or (.not (.call 30 [(.var 3), (.var 11)])) (.or (.op2 .ne (.call 15 [(.var 11), (.var 4)]) (.var 12)) (.op2 .ne (.call 16 [(.var 11), (.var 4), (.var 14), (.var 15)]) (.var 5)))) [(.ret (.bl false))] [])
abbrev E47 (ns ds : List Int) (a2 a3 a4 a5 a6 a7 a8 a9 a10 a11 a12 a13 a14 a15 a16 a17 a18 a19 a20 a21 a22 a23 : Option O) : Ev.Env := [some (.scr ns), some (dr ds), a2, a3, a4, a5, a6, a7, a8, a9, a10, a11, a12, a13, a14, a15, a16, a17, a18, a19, a20, a21, a22, a23]
theorem mo5 : (1 + 1 + 1 ≤ most) = True := eq_true (by decide)
theorem mo6 : (1 + 1 + 1 + 1 ≤ most) = True := eq_true (by decide)
theorem g1 (d e : Option O) (l : Ev.Env) : (d :: e :: l)[1]? = some e := rfl
section
variable (ns ds : List Int) (a2 a3 a4 a5 a6 a7 a8 a9 a10 a11 a12 a13 a14 a15 a16 a17 a18 a19 a20 a21 a22 a23 : Option O)
theorem t47_1 : ∃ t s e ds', Dc t s e ∧ ∀ n, Ev.one Tb (evN Tb (n + 169)) (exN Tb (n + 169)) T47_1 (E47 ns ds a2 a3 a4 a5 a6 a7 a8 a9 a10 a11 a12 a13 a14 a15 a16 a17 a18 a19 a20 a21 a22 a23) = .ok (.next, (E47 ns ds' a2 (some (.val (dc t s e))) a4 a5 a6 a7 a8 a9 a10 a11 a12 a13 a14 a15 a16 a17 a18 a19 a20 a21 a22 a23)) := by
  obtain ⟨t, s, e, ds', d, h⟩ := r41 ds
  refine ⟨t, s, e, ds', d, fun n => ?_⟩
  have k41 : ∀ m (o : Option O) (l : Ev.Env), callA Tb (exN Tb (m + 60)) 41 [(some 1, .none), (none, .int 400)] (o :: some (dr ds) :: l) = .ok (.val (dc t s e), o :: some (dr ds') :: l) := fun m o l => callA_run (by simp [lent]) rfl rfl (h m)
  unfold T47_1 E47
  simp only [evS, exS, okb, stb, seqS, one, stepE_none, stepE_bl, stepE_int, stepE_str, stepE_var, stepE_glb, stepE_tup, stepE_lst, stepE_op1, stepE_op2, stepE_not, stepE_and, stepE_or, stepE_ite, stepE_chain, stepE_slice, stepE_call, evD, evDs, evArgs, optI, truthE, truth, O.tree, O.toD, O.trees, O.toDs, v_add, v_sub, v_le, v_lt, v_ge, v_gt, v_min, v_max, v_eq, v_ne, v_is, v_isnt, v_t20, v_t21, u_lenL, u_lenT2, beq_self_eq_true, decide_true, Nat.reduceAdd, Nat.reduceLT, Nat.zero_add, Bool.and_self, Bool.and_true, Bool.true_and, u_isT, u_int, u_intB, u_abs, u_neg, u_tupL, u_revT, seq?, setO, assignT, assignTs, isTy, List.getElem?_cons_zero, List.getElem?_cons_succ, Option.join_some, List.set_cons_zero, List.set_cons_succ, List.length_cons, List.length_nil, Res.bind, if_true, if_false, Nat.lt_irrefl, Bool.not_true, Bool.not_false, reduceIte, Bool.false_eq_true, toDs_val, trees_val, k41, g1]
variable {t s e : Int} (d : Dc t s e)
include d
theorem t47_2 : ∃ c ds', Tr c ∧ ∀ n, Ev.one Tb (evN Tb (n + 169)) (exN Tb (n + 169)) T47_2 (E47 ns ds a2 (some (.val (dc t s e))) a4 a5 a6 a7 a8 a9 a10 a11 a12 a13 a14 a15 a16 a17 a18 a19 a20 a21 a22 a23) = .ok (.next, (E47 ns ds' a2 (some (.val (dc t s e))) (some (.val (fr c))) a5 a6 a7 a8 a9 a10 a11 a12 a13 a14 a15 a16 a17 a18 a19 a20 a21 a22 a23)) := by
  obtain ⟨c, ds', r, h⟩ := r44 ds d
  refine ⟨c, ds', r, fun n => ?_⟩
  have k44 : ∀ m (o : Option O) (l : Ev.Env), callA Tb (exN Tb (m + 80)) 44 [(some 1, .none), (none, dc t s e)] (o :: some (dr ds) :: l) = .ok (.val (fr c), o :: some (dr ds') :: l) := fun m o l => callA_run (by simp [lent]) rfl rfl (h m)
  unfold T47_2 E47
  simp only [evS, exS, okb, stb, seqS, one, stepE_none, stepE_bl, stepE_int, stepE_str, stepE_var, stepE_glb, stepE_tup, stepE_lst, stepE_op1, stepE_op2, stepE_not, stepE_and, stepE_or, stepE_ite, stepE_chain, stepE_slice, stepE_call, evD, evDs, evArgs, optI, truthE, truth, O.tree, O.toD, O.trees, O.toDs, v_add, v_sub, v_le, v_lt, v_ge, v_gt, v_min, v_max, v_eq, v_ne, v_is, v_isnt, v_t20, v_t21, u_lenL, u_lenT2, beq_self_eq_true, decide_true, Nat.reduceAdd, Nat.reduceLT, Nat.zero_add, Bool.and_self, Bool.and_true, Bool.true_and, u_isT, u_int, u_intB, u_abs, u_neg, u_tupL, u_revT, seq?, setO, assignT, assignTs, isTy, List.getElem?_cons_zero, List.getElem?_cons_succ, Option.join_some, List.set_cons_zero, List.set_cons_succ, List.length_cons, List.length_nil, Res.bind, if_true, if_false, Nat.lt_irrefl, Bool.not_true, Bool.not_false, reduceIte, Bool.false_eq_true, toDs_val, trees_val, k44, g1]
variable {c : Rat} (h : Tr c)
include h
theorem t47_3 (n : Nat) : Ev.one Tb (evN Tb (n + 169)) (exN Tb (n + 169)) T47_3 (E47 ns ds a2 (some (.val (dc t s e))) (some (.val (fr c))) a5 a6 a7 a8 a9 a10 a11 a12 a13 a14 a15 a16 a17 a18 a19 a20 a21 a22 a23) = .ok (.next, (E47 ns ds a2 (some (.val (dc t s e))) (some (.val (fr c))) a5 a6 a7 a8 a9 a10 a11 (some (.val (fr (dft t s e c)))) (some (.val (fr (rnd t s e)))) a14 a15 a16 a17 a18 a19 a20 a21 a22 a23)) := by
  have k15 := fun m' env => call2 (T := Tb) (n := m' + 80) env (r15 d h m')
  have k14 := fun m' env => call1 (T := Tb) (n := m' + 70) env (r14 d m')
  unfold T47_3 E47
  simp only [evS, exS, okb, stb, seqS, one, stepE_none, stepE_bl, stepE_int, stepE_str, stepE_var, stepE_glb, stepE_tup, stepE_lst, stepE_op1, stepE_op2, stepE_not, stepE_and, stepE_or, stepE_ite, stepE_chain, stepE_slice, stepE_call, evD, evDs, evArgs, optI, truthE, truth, O.tree, O.toD, O.trees, O.toDs, v_add, v_sub, v_le, v_lt, v_ge, v_gt, v_min, v_max, v_eq, v_ne, v_is, v_isnt, v_t20, v_t21, u_lenL, u_lenT2, beq_self_eq_true, decide_true, Nat.reduceAdd, Nat.reduceLT, Nat.zero_add, Bool.and_self, Bool.and_true, Bool.true_and, u_isT, u_int, u_intB, u_abs, u_neg, u_tupL, u_revT, seq?, setO, assignT, assignTs, isTy, List.getElem?_cons_zero, List.getElem?_cons_succ, Option.join_some, List.set_cons_zero, List.set_cons_succ, List.length_cons, List.length_nil, Res.bind, if_true, if_false, Nat.lt_irrefl, Bool.not_true, Bool.not_false, reduceIte, Bool.false_eq_true, toDs_val, trees_val, evOs, parAsg, k15, k14]
theorem t47_4 (n : Nat) : Ev.one Tb (evN Tb (n + 169)) (exN Tb (n + 169)) T47_4 (E47 ns ds a2 (some (.val (dc t s e))) (some (.val (fr c))) a5 a6 a7 a8 a9 a10 a11 (some (.val (fr (dft t s e c)))) (some (.val (fr (rnd t s e)))) a14 a15 a16 a17 a18 a19 a20 a21 a22 a23) = .ok (.next, (E47 ns ds a2 (some (.val (dc t s e))) (some (.val (fr c))) a5 a6 a7 a8 a9 a10 a11 (some (.val (fr (dft t s e c)))) (some (.val (fr (rnd t s e)))) a14 a15 a16 a17 a18 a19 a20 a21 a22 a23)) := by
  have k7 := fun m' env => call1 (T := Tb) (n := m' + 20) env (r7 m' d)
  have k34 := fun m' env => call4 (T := Tb) (n := m' + 80) env (r34 d h m')
  have k42 := fun m' env => call1 (T := Tb) (n := m' + 50) env (r42 d m')
  have k43 := fun m' env => call2 (T := Tb) (n := m' + 70) env (r43 d h m')
  have br : Bq 100 (rnd t s e) := d.br.mono (by decide)
  have bd : Bq 100 (dft t s e c) := (d.bd h).mono (by decide)
  have u := u_repr3 br bd
  unfold got3 at u
  generalize PyData.shown _ = S at u
  have v := v_neS S
  generalize dft t s e c = x at *
  generalize rnd t s e = y at *
  unfold T47_4 E47
  unfold fr at *
  simp only [evS, exS, okb, stb, seqS, one, stepE_none, stepE_bl, stepE_int, stepE_str, stepE_var, stepE_glb, stepE_tup, stepE_lst, stepE_op2, stepE_not, stepE_and, stepE_or, stepE_ite, stepE_chain, stepE_slice, stepE_call, evD, evDs, evArgs, optI, truthE, truth, O.tree, O.toD, O.trees, O.toDs, v_add, v_sub, v_le, v_lt, v_ge, v_gt, v_min, v_max, v_eq, v_ne, v_is, v_isnt, v_t20, v_t21, u_lenL, u_lenT2, beq_self_eq_true, decide_true, Nat.reduceAdd, Nat.reduceLT, Nat.zero_add, Bool.and_self, Bool.and_true, Bool.true_and, u_isT, u_int, u_intB, u_abs, u_neg, u_tupL, u_revT, seq?, setO, assignT, assignTs, isTy, List.getElem?_cons_zero, List.getElem?_cons_succ, Option.join_some, List.set_cons_zero, List.set_cons_succ, List.length_cons, List.length_nil, Res.bind, if_true, if_false, Nat.lt_irrefl, Bool.not_true, Bool.not_false, reduceIte, Bool.false_eq_true, toDs_val, trees_val, stepE_op1, k7, k34, k42, k43, u, v, mo4, mo4', mo3, mo3', mo2, mo2', mo2'', mo5, mo6, List.map_cons, List.map_nil]
theorem t47_5 : ∃ (w : Rat) (ds' : List Int), Bq 40 w ∧ 0 < w.num ∧ ∀ n, Ev.one Tb (evN Tb (n + 169)) (exN Tb (n + 169)) T47_5 (E47 ns ds a2 (some (.val (dc t s e))) (some (.val (fr c))) a5 a6 a7 a8 a9 a10 a11 (some (.val (fr (dft t s e c)))) (some (.val (fr (rnd t s e)))) a14 a15 a16 a17 a18 a19 a20 a21 a22 a23) = .ok (.next, (E47 ns ds' a2 (some (.val (dc t s e))) (some (.val (fr c))) a5 a6 a7 a8 a9 a10 a11 (some (.val (fr (dft t s e c)))) (some (.val (fr (rnd t s e)))) (some (.val (.int w.num))) (some (.val (.int (w.den : Int)))) a16 a17 a18 a19 a20 a21 a22 a23)) := by
  have a1 := tk_in ds (b := 4000) (by decide)
  have a2 := tk_in ds.dropLast (b := 9) (by decide)
  have k1 := fun m' o env => t36_1 m' ds (b := 4000) (by decide) o env
  have k2 := fun m' o env => t36_1 m' ds.dropLast (b := 9) (by decide) o env
  have k38 := fun m' env => call2 (T := Tb) (n := m' + 40) env (r38 m' (x := 1 + tk ds 4000) (y := 1 + tk ds.dropLast 9) (by omega) ((B.of (by omega) (by omega)).mono (by decide)))
  have bw : Bq 20 (((1 + tk ds 4000 : Int) : Rat) / ((1 + tk ds.dropLast 9 : Int) : Rat)) := .div (B.of (by omega) (by omega)) (B.of (by omega) (by omega)) (by omega)
  have w0 : 0 < (((1 + tk ds 4000 : Int) : Rat) / ((1 + tk ds.dropLast 9 : Int) : Rat)).num := by
    rw [rat_num (x := 1 + tk ds 4000) (y := 1 + tk ds.dropLast 9) (by omega)]
    have hg := gA_pos (x := 1 + tk ds 4000) (y := 1 + tk ds.dropLast 9) (by omega)
    exact Int.ediv_pos_of_pos_of_dvd (by omega) (by omega) (by unfold gA; exact Int.dvd_trans (Int.natCast_dvd_natCast.mpr (Nat.gcd_dvd_left _ _)) (by rw [Int.natAbs_dvd]; exact Int.dvd_refl _))
  refine ⟨_, ds.dropLast.dropLast, bw.mono (by decide), w0, fun n => ?_⟩
  generalize ((1 + tk ds 4000 : Int) : Rat) / ((1 + tk ds.dropLast 9 : Int) : Rat) = w at *
  unfold T47_5 E47
  simp only [evS, exS, okb, stb, seqS, one, stepE_none, stepE_bl, stepE_int, stepE_str, stepE_var, stepE_glb, stepE_tup, stepE_lst, stepE_op1, stepE_op2, stepE_not, stepE_and, stepE_or, stepE_ite, stepE_chain, stepE_slice, stepE_call, evD, evDs, evArgs, optI, truthE, truth, O.tree, O.toD, O.trees, O.toDs, v_add, v_sub, v_le, v_lt, v_ge, v_gt, v_min, v_max, v_eq, v_ne, v_is, v_isnt, v_t20, v_t21, u_lenL, u_lenT2, beq_self_eq_true, decide_true, Nat.reduceAdd, Nat.reduceLT, Nat.zero_add, Bool.and_self, Bool.and_true, Bool.true_and, u_isT, u_int, u_intB, u_abs, u_neg, u_tupL, u_revT, seq?, setO, assignT, assignTs, isTy, List.getElem?_cons_zero, List.getElem?_cons_succ, Option.join_some, List.set_cons_zero, List.set_cons_succ, List.length_cons, List.length_nil, Res.bind, if_true, if_false, Nat.lt_irrefl, Bool.not_true, Bool.not_false, reduceIte, Bool.false_eq_true, toDs_val, trees_val, k1, k2, k38, g1]
variable {w : Rat} (bw : Bq 40 w) (w0 : 0 < w.num)
include bw w0
theorem t47_6 (n : Nat) : Ev.one Tb (evN Tb (n + 169)) (exN Tb (n + 169)) T47_6 (E47 ns ds a2 (some (.val (dc t s e))) (some (.val (fr c))) a5 a6 a7 a8 a9 a10 a11 (some (.val (fr (dft t s e c)))) (some (.val (fr (rnd t s e)))) (some (.val (.int w.num))) (some (.val (.int (w.den : Int)))) a16 a17 a18 a19 a20 a21 a22 a23) = .ok (.next, (E47 ns ds a2 (some (.val (dc t s e))) (some (.val (fr c))) (some (.val (wnD (dft t s e c) w))) a6 a7 a8 a9 a10 a11 (some (.val (fr (dft t s e c)))) (some (.val (fr (rnd t s e)))) (some (.val (.int w.num))) (some (.val (.int (w.den : Int)))) a16 a17 a18 a19 a20 a21 a22 a23)) := by
  have k16 := fun m' env => call4 (T := Tb) (n := m' + 90) env (r16 d h m' bw w0)
  unfold T47_6 E47
  simp only [evS, exS, okb, stb, seqS, one, stepE_none, stepE_bl, stepE_int, stepE_str, stepE_var, stepE_glb, stepE_tup, stepE_lst, stepE_op1, stepE_op2, stepE_not, stepE_and, stepE_or, stepE_ite, stepE_chain, stepE_slice, stepE_call, evD, evDs, evArgs, optI, truthE, truth, O.tree, O.toD, O.trees, O.toDs, v_add, v_sub, v_le, v_lt, v_ge, v_gt, v_min, v_max, v_eq, v_ne, v_is, v_isnt, v_t20, v_t21, u_lenL, u_lenT2, beq_self_eq_true, decide_true, Nat.reduceAdd, Nat.reduceLT, Nat.zero_add, Bool.and_self, Bool.and_true, Bool.true_and, u_isT, u_int, u_intB, u_abs, u_neg, u_tupL, u_revT, seq?, setO, assignT, assignTs, isTy, List.getElem?_cons_zero, List.getElem?_cons_succ, Option.join_some, List.set_cons_zero, List.set_cons_succ, List.length_cons, List.length_nil, Res.bind, if_true, if_false, Nat.lt_irrefl, Bool.not_true, Bool.not_false, reduceIte, Bool.false_eq_true, toDs_val, trees_val, k16]
theorem t47_7 (n : Nat) : Ev.one Tb (evN Tb (n + 169)) (exN Tb (n + 169)) T47_7 (E47 ns ds a2 (some (.val (dc t s e))) (some (.val (fr c))) (some (.val (wnD (dft t s e c) w))) a6 a7 a8 a9 a10 a11 (some (.val (fr (dft t s e c)))) (some (.val (fr (rnd t s e)))) (some (.val (.int w.num))) (some (.val (.int (w.den : Int)))) a16 a17 a18 a19 a20 a21 a22 a23) = .ok (.next, (E47 ns ds a2 (some (.val (dc t s e))) (some (.val (fr c))) (some (.val (wnD (dft t s e c) w))) a6 a7 a8 a9 a10 a11 (some (.val (fr (dft t s e c)))) (some (.val (fr (rnd t s e)))) (some (.val (.int w.num))) (some (.val (.int (w.den : Int)))) a16 a17 a18 a19 a20 a21 a22 a23)) := by
  generalize dft t s e c = x at *
  unfold wnD
  by_cases h0 : x.num = 0
  · have e2 : (x.num == 0) = true := by rw [beq_iff_eq]; exact h0
    have e3 : ev2 .ne (.bool true) (.bool true) = some (.val (.bool false)) := rfl
    rw [if_pos h0]
    unfold T47_7 E47
    simp only [evS, exS, okb, stb, seqS, one, stepE_none, stepE_bl, stepE_int, stepE_str, stepE_var, stepE_glb, stepE_tup, stepE_lst, stepE_op1, stepE_op2, stepE_not, stepE_and, stepE_or, stepE_ite, stepE_chain, stepE_slice, stepE_call, evD, evDs, evArgs, optI, truthE, truth, O.tree, O.toD, O.trees, O.toDs, v_add, v_sub, v_le, v_lt, v_ge, v_gt, v_min, v_max, v_eq, v_ne, v_is, v_isnt, v_t20, v_t21, u_lenL, u_lenT2, beq_self_eq_true, decide_true, Nat.reduceAdd, Nat.reduceLT, Nat.zero_add, Bool.and_self, Bool.and_true, Bool.true_and, u_isT, u_int, u_intB, u_abs, u_neg, u_tupL, u_revT, seq?, setO, assignT, assignTs, isTy, List.getElem?_cons_zero, List.getElem?_cons_succ, Option.join_some, List.set_cons_zero, List.set_cons_succ, List.length_cons, List.length_nil, Res.bind, if_true, if_false, Nat.lt_irrefl, Bool.not_true, Bool.not_false, reduceIte, Bool.false_eq_true, toDs_val, trees_val, e2, e3, isN_none]
  · have e2 : (x.num == 0) = false := by rw [beq_eq_false_iff_ne]; exact h0
    have e3 : ev2 .ne (.bool false) (.bool false) = some (.val (.bool false)) := rfl
    rw [if_neg h0]
    unfold T47_7 E47
    simp only [evS, exS, okb, stb, seqS, one, stepE_none, stepE_bl, stepE_int, stepE_str, stepE_var, stepE_glb, stepE_tup, stepE_lst, stepE_op1, stepE_op2, stepE_not, stepE_and, stepE_or, stepE_ite, stepE_chain, stepE_slice, stepE_call, evD, evDs, evArgs, optI, truthE, truth, O.tree, O.toD, O.trees, O.toDs, v_add, v_sub, v_le, v_lt, v_ge, v_gt, v_min, v_max, v_eq, v_ne, v_is, v_isnt, v_t20, v_t21, u_lenL, u_lenT2, beq_self_eq_true, decide_true, Nat.reduceAdd, Nat.reduceLT, Nat.zero_add, Bool.and_self, Bool.and_true, Bool.true_and, u_isT, u_int, u_intB, u_abs, u_neg, u_tupL, u_revT, seq?, setO, assignT, assignTs, isTy, List.getElem?_cons_zero, List.getElem?_cons_succ, Option.join_some, List.set_cons_zero, List.set_cons_succ, List.length_cons, List.length_nil, Res.bind, if_true, if_false, Nat.lt_irrefl, Bool.not_true, Bool.not_false, reduceIte, Bool.false_eq_true, toDs_val, trees_val, e2, e3, isN_int]
theorem wn_ok {x : Rat} (h0 : x.num ≠ 0) : 0 ≤ wn x w ∧ iab x.num * wn x w * (w.den : Int) ≤ w.num * (x.den : Int) ∧ w.num * (x.den : Int) < iab x.num * (wn x w + 1) * (w.den : Int) := by
  have hp : 0 < (w.den : Int) * iab x.num := Int.mul_pos (dpos w) (by unfold iab; split <;> omega)
  have h1 := Int.ediv_mul_le (w.num * (x.den : Int)) (show (w.den : Int) * iab x.num ≠ 0 by omega)
  have h2 := Int.lt_ediv_add_one_mul_self (w.num * (x.den : Int)) hp
  have h3 : 0 ≤ wn x w := Int.ediv_nonneg (Int.mul_nonneg (by omega) (by omega)) (by omega)
  unfold wn at *
  generalize w.num * (x.den : Int) / ((w.den : Int) * iab x.num) = q at *
  refine ⟨h3, ?_, ?_⟩
  · rw [show iab x.num * q * (w.den : Int) = q * ((w.den : Int) * iab x.num) by grind]; exact h1
  · rw [show iab x.num * (q + 1) * (w.den : Int) = (q + 1) * ((w.den : Int) * iab x.num) by grind]; exact h2
theorem wn_B {x : Rat} (bx : Bq 81 x) (h0 : x.num ≠ 0) : B 130 (wn x w) := by
  unfold wn
  have := bw.n.mul bx.d
  unfold B at *
  exact Nat.lt_of_lt_of_le (Nat.lt_of_le_of_lt (Int.natAbs_ediv_le_natAbs _ _) this) (Nat.pow_le_pow_right (by decide) (by decide))
theorem t47_8 (n : Nat) : Ev.one Tb (evN Tb (n + 169)) (exN Tb (n + 169)) T47_8 (E47 ns ds a2 (some (.val (dc t s e))) (some (.val (fr c))) (some (.val (wnD (dft t s e c) w))) a6 a7 a8 a9 a10 a11 (some (.val (fr (dft t s e c)))) (some (.val (fr (rnd t s e)))) (some (.val (.int w.num))) (some (.val (.int (w.den : Int)))) a16 a17 a18 a19 a20 a21 a22 a23) = .ok (.next, (E47 ns ds a2 (some (.val (dc t s e))) (some (.val (fr c))) (some (.val (wnD (dft t s e c) w))) a6 a7 a8 a9 a10 a11 (some (.val (fr (dft t s e c)))) (some (.val (fr (rnd t s e)))) (some (.val (.int w.num))) (some (.val (.int (w.den : Int)))) a16 a17 a18 a19 a20 a21 a22 a23)) := by
  have bx := d.bd h
  generalize dft t s e c = x at *
  unfold wnD
  by_cases h0 : x.num = 0
  · rw [if_pos h0]
    unfold T47_8 E47
    simp only [evS, exS, okb, stb, seqS, one, stepE_none, stepE_bl, stepE_int, stepE_str, stepE_var, stepE_glb, stepE_tup, stepE_lst, stepE_op1, stepE_op2, stepE_not, stepE_and, stepE_or, stepE_ite, stepE_chain, stepE_slice, stepE_call, evD, evDs, evArgs, optI, truthE, truth, O.tree, O.toD, O.trees, O.toDs, v_add, v_sub, v_le, v_lt, v_ge, v_gt, v_min, v_max, v_eq, v_ne, v_is, v_isnt, v_t20, v_t21, u_lenL, u_lenT2, beq_self_eq_true, decide_true, Nat.reduceAdd, Nat.reduceLT, Nat.zero_add, Bool.and_self, Bool.and_true, Bool.true_and, u_isT, u_int, u_intB, u_abs, u_neg, u_tupL, u_revT, seq?, setO, assignT, assignTs, isTy, List.getElem?_cons_zero, List.getElem?_cons_succ, Option.join_some, List.set_cons_zero, List.set_cons_succ, List.length_cons, List.length_nil, Res.bind, if_true, if_false, Nat.lt_irrefl, Bool.not_true, Bool.not_false, reduceIte, Bool.false_eq_true, toDs_val, trees_val, isnN_none]
  · have hw := wn_ok d h bw w0 h0
    have b := wn_B d h bw w0 bx h0
    rw [if_neg h0]
    have m1 := vM bx.n.iab b
    have k40 := fun m' env => call2 (T := Tb) (n := m' + 9) env (r40i m' (a := (if x.num < 0 then -x.num else x.num) * wn x w) (b := (x.den : Int)) (c := w.num) (d := (w.den : Int)) ((bx.n.iab.mul b).mono (by decide)) (bx.d.mono (by decide)) (bw.n.mono (by decide)) (bw.d.mono (by decide)))
    rw [decide_eq_true (show (if x.num < 0 then -x.num else x.num) * wn x w * (w.den : Int) ≤ w.num * (x.den : Int) from hw.2.1)] at k40
    generalize wn x w = q at *
    unfold T47_8 E47
    simp only [evS, exS, okb, stb, seqS, one, stepE_none, stepE_bl, stepE_int, stepE_str, stepE_var, stepE_glb, stepE_tup, stepE_lst, stepE_op1, stepE_op2, stepE_not, stepE_and, stepE_or, stepE_ite, stepE_chain, stepE_slice, stepE_call, evD, evDs, evArgs, optI, truthE, truth, O.tree, O.toD, O.trees, O.toDs, v_add, v_sub, v_le, v_lt, v_ge, v_gt, v_min, v_max, v_eq, v_ne, v_is, v_isnt, v_t20, v_t21, u_lenL, u_lenT2, beq_self_eq_true, decide_true, Nat.reduceAdd, Nat.reduceLT, Nat.zero_add, Bool.and_self, Bool.and_true, Bool.true_and, u_isT, u_int, u_intB, u_abs, u_neg, u_tupL, u_revT, seq?, setO, assignT, assignTs, isTy, List.getElem?_cons_zero, List.getElem?_cons_succ, Option.join_some, List.set_cons_zero, List.set_cons_succ, List.length_cons, List.length_nil, Res.bind, if_true, if_false, Nat.lt_irrefl, Bool.not_true, Bool.not_false, reduceIte, Bool.false_eq_true, toDs_val, trees_val, isnN_int, m1, k40, mo4, mo4', mo3, mo3', mo2, mo2', mo2'', mo5, mo6]
theorem t47_9 (n : Nat) : Ev.one Tb (evN Tb (n + 169)) (exN Tb (n + 169)) T47_9 (E47 ns ds a2 (some (.val (dc t s e))) (some (.val (fr c))) (some (.val (wnD (dft t s e c) w))) a6 a7 a8 a9 a10 a11 (some (.val (fr (dft t s e c)))) (some (.val (fr (rnd t s e)))) (some (.val (.int w.num))) (some (.val (.int (w.den : Int)))) a16 a17 a18 a19 a20 a21 a22 a23) = .ok (.next, (E47 ns ds a2 (some (.val (dc t s e))) (some (.val (fr c))) (some (.val (wnD (dft t s e c) w))) a6 a7 a8 a9 a10 a11 (some (.val (fr (dft t s e c)))) (some (.val (fr (rnd t s e)))) (some (.val (.int w.num))) (some (.val (.int (w.den : Int)))) a16 a17 a18 a19 a20 a21 a22 a23)) := by
  have bx := d.bd h
  generalize dft t s e c = x at *
  unfold wnD
  by_cases h0 : x.num = 0
  · rw [if_pos h0]
    unfold T47_9 E47
    simp only [evS, exS, okb, stb, seqS, one, stepE_none, stepE_bl, stepE_int, stepE_str, stepE_var, stepE_glb, stepE_tup, stepE_lst, stepE_op1, stepE_op2, stepE_not, stepE_and, stepE_or, stepE_ite, stepE_chain, stepE_slice, stepE_call, evD, evDs, evArgs, optI, truthE, truth, O.tree, O.toD, O.trees, O.toDs, v_add, v_sub, v_le, v_lt, v_ge, v_gt, v_min, v_max, v_eq, v_ne, v_is, v_isnt, v_t20, v_t21, u_lenL, u_lenT2, beq_self_eq_true, decide_true, Nat.reduceAdd, Nat.reduceLT, Nat.zero_add, Bool.and_self, Bool.and_true, Bool.true_and, u_isT, u_int, u_intB, u_abs, u_neg, u_tupL, u_revT, seq?, setO, assignT, assignTs, isTy, List.getElem?_cons_zero, List.getElem?_cons_succ, Option.join_some, List.set_cons_zero, List.set_cons_succ, List.length_cons, List.length_nil, Res.bind, if_true, if_false, Nat.lt_irrefl, Bool.not_true, Bool.not_false, reduceIte, Bool.false_eq_true, toDs_val, trees_val, isnN_none]
  · have hw := wn_ok d h bw w0 h0
    have b : B 131 (wn x w + 1) := (wn_B d h bw w0 bx h0).add (B.lit (k := 130) (i := 1) (by decide))
    rw [if_neg h0]
    have m1 := vM bx.n.iab b
    have k40 := fun m' env => call2 (T := Tb) (n := m' + 9) env (r40i m' (a := (if x.num < 0 then -x.num else x.num) * (wn x w + 1)) (b := (x.den : Int)) (c := w.num) (d := (w.den : Int)) ((bx.n.iab.mul b).mono (by decide)) (bx.d.mono (by decide)) (bw.n.mono (by decide)) (bw.d.mono (by decide)))
    rw [decide_eq_false (show ¬ (if x.num < 0 then -x.num else x.num) * (wn x w + 1) * (w.den : Int) ≤ w.num * (x.den : Int) from Int.not_le.mpr hw.2.2)] at k40
    generalize wn x w = q at *
    unfold T47_9 E47
    simp only [evS, exS, okb, stb, seqS, one, stepE_none, stepE_bl, stepE_int, stepE_str, stepE_var, stepE_glb, stepE_tup, stepE_lst, stepE_op1, stepE_op2, stepE_not, stepE_and, stepE_or, stepE_ite, stepE_chain, stepE_slice, stepE_call, evD, evDs, evArgs, optI, truthE, truth, O.tree, O.toD, O.trees, O.toDs, v_add, v_sub, v_le, v_lt, v_ge, v_gt, v_min, v_max, v_eq, v_ne, v_is, v_isnt, v_t20, v_t21, u_lenL, u_lenT2, beq_self_eq_true, decide_true, Nat.reduceAdd, Nat.reduceLT, Nat.zero_add, Bool.and_self, Bool.and_true, Bool.true_and, u_isT, u_int, u_intB, u_abs, u_neg, u_tupL, u_revT, seq?, setO, assignT, assignTs, isTy, List.getElem?_cons_zero, List.getElem?_cons_succ, Option.join_some, List.set_cons_zero, List.set_cons_succ, List.length_cons, List.length_nil, Res.bind, if_true, if_false, Nat.lt_irrefl, Bool.not_true, Bool.not_false, reduceIte, Bool.false_eq_true, toDs_val, trees_val, isnN_int, m1, k40, mo4, mo4', mo3, mo3', mo2, mo2', mo2'', mo5, mo6]
end
end Hd

end
section
set_option autoImplicit false
set_option linter.all false
set_option maxRecDepth 100000
set_option maxHeartbeats 1000000
namespace Hd
open PySem Ev
theorem num_of {x y : Int} (hy : 0 < y) : ∃ g : Int, 0 < g ∧ x = g * ((x : Rat) / (y : Rat)).num ∧ y = g * (((x : Rat) / (y : Rat)).den : Int) := by
  have hg := gA_pos (x := x) hy
  have d1 : gA x y ∣ x := by
    unfold gA
    exact Int.dvd_trans (Int.natCast_dvd_natCast.mpr (Nat.gcd_dvd_left _ _)) (by rw [Int.natAbs_dvd]; exact Int.dvd_refl _)
  have d2 : gA x y ∣ y := by
    unfold gA
    exact Int.dvd_trans (Int.natCast_dvd_natCast.mpr (Nat.gcd_dvd_right _ _)) (by rw [Int.natAbs_dvd]; exact Int.dvd_refl _)
  refine ⟨gA x y, hg.1, ?_, ?_⟩
  · rw [rat_num hy, Int.mul_ediv_cancel' d1]
  · rw [rat_den hy, Int.mul_ediv_cancel' d2]
/-- what is off, told by the drift and told by the parts -/
abbrev offQ (t s e : Int) (c : Rat) (k : Int) : Rat := (((dft t s e c).num * k * s : Int) : Rat) / ((((dft t s e c).den : Int) * e : Int) : Rat)
theorem offI {t s e : Int} (d : Dc t s e) (c : Rat) (k : Int) : offQ t s e c k = ((nC t s e c k : Int) : Rat) / ((dC e c : Int) : Rat) := by
  have s0 := d.s0
  have e0 := d.e0
  refine divq (Int.mul_pos (dpos _) (by omega)) ?_
  have h1 := num_den (dft t s e c)
  have h2 := takeI t s e (by omega) c
  have hD : 0 < dC e c := Int.mul_pos (by omega) (dpos c)
  have h3 : ((nC t s e c k : Int) : Rat) / ((dC e c : Int) : Rat) * ((dC e c : Int) : Rat) = ((nC t s e c k : Int) : Rat) := Rat.div_mul_cancel (pos_cast hD)
  have hs : 0 < s * (c.den : Int) := Int.mul_pos (by omega) (dpos c)
  have h4 : ((t * e * (c.den : Int) - c.num * s : Int) : Rat) / ((s * (c.den : Int) : Int) : Rat) * ((s * (c.den : Int) : Int) : Rat) = ((t * e * (c.den : Int) - c.num * s : Int) : Rat) := Rat.div_mul_cancel (pos_cast hs)
  rw [h2] at h4
  have hd := pos_cast hD
  generalize ((nC t s e c k : Int) : Rat) / ((dC e c : Int) : Rat) = r at *
  unfold nC at h3
  generalize t * e * (c.den : Int) - c.num * s = z at *
  unfold dC at *
  rw [Rat.intCast_mul, Rat.intCast_mul, Rat.intCast_mul, ← h1]
  rw [Rat.intCast_mul] at h3 h4
  rw [Rat.intCast_mul, ← h4] at h3
  have hc := denne c
  have h5 : (r * (e : Rat) - (dft t s e c) * (k : Rat) * (s : Rat)) * ((c.den : Int) : Rat) = 0 := by grind
  have h6 : r * (e : Rat) = (dft t s e c) * (k : Rat) * (s : Rat) := by
    rcases Rat.mul_eq_zero.mp h5 with z | z
    · grind
    · exact absurd z hc
  grind
theorem bst_off {t s e : Int} (d : Dc t s e) (c : Rat) (k : Int) : bst (nC t s e c k) (dC e c) = bst (offQ t s e c k).num ((offQ t s e c k).den : Int) := by
  have e0 := d.e0
  have hD : 0 < dC e c := Int.mul_pos (by omega) (dpos c)
  obtain ⟨g, hg, h1, h2⟩ := num_of (x := nC t s e c k) hD
  rw [← offI d c k] at h1 h2
  rw [h1, h2]
  exact bst_scale hg

section
variable (ns ds : List Int) (a2 a3 a4 a5 a6 a7 a8 a9 a10 a11 a12 a13 a14 a15 a16 a17 a18 a19 a20 a21 a22 a23 : Option O) {t s e : Int} (d : Dc t s e) {c : Rat} (h : Tr c) {w : Rat} (bw : Bq 40 w) (w0 : 0 < w.num)
theorem t47_11 : ∃ k ds', 0 ≤ k ∧ k ≤ 1000 ∧ ∀ n, Ev.one Tb (evN Tb (n + 169)) (exN Tb (n + 169)) T47_11 (E47 ns ds a2 (some (.val (dc t s e))) (some (.val (fr c))) (some (.val (wnD (dft t s e c) w))) a6 a7 a8 a9 a10 a11 (some (.val (fr (dft t s e c)))) (some (.val (fr (rnd t s e)))) (some (.val (.int w.num))) (some (.val (.int (w.den : Int)))) a16 a17 a18 a19 a20 a21 a22 a23) = .ok (.next, (E47 ns ds' a2 (some (.val (dc t s e))) (some (.val (fr c))) (some (.val (wnD (dft t s e c) w))) a6 (some (.val (.int k))) a8 a9 a10 a11 (some (.val (fr (dft t s e c)))) (some (.val (fr (rnd t s e)))) (some (.val (.int w.num))) (some (.val (.int (w.den : Int)))) a16 a17 a18 a19 a20 a21 a22 a23)) := by
  have a1 := tk_in ds (b := 1001) (by decide)
  have k1 := fun m' o env => t36_1 m' ds (b := 1001) (by decide) o env
  refine ⟨tk ds 1001, ds.dropLast, by omega, by omega, fun n => ?_⟩
  unfold T47_11 E47
  simp only [evS, exS, okb, stb, seqS, one, stepE_none, stepE_bl, stepE_int, stepE_str, stepE_var, stepE_glb, stepE_tup, stepE_lst, stepE_op1, stepE_op2, stepE_not, stepE_and, stepE_or, stepE_ite, stepE_chain, stepE_slice, stepE_call, evD, evDs, evArgs, optI, truthE, truth, O.tree, O.toD, O.trees, O.toDs, v_add, v_sub, v_le, v_lt, v_ge, v_gt, v_min, v_max, v_eq, v_ne, v_is, v_isnt, v_t20, v_t21, u_lenL, u_lenT2, beq_self_eq_true, decide_true, Nat.reduceAdd, Nat.reduceLT, Nat.zero_add, Bool.and_self, Bool.and_true, Bool.true_and, u_isT, u_int, u_intB, u_abs, u_neg, u_tupL, u_revT, seq?, setO, assignT, assignTs, isTy, List.getElem?_cons_zero, List.getElem?_cons_succ, Option.join_some, List.set_cons_zero, List.set_cons_succ, List.length_cons, List.length_nil, Res.bind, if_true, if_false, Nat.lt_irrefl, Bool.not_true, Bool.not_false, reduceIte, Bool.false_eq_true, toDs_val, trees_val, k1, g1]
variable {k : Int} (k0 : 0 ≤ k) (k1 : k ≤ 1000)
include d h k0 k1
theorem t47_12 (n : Nat) : Ev.one Tb (evN Tb (n + 169)) (exN Tb (n + 169)) T47_12 (E47 ns ds a2 (some (.val (dc t s e))) (some (.val (fr c))) (some (.val (wnD (dft t s e c) w))) a6 (some (.val (.int k))) a8 a9 a10 a11 (some (.val (fr (dft t s e c)))) (some (.val (fr (rnd t s e)))) (some (.val (.int w.num))) (some (.val (.int (w.den : Int)))) a16 a17 a18 a19 a20 a21 a22 a23) = .ok (.next, (E47 ns ds a2 (some (.val (dc t s e))) (some (.val (fr c))) (some (.val (wnD (dft t s e c) w))) a6 (some (.val (.int k))) (some (.val (.int (bst (nC t s e c k) (dC e c))))) a9 a10 a11 (some (.val (fr (dft t s e c)))) (some (.val (fr (rnd t s e)))) (some (.val (.int w.num))) (some (.val (.int (w.den : Int)))) a16 a17 a18 a19 a20 a21 a22 a23)) := by
  have k29 := fun m' env => call3 (T := Tb) (n := m' + 90) env (r29 d h m' k0 k1)
  unfold T47_12 E47
  simp only [evS, exS, okb, stb, seqS, one, stepE_none, stepE_bl, stepE_int, stepE_str, stepE_var, stepE_glb, stepE_tup, stepE_lst, stepE_op1, stepE_op2, stepE_not, stepE_and, stepE_or, stepE_ite, stepE_chain, stepE_slice, stepE_call, evD, evDs, evArgs, optI, truthE, truth, O.tree, O.toD, O.trees, O.toDs, v_add, v_sub, v_le, v_lt, v_ge, v_gt, v_min, v_max, v_eq, v_ne, v_is, v_isnt, v_t20, v_t21, u_lenL, u_lenT2, beq_self_eq_true, decide_true, Nat.reduceAdd, Nat.reduceLT, Nat.zero_add, Bool.and_self, Bool.and_true, Bool.true_and, u_isT, u_int, u_intB, u_abs, u_neg, u_tupL, u_revT, seq?, setO, assignT, assignTs, isTy, List.getElem?_cons_zero, List.getElem?_cons_succ, Option.join_some, List.set_cons_zero, List.set_cons_succ, List.length_cons, List.length_nil, Res.bind, if_true, if_false, Nat.lt_irrefl, Bool.not_true, Bool.not_false, reduceIte, Bool.false_eq_true, toDs_val, trees_val, k29]
theorem bk_off : B 130 ((dft t s e c).num * k * s) ∧ B 100 (((dft t s e c).den : Int) * e) := by
  have bk : B 10 k := by unfold B; omega
  have bx := d.bd h
  exact ⟨((bx.n.mul bk).mul d.bs).mono (by decide), (bx.d.mul d.be).mono (by decide)⟩
theorem t47_13 (n : Nat) : Ev.one Tb (evN Tb (n + 169)) (exN Tb (n + 169)) T47_13 (E47 ns ds a2 (some (.val (dc t s e))) (some (.val (fr c))) (some (.val (wnD (dft t s e c) w))) a6 (some (.val (.int k))) (some (.val (.int (bst (nC t s e c k) (dC e c))))) a9 a10 a11 (some (.val (fr (dft t s e c)))) (some (.val (fr (rnd t s e)))) (some (.val (.int w.num))) (some (.val (.int (w.den : Int)))) a16 a17 a18 a19 a20 a21 a22 a23) = .ok (.next, (E47 ns ds a2 (some (.val (dc t s e))) (some (.val (fr c))) (some (.val (wnD (dft t s e c) w))) a6 (some (.val (.int k))) (some (.val (.int (bst (nC t s e c k) (dC e c))))) (some (.val (fr (offQ t s e c k)))) a10 a11 (some (.val (fr (dft t s e c)))) (some (.val (fr (rnd t s e)))) (some (.val (.int w.num))) (some (.val (.int (w.den : Int)))) a16 a17 a18 a19 a20 a21 a22 a23)) := by
  have bk : B 10 k := by unfold B; omega
  have bx := d.bd h
  have e0 := d.e0
  have bo := bk_off d h k0 k1
  have m1 := vM bx.n bk
  have m2 := vM (bx.n.mul bk) d.bs
  have m3 := vM bx.d d.be
  have k38 := fun m' env => call2 (T := Tb) (n := m' + 40) env (r38 m' (x := (dft t s e c).num * k * s) (y := ((dft t s e c).den : Int) * e) (Int.mul_pos (dpos _) (by omega)) (bo.2.mono (by decide)))
  rw [show (((dft t s e c).num * k * s : Int) : Rat) / ((((dft t s e c).den : Int) * e : Int) : Rat) = offQ t s e c k from rfl] at k38
  generalize offQ t s e c k = q at *
  generalize dft t s e c = x at *
  unfold T47_13 E47
  simp only [evS, exS, okb, stb, seqS, one, stepE_none, stepE_bl, stepE_int, stepE_str, stepE_var, stepE_glb, stepE_tup, stepE_lst, stepE_op1, stepE_op2, stepE_not, stepE_and, stepE_or, stepE_ite, stepE_chain, stepE_slice, stepE_call, evD, evDs, evArgs, optI, truthE, truth, O.tree, O.toD, O.trees, O.toDs, v_add, v_sub, v_le, v_lt, v_ge, v_gt, v_min, v_max, v_eq, v_ne, v_is, v_isnt, v_t20, v_t21, u_lenL, u_lenT2, beq_self_eq_true, decide_true, Nat.reduceAdd, Nat.reduceLT, Nat.zero_add, Bool.and_self, Bool.and_true, Bool.true_and, u_isT, u_int, u_intB, u_abs, u_neg, u_tupL, u_revT, seq?, setO, assignT, assignTs, isTy, List.getElem?_cons_zero, List.getElem?_cons_succ, Option.join_some, List.set_cons_zero, List.set_cons_succ, List.length_cons, List.length_nil, Res.bind, if_true, if_false, Nat.lt_irrefl, Bool.not_true, Bool.not_false, reduceIte, Bool.false_eq_true, toDs_val, trees_val, m1, m2, m3, k38, t31, t32]
theorem off_B : Bq 140 (offQ t s e c k) ∧ B 140 (bst (offQ t s e c k).num ((offQ t s e c k).den : Int)) := by
  have e0 := d.e0
  have bo := bk_off d h k0 k1
  have b1 : Bq 130 (offQ t s e c k) := .div bo.1 (bo.2.mono (by decide)) (Int.mul_pos (dpos _) (by omega))
  refine ⟨b1.mono (by decide), ?_⟩
  have hq : ∀ a b : Int, 0 < b → B 130 a → B 140 (bst a b) := fun a b hb ha => by
    have : (a / b).natAbs ≤ a.natAbs := Int.natAbs_ediv_le_natAbs _ _
    have h2 : (2 : Nat) ^ 130 + 1 ≤ 2 ^ 140 := by decide
    unfold bst
    split
    · unfold B at *; omega
    · unfold B at *; omega
  exact hq _ _ (dpos _) b1.n
theorem t47_14 (n : Nat) : Ev.one Tb (evN Tb (n + 169)) (exN Tb (n + 169)) T47_14 (E47 ns ds a2 (some (.val (dc t s e))) (some (.val (fr c))) (some (.val (wnD (dft t s e c) w))) a6 (some (.val (.int k))) (some (.val (.int (bst (offQ t s e c k).num ((offQ t s e c k).den : Int))))) (some (.val (fr (offQ t s e c k)))) a10 a11 (some (.val (fr (dft t s e c)))) (some (.val (fr (rnd t s e)))) (some (.val (.int w.num))) (some (.val (.int (w.den : Int)))) a16 a17 a18 a19 a20 a21 a22 a23) = .ok (.next, (E47 ns ds a2 (some (.val (dc t s e))) (some (.val (fr c))) (some (.val (wnD (dft t s e c) w))) a6 (some (.val (.int k))) (some (.val (.int (bst (offQ t s e c k).num ((offQ t s e c k).den : Int))))) (some (.val (fr (offQ t s e c k)))) (some (.val (.int (iab (bst (offQ t s e c k).num ((offQ t s e c k).den : Int) * ((offQ t s e c k).den : Int) - (offQ t s e c k).num))))) a11 (some (.val (fr (dft t s e c)))) (some (.val (fr (rnd t s e)))) (some (.val (.int w.num))) (some (.val (.int (w.den : Int)))) a16 a17 a18 a19 a20 a21 a22 a23)) := by
  obtain ⟨b1, b2⟩ := off_B d h k0 k1
  have m1 := vM b2 b1.d
  unfold iab
  generalize bst (offQ t s e c k).num ((offQ t s e c k).den : Int) = b at *
  generalize offQ t s e c k = q at *
  unfold T47_14 E47
  simp only [evS, exS, okb, stb, seqS, one, stepE_none, stepE_bl, stepE_int, stepE_str, stepE_var, stepE_glb, stepE_tup, stepE_lst, stepE_op1, stepE_op2, stepE_not, stepE_and, stepE_or, stepE_ite, stepE_chain, stepE_slice, stepE_call, evD, evDs, evArgs, optI, truthE, truth, O.tree, O.toD, O.trees, O.toDs, v_add, v_sub, v_le, v_lt, v_ge, v_gt, v_min, v_max, v_eq, v_ne, v_is, v_isnt, v_t20, v_t21, u_lenL, u_lenT2, beq_self_eq_true, decide_true, Nat.reduceAdd, Nat.reduceLT, Nat.zero_add, Bool.and_self, Bool.and_true, Bool.true_and, u_isT, u_int, u_intB, u_abs, u_neg, u_tupL, u_revT, seq?, setO, assignT, assignTs, isTy, List.getElem?_cons_zero, List.getElem?_cons_succ, Option.join_some, List.set_cons_zero, List.set_cons_succ, List.length_cons, List.length_nil, Res.bind, if_true, if_false, Nat.lt_irrefl, Bool.not_true, Bool.not_false, reduceIte, Bool.false_eq_true, toDs_val, trees_val, m1]
theorem t47_15 (n : Nat) : Ev.one Tb (evN Tb (n + 169)) (exN Tb (n + 169)) T47_15 (E47 ns ds a2 (some (.val (dc t s e))) (some (.val (fr c))) (some (.val (wnD (dft t s e c) w))) a6 (some (.val (.int k))) (some (.val (.int (bst (offQ t s e c k).num ((offQ t s e c k).den : Int))))) (some (.val (fr (offQ t s e c k)))) (some (.val (.int (iab (bst (offQ t s e c k).num ((offQ t s e c k).den : Int) * ((offQ t s e c k).den : Int) - (offQ t s e c k).num))))) a11 (some (.val (fr (dft t s e c)))) (some (.val (fr (rnd t s e)))) (some (.val (.int w.num))) (some (.val (.int (w.den : Int)))) a16 a17 a18 a19 a20 a21 a22 a23) = .ok (.next, (E47 ns ds a2 (some (.val (dc t s e))) (some (.val (fr c))) (some (.val (wnD (dft t s e c) w))) a6 (some (.val (.int k))) (some (.val (.int (bst (offQ t s e c k).num ((offQ t s e c k).den : Int))))) (some (.val (fr (offQ t s e c k)))) (some (.val (.int (iab (bst (offQ t s e c k).num ((offQ t s e c k).den : Int) * ((offQ t s e c k).den : Int) - (offQ t s e c k).num))))) a11 (some (.val (fr (dft t s e c)))) (some (.val (fr (rnd t s e)))) (some (.val (.int w.num))) (some (.val (.int (w.den : Int)))) a16 a17 a18 a19 a20 a21 a22 a23)) := by
  obtain ⟨b1, b2⟩ := off_B d h k0 k1
  have e0 := d.e0
  have p := bst_ab (a := (offQ t s e c k).num) (dpos (offQ t s e c k))
  have k29 := fun m' env => call3 (T := Tb) (n := m' + 90) env (r29 d h m' (k := 0) (by decide) (by decide))
  rw [show nC t s e c 0 = 0 from Int.zero_mul _, bst_zero (D := dC e c) (Int.mul_pos (by omega) (dpos c))] at k29
  have m1 := vM b2.iab b1.d
  have m2 := vM b2 b1.n
  have br : B 290 (iab (bst (offQ t s e c k).num ((offQ t s e c k).den : Int) * ((offQ t s e c k).den : Int) - (offQ t s e c k).num)) := by
    have := ((b2.mul b1.d).sub (b1.n.mono (by decide))).iab
    exact (show B 281 (iab _) from this).mono (by decide)
  have m3 := vM (x := 2) (B.lit (k := 2) (by decide)) br
  unfold iab at p m3 ⊢
  generalize bst (offQ t s e c k).num ((offQ t s e c k).den : Int) = b at *
  generalize offQ t s e c k = q at *
  obtain ⟨p1, p2, p3⟩ := p
  generalize hr : (if b * (q.den : Int) - q.num < 0 then -(b * (q.den : Int) - q.num) else b * (q.den : Int) - q.num) = r at *
  have c1 : decide ((q.den : Int) < 2 * r) = false := decide_eq_false (by omega)
  have c3 : decide (b * q.num < 0) = false := decide_eq_false (by omega)
  by_cases h2 : 2 * r = (q.den : Int)
  · have c2 : (2 * r == (q.den : Int)) = true := by rw [beq_iff_eq]; exact h2
    have c4 : decide ((if q.num < 0 then -q.num else q.num) < (if b < 0 then -b else b) * (q.den : Int)) = false := decide_eq_false (Int.not_lt.mpr (p2 h2))
    unfold T47_15 E47
    simp only [evS, exS, okb, stb, seqS, one, stepE_none, stepE_bl, stepE_int, stepE_str, stepE_var, stepE_glb, stepE_tup, stepE_lst, stepE_op1, stepE_op2, stepE_not, stepE_and, stepE_or, stepE_ite, stepE_chain, stepE_slice, stepE_call, evD, evDs, evArgs, optI, truthE, truth, O.tree, O.toD, O.trees, O.toDs, v_add, v_sub, v_le, v_lt, v_ge, v_gt, v_min, v_max, v_eq, v_ne, v_is, v_isnt, v_t20, v_t21, u_lenL, u_lenT2, beq_self_eq_true, decide_true, Nat.reduceAdd, Nat.reduceLT, Nat.zero_add, Bool.and_self, Bool.and_true, Bool.true_and, u_isT, u_int, u_intB, u_abs, u_neg, u_tupL, u_revT, seq?, setO, assignT, assignTs, isTy, List.getElem?_cons_zero, List.getElem?_cons_succ, Option.join_some, List.set_cons_zero, List.set_cons_succ, List.length_cons, List.length_nil, Res.bind, if_true, if_false, Nat.lt_irrefl, Bool.not_true, Bool.not_false, reduceIte, Bool.false_eq_true, toDs_val, trees_val, m1, m2, m3, c1, c2, c3, c4, k29]
  · have c2 : (2 * r == (q.den : Int)) = false := by rw [beq_eq_false_iff_ne]; exact h2
    unfold T47_15 E47
    simp only [evS, exS, okb, stb, seqS, one, stepE_none, stepE_bl, stepE_int, stepE_str, stepE_var, stepE_glb, stepE_tup, stepE_lst, stepE_op1, stepE_op2, stepE_not, stepE_and, stepE_or, stepE_ite, stepE_chain, stepE_slice, stepE_call, evD, evDs, evArgs, optI, truthE, truth, O.tree, O.toD, O.trees, O.toDs, v_add, v_sub, v_le, v_lt, v_ge, v_gt, v_min, v_max, v_eq, v_ne, v_is, v_isnt, v_t20, v_t21, u_lenL, u_lenT2, beq_self_eq_true, decide_true, Nat.reduceAdd, Nat.reduceLT, Nat.zero_add, Bool.and_self, Bool.and_true, Bool.true_and, u_isT, u_int, u_intB, u_abs, u_neg, u_tupL, u_revT, seq?, setO, assignT, assignTs, isTy, List.getElem?_cons_zero, List.getElem?_cons_succ, Option.join_some, List.set_cons_zero, List.set_cons_succ, List.length_cons, List.length_nil, Res.bind, if_true, if_false, Nat.lt_irrefl, Bool.not_true, Bool.not_false, reduceIte, Bool.false_eq_true, toDs_val, trees_val, m1, m2, m3, c1, c2, c3, k29]
omit h k0 k1 d in
theorem t47_16 (n : Nat) : Ev.one Tb (evN Tb (n + 169)) (exN Tb (n + 169)) T47_16 (E47 ns ds a2 (some (.val (dc t s e))) (some (.val (fr c))) (some (.val (wnD (dft t s e c) w))) a6 (some (.val (.int k))) (some (.val (.int (bst (offQ t s e c k).num ((offQ t s e c k).den : Int))))) (some (.val (fr (offQ t s e c k)))) (some (.val (.int (iab (bst (offQ t s e c k).num ((offQ t s e c k).den : Int) * ((offQ t s e c k).den : Int) - (offQ t s e c k).num))))) a11 (some (.val (fr (dft t s e c)))) (some (.val (fr (rnd t s e)))) (some (.val (.int w.num))) (some (.val (.int (w.den : Int)))) a16 a17 a18 a19 a20 a21 a22 a23) = .ok (.next, (E47 ns ds a2 (some (.val (dc t s e))) (some (.val (fr c))) (some (.val (wnD (dft t s e c) w))) a6 (some (.val (.int k))) (some (.val (.int (bst (offQ t s e c k).num ((offQ t s e c k).den : Int))))) (some (.val (fr (offQ t s e c k)))) (some (.val (.int (iab (bst (offQ t s e c k).num ((offQ t s e c k).den : Int) * ((offQ t s e c k).den : Int) - (offQ t s e c k).num))))) (some (.val (dc t s e))) (some (.val (fr (dft t s e c)))) (some (.val (fr (rnd t s e)))) (some (.val (.int w.num))) (some (.val (.int (w.den : Int)))) a16 a17 a18 a19 a20 a21 a22 a23)) := by
  generalize offQ t s e c k = q at *
  generalize dft t s e c = x at *
  generalize rnd t s e = y at *
  unfold T47_16 E47
  simp only [evS, exS, okb, stb, seqS, one, stepE_none, stepE_bl, stepE_int, stepE_str, stepE_var, stepE_glb, stepE_tup, stepE_lst, stepE_op1, stepE_op2, stepE_not, stepE_and, stepE_or, stepE_ite, stepE_chain, stepE_slice, stepE_call, evD, evDs, evArgs, optI, truthE, truth, O.tree, O.toD, O.trees, O.toDs, v_add, v_sub, v_le, v_lt, v_ge, v_gt, v_min, v_max, v_eq, v_ne, v_is, v_isnt, v_t20, v_t21, u_lenL, u_lenT2, beq_self_eq_true, decide_true, Nat.reduceAdd, Nat.reduceLT, Nat.zero_add, Bool.and_self, Bool.and_true, Bool.true_and, u_isT, u_int, u_intB, u_abs, u_neg, u_tupL, u_revT, seq?, setO, assignT, assignTs, isTy, List.getElem?_cons_zero, List.getElem?_cons_succ, Option.join_some, List.set_cons_zero, List.set_cons_succ, List.length_cons, List.length_nil, Res.bind, if_true, if_false, Nat.lt_irrefl, Bool.not_true, Bool.not_false, reduceIte, Bool.false_eq_true, toDs_val, trees_val, t30, t31, t32, mo3, mo3', mo2, mo2', mo2'', mo5]
omit h k0 k1 in
theorem t47_17 (n : Nat) : ∃ t' s', Dc t' s' e ∧ rnd t' s' e = rnd t s e ∧ Ev.one Tb (evN Tb (n + 169)) (exN Tb (n + 169)) T47_17 (E47 ns ds a2 (some (.val (dc t s e))) (some (.val (fr c))) (some (.val (wnD (dft t s e c) w))) a6 (some (.val (.int k))) (some (.val (.int (bst (offQ t s e c k).num ((offQ t s e c k).den : Int))))) (some (.val (fr (offQ t s e c k)))) (some (.val (.int (iab (bst (offQ t s e c k).num ((offQ t s e c k).den : Int) * ((offQ t s e c k).den : Int) - (offQ t s e c k).num))))) (some (.val (dc t s e))) (some (.val (fr (dft t s e c)))) (some (.val (fr (rnd t s e)))) (some (.val (.int w.num))) (some (.val (.int (w.den : Int)))) a16 a17 a18 a19 a20 a21 a22 a23) = .ok (.next, (E47 ns ds a2 (some (.val (dc t s e))) (some (.val (fr c))) (some (.val (wnD (dft t s e c) w))) a6 (some (.val (.int k))) (some (.val (.int (bst (offQ t s e c k).num ((offQ t s e c k).den : Int))))) (some (.val (fr (offQ t s e c k)))) (some (.val (.int (iab (bst (offQ t s e c k).num ((offQ t s e c k).den : Int) * ((offQ t s e c k).den : Int) - (offQ t s e c k).num))))) (some (.val (dc t' s' e))) (some (.val (fr (dft t s e c)))) (some (.val (fr (rnd t s e)))) (some (.val (.int w.num))) (some (.val (.int (w.den : Int)))) a16 a17 a18 a19 a20 a21 a22 a23)) := by
  have t0 := d.t0; have s0 := d.s0; have s1 := d.s1; have e0 := d.e0; have e1 := d.e1
  by_cases c1 : t ≤ 200
  · refine ⟨t * 2, s * 2, ⟨by omega, by omega, by omega, by omega, e0, e1⟩, ?_, ?_⟩
    · refine divq (by omega) ?_
      have h3 : ((t * e : Int) : Rat) / (s : Rat) * (s : Rat) = ((t * e : Int) : Rat) := Rat.div_mul_cancel (pos_cast (by omega))
      unfold rnd
      rw [show t * 2 * e = (t * e) * 2 by grind, Rat.intCast_mul, Rat.intCast_mul s 2, show ((2 : Int) : Rat) = 2 from rfl]
      grind
    · have m1 := vM (y := 2) d.bt (B.lit (k := 2) (by decide))
      have m2 := vM (y := 2) d.bs (B.lit (k := 2) (by decide))
      have cc : decide (t ≤ 200) = true := decide_eq_true c1
      refine one_ifT (env1 := (E47 ns ds a2 (some (.val (dc t s e))) (some (.val (fr c))) (some (.val (wnD (dft t s e c) w))) a6 (some (.val (.int k))) (some (.val (.int (bst (offQ t s e c k).num ((offQ t s e c k).den : Int))))) (some (.val (fr (offQ t s e c k)))) (some (.val (.int (iab (bst (offQ t s e c k).num ((offQ t s e c k).den : Int) * ((offQ t s e c k).den : Int) - (offQ t s e c k).num))))) (some (.val (dc t s e))) (some (.val (fr (dft t s e c)))) (some (.val (fr (rnd t s e)))) (some (.val (.int w.num))) (some (.val (.int (w.den : Int)))) a16 a17 a18 a19 a20 a21 a22 a23)) ?_ ?_
      · unfold E47
        simp only [evS, exS, okb, stb, seqS, one, stepE_none, stepE_bl, stepE_int, stepE_str, stepE_var, stepE_glb, stepE_tup, stepE_lst, stepE_op1, stepE_op2, stepE_not, stepE_and, stepE_or, stepE_ite, stepE_chain, stepE_slice, stepE_call, evD, evDs, evArgs, optI, truthE, truth, O.tree, O.toD, O.trees, O.toDs, v_add, v_sub, v_le, v_lt, v_ge, v_gt, v_min, v_max, v_eq, v_ne, v_is, v_isnt, v_t20, v_t21, u_lenL, u_lenT2, beq_self_eq_true, decide_true, Nat.reduceAdd, Nat.reduceLT, Nat.zero_add, Bool.and_self, Bool.and_true, Bool.true_and, u_isT, u_int, u_intB, u_abs, u_neg, u_tupL, u_revT, seq?, setO, assignT, assignTs, isTy, List.getElem?_cons_zero, List.getElem?_cons_succ, Option.join_some, List.set_cons_zero, List.set_cons_succ, List.length_cons, List.length_nil, Res.bind, if_true, if_false, Nat.lt_irrefl, Bool.not_true, Bool.not_false, reduceIte, Bool.false_eq_true, toDs_val, trees_val, cc, t30]
      · rw [show n + 169 = n + 168 + 1 from rfl]
        unfold E47
        simp only [evS, exS, okb, stb, seqS, one, stepE_none, stepE_bl, stepE_int, stepE_str, stepE_var, stepE_glb, stepE_tup, stepE_lst, stepE_op1, stepE_op2, stepE_not, stepE_and, stepE_or, stepE_ite, stepE_chain, stepE_slice, stepE_call, evD, evDs, evArgs, optI, truthE, truth, O.tree, O.toD, O.trees, O.toDs, v_add, v_sub, v_le, v_lt, v_ge, v_gt, v_min, v_max, v_eq, v_ne, v_is, v_isnt, v_t20, v_t21, u_lenL, u_lenT2, beq_self_eq_true, decide_true, Nat.reduceAdd, Nat.reduceLT, Nat.zero_add, Bool.and_self, Bool.and_true, Bool.true_and, u_isT, u_int, u_intB, u_abs, u_neg, u_tupL, u_revT, seq?, setO, assignT, assignTs, isTy, List.getElem?_cons_zero, List.getElem?_cons_succ, Option.join_some, List.set_cons_zero, List.set_cons_succ, List.length_cons, List.length_nil, Res.bind, if_true, if_false, Nat.lt_irrefl, Bool.not_true, Bool.not_false, reduceIte, Bool.false_eq_true, toDs_val, trees_val, m1, m2, t30, t31, t32, mo3, mo3', mo2, mo2', mo2'', mo5]
  · refine ⟨t, s, d, rfl, ?_⟩
    have cc : decide (t ≤ 200) = false := decide_eq_false c1
    refine one_ifF (env1 := (E47 ns ds a2 (some (.val (dc t s e))) (some (.val (fr c))) (some (.val (wnD (dft t s e c) w))) a6 (some (.val (.int k))) (some (.val (.int (bst (offQ t s e c k).num ((offQ t s e c k).den : Int))))) (some (.val (fr (offQ t s e c k)))) (some (.val (.int (iab (bst (offQ t s e c k).num ((offQ t s e c k).den : Int) * ((offQ t s e c k).den : Int) - (offQ t s e c k).num))))) (some (.val (dc t s e))) (some (.val (fr (dft t s e c)))) (some (.val (fr (rnd t s e)))) (some (.val (.int w.num))) (some (.val (.int (w.den : Int)))) a16 a17 a18 a19 a20 a21 a22 a23)) ?_ rfl
    unfold E47
    simp only [evS, exS, okb, stb, seqS, one, stepE_none, stepE_bl, stepE_int, stepE_str, stepE_var, stepE_glb, stepE_tup, stepE_lst, stepE_op1, stepE_op2, stepE_not, stepE_and, stepE_or, stepE_ite, stepE_chain, stepE_slice, stepE_call, evD, evDs, evArgs, optI, truthE, truth, O.tree, O.toD, O.trees, O.toDs, v_add, v_sub, v_le, v_lt, v_ge, v_gt, v_min, v_max, v_eq, v_ne, v_is, v_isnt, v_t20, v_t21, u_lenL, u_lenT2, beq_self_eq_true, decide_true, Nat.reduceAdd, Nat.reduceLT, Nat.zero_add, Bool.and_self, Bool.and_true, Bool.true_and, u_isT, u_int, u_intB, u_abs, u_neg, u_tupL, u_revT, seq?, setO, assignT, assignTs, isTy, List.getElem?_cons_zero, List.getElem?_cons_succ, Option.join_some, List.set_cons_zero, List.set_cons_succ, List.length_cons, List.length_nil, Res.bind, if_true, if_false, Nat.lt_irrefl, Bool.not_true, Bool.not_false, reduceIte, Bool.false_eq_true, toDs_val, trees_val, cc, t30]
variable {t' s' : Int} (d' : Dc t' s' e) (hr : rnd t' s' e = rnd t s e)
include d' hr bw w0
omit k0 k1 in
theorem t47_18 (n : Nat) : Ev.one Tb (evN Tb (n + 169)) (exN Tb (n + 169)) T47_18 (E47 ns ds a2 (some (.val (dc t s e))) (some (.val (fr c))) (some (.val (wnD (dft t s e c) w))) a6 (some (.val (.int k))) (some (.val (.int (bst (offQ t s e c k).num ((offQ t s e c k).den : Int))))) (some (.val (fr (offQ t s e c k)))) (some (.val (.int (iab (bst (offQ t s e c k).num ((offQ t s e c k).den : Int) * ((offQ t s e c k).den : Int) - (offQ t s e c k).num))))) (some (.val (dc t' s' e))) (some (.val (fr (dft t s e c)))) (some (.val (fr (rnd t s e)))) (some (.val (.int w.num))) (some (.val (.int (w.den : Int)))) a16 a17 a18 a19 a20 a21 a22 a23) = .ok (.next, (E47 ns ds a2 (some (.val (dc t s e))) (some (.val (fr c))) (some (.val (wnD (dft t s e c) w))) a6 (some (.val (.int k))) (some (.val (.int (bst (offQ t s e c k).num ((offQ t s e c k).den : Int))))) (some (.val (fr (offQ t s e c k)))) (some (.val (.int (iab (bst (offQ t s e c k).num ((offQ t s e c k).den : Int) * ((offQ t s e c k).den : Int) - (offQ t s e c k).num))))) (some (.val (dc t' s' e))) (some (.val (fr (dft t s e c)))) (some (.val (fr (rnd t s e)))) (some (.val (.int w.num))) (some (.val (.int (w.den : Int)))) a16 a17 a18 a19 a20 a21 a22 a23)) := by
  have k30 := fun m' env => call2 (T := Tb) (n := m' + 70) env (r30 d m' d')
  rw [hr, decide_eq_true (rfl : rnd t s e = rnd t s e)] at k30
  have k15 := fun m' env => call2 (T := Tb) (n := m' + 80) env (r15 d' h m')
  have k16 := fun m' env => call4 (T := Tb) (n := m' + 90) env (r16 d' h m' bw w0)
  have e1 := v_neR (dft t s e c) (dft t s e c)
  rw [decide_eq_true (rfl : (dft t s e c) = (dft t s e c))] at e1
  have hx : dft t' s' e c = dft t s e c := by unfold dft; rw [hr]
  rw [hx] at k15 k16
  have e2 : ev2 .ne (wnD (dft t s e c) w) (wnD (dft t s e c) w) = some (.val (.bool false)) := by
    unfold wnD
    split
    · rfl
    · rw [v_ne, beq_self_eq_true]; rfl
  generalize offQ t s e c k = q at *
  generalize wnD (dft t s e c) w = z at *
  generalize dft t s e c = x at *
  generalize rnd t s e = y at *
  unfold T47_18 E47
  unfold fr at *
  simp only [evS, exS, okb, stb, seqS, one, stepE_none, stepE_bl, stepE_int, stepE_str, stepE_var, stepE_glb, stepE_tup, stepE_lst, stepE_op1, stepE_op2, stepE_not, stepE_and, stepE_or, stepE_ite, stepE_chain, stepE_slice, stepE_call, evD, evDs, evArgs, optI, truthE, truth, O.tree, O.toD, O.trees, O.toDs, v_add, v_sub, v_le, v_lt, v_ge, v_gt, v_min, v_max, v_eq, v_ne, v_is, v_isnt, v_t20, v_t21, u_lenL, u_lenT2, beq_self_eq_true, decide_true, Nat.reduceAdd, Nat.reduceLT, Nat.zero_add, Bool.and_self, Bool.and_true, Bool.true_and, u_isT, u_int, u_intB, u_abs, u_neg, u_tupL, u_revT, seq?, setO, assignT, assignTs, isTy, List.getElem?_cons_zero, List.getElem?_cons_succ, Option.join_some, List.set_cons_zero, List.set_cons_succ, List.length_cons, List.length_nil, Res.bind, if_true, if_false, Nat.lt_irrefl, Bool.not_true, Bool.not_false, reduceIte, Bool.false_eq_true, toDs_val, trees_val, k30, k15, k16, e1, e2]
end
end Hd

end
section
set_option autoImplicit false
set_option linter.all false
set_option maxRecDepth 100000
set_option maxHeartbeats 1000000
namespace Hd
open PySem Ev
abbrev I47_1 : Ev.S := (.par [19, 20] [false, false] [(.call 37 [(.lend 1), (.lst [(.call 36 [(.lend 1), (.op2 .pow (.int 10) (.int 9))]), (.call 36 [(.lend 1), (.int 3000)])])]), (.op2 .add (.int 1) (.call 36 [(.lend 1), (.int 100)]))])
abbrev I47_2 : Ev.S := (.par [21, 22] [false, false] [(.call 26 [(.var 3), (.var 19)]), (.call 31 [(.var 3), (.var 19)])])
abbrev I47_3 : Ev.S := (.ifS (.or (.op2 .ne (.var 21) (.op2 .mod (.op1 .int (.op2 .mul (.var 22) (.op2 .idx (.var 3) (.int 1)))) (.op2 .idx (.var 3) (.int 0)))) (.or (.not (.chain .le .lt (.op2 .mul (.var 22) (.op2 .idx (.var 3) (.int 2))) (.var 19) (.op2 .mul (.op2 .add (.var 22) (.int 1)) (.op2 .idx (.var 3) (.int 2))))) (.op2 .ne (.call 26 [(.var 3), (.op2 .add (.var 19) (.op2 .mul (.op2 .idx (.var 3) (.int 0)) (.op2 .idx (.var 3) (.int 2))))]) (.var 21)))) [(.ret (.bl false))] [])
abbrev I47_4 : Ev.S := (.ifS (.or (.op2 .ne (.call 27 [(.var 3), (.var 21), (.var 19)]) (.var 19)) (.op2 .ne (.call 28 [(.var 3), (.var 19), (.var 20)]) (.op2 .fdiv (.op2 .mul (.var 21) (.var 20)) (.op2 .idx (.var 3) (.int 0))))) [(.ret (.bl false))] [])
abbrev I47_5 : Ev.S := (.asg (.nm 16) (.call 36 [(.lend 1), (.op2 .idx (.var 3) (.int 0))]))
abbrev I47_6 : Ev.S := (.asg (.nm 17) (.call 27 [(.var 3), (.var 16), (.var 19)]))
abbrev I47_7 : Ev.S := (.ifS (.and (.op2 .is (.var 17) .none) (.call 32 [(.var 3)])) [(.ret (.bl false))] [])
abbrev I47_8 : Ev.S := (.ifS (.and (.op2 .isnt (.var 17) .none) (.or (.op2 .ne (.call 26 [(.var 3), (.var 17)]) (.var 16)) (.or (.op2 .lt (.var 17) (.var 19)) (.op2 .gt (.var 17) (.op2 .add (.var 19) (.op2 .mul (.op2 .idx (.var 3) (.int 0)) (.op2 .idx (.var 3) (.int 2)))))))) [(.ret (.bl false))] [])
abbrev I47_9 : Ev.S := (.ifS (.and (.op2 .isnt (.var 17) .none) (.and (.op2 .gt (.var 17) (.var 19)) (.op2 .eq (.call 26 [(.var 3), (.op2 .sub (.var 17) (.int 1))]) (.var 16)))) [(.ret (.bl false))] [])
abbrev I47_10 : Ev.S := (.forS (.nm 18) (.range (.int 6)) [(.asg (.nm 23) (.op2 .add (.var 19) (.call 36 [(.lend 1), (.op2 .mul (.op2 .idx (.var 3) (.int 0)) (.op2 .idx (.var 3) (.int 2)))]))), (.ifS (.and (.op2 .eq (.call 26 [(.var 3), (.var 23)]) (.var 16)) (.or (.op2 .is (.var 17) .none) (.op2 .lt (.var 23) (.var 17)))) [(.ret (.bl false))] [])])
abbrev J47 : List Ev.S := [(.asg (.nm 23) (.op2 .add (.var 19) (.call 36 [(.lend 1), (.op2 .mul (.op2 .idx (.var 3) (.int 0)) (.op2 .idx (.var 3) (.int 2)))]))), (.ifS (.and (.op2 .eq (.call 26 [(.var 3), (.var 23)]) (.var 16)) (.or (.op2 .is (.var 17) .none) (.op2 .lt (.var 23) (.var 17)))) [(.ret (.bl false))] [])]
/-! the first that is met -/
theorem fst_mem {t f j : Int} : j ∈ ((List.range t.toNat).map fun (k : Nat) => f + (k : Int)) ↔ f ≤ j ∧ j < f + t := by
  constructor
  · intro hj
    obtain ⟨k, hk, rfl⟩ := List.mem_map.mp hj
    rw [List.mem_range] at hk
    omega
  · rintro ⟨h1, h2⟩
    exact List.mem_map.mpr ⟨(j - f).toNat, List.mem_range.mpr (by omega), by omega⟩
theorem fst_none {t s w h e : Int} (hn : fst t s w h e = none) {j : Int} (h1 : h / e ≤ j) (h2 : j < h / e + t) : ¬ j * s % t = w := by
  have := List.find?_eq_none.mp hn j (fst_mem.mpr ⟨h1, h2⟩)
  simpa [hit] using this
theorem fst_some {t s w h e k : Int} (hs : fst t s w h e = some k) : h / e ≤ k ∧ k < h / e + t ∧ k * s % t = w ∧ ∀ j, h / e ≤ j → j < k → ¬ j * s % t = w := by
  have hm := fst_mem.mp (List.mem_of_find?_eq_some hs)
  obtain ⟨hk, as, bs, hl, ha⟩ := List.find?_eq_some_iff_append.mp hs
  refine ⟨hm.1, hm.2, by simpa [hit] using hk, fun j j1 j2 hj => ?_⟩
  have hp : ((List.range t.toNat).map fun (k : Nat) => h / e + (k : Int)).Pairwise (· < ·) := by
    refine List.pairwise_map.mpr (List.pairwise_lt_range.imp fun {a b} h => ?_)
    omega
  have hj' : j ∈ as ++ k :: bs := by rw [← hl]; exact fst_mem.mpr ⟨j1, by omega⟩
  rw [hl] at hp
  rcases List.mem_append.mp hj' with q | q
  · have := ha j q
    simp [hit, hj] at this
  · rcases List.mem_cons.mp q with rfl | q
    · omega
    · have := (List.pairwise_cons.mp (List.pairwise_append.mp hp).2.1).1 j q
      omega
theorem th_round {t s e : Int} (e0 : 1 ≤ e) (h : Int) : th t s e (h + t * e) = th t s e h := by
  unfold th
  rw [Int.add_mul_ediv_right _ _ (by omega), Int.add_mul, Int.add_mul_emod_self_left]
section
variable {t s e : Int} (d : Dc t s e) {h : Int} (h0 : 0 ≤ h)
include d h0
theorem in_e : h / e * e ≤ h ∧ h < (h / e + 1) * e := ⟨Int.ediv_mul_le h (by have := d.e0; omega), Int.lt_ediv_add_one_mul_self h (by have := d.e0; omega)⟩
/-- when it stands there -/
theorem later_ok {w k : Int} (hs : fst t s w h e = some k) : ∃ L, (if k * e > h then k * e else h) = L ∧ h ≤ L ∧ L ≤ h + t * e ∧ th t s e L = w ∧ (h < L → ¬ th t s e (L - 1) = w) ∧ ∀ m, h ≤ m → m < h + t * e → th t s e m = w → L ≤ m := by
  have e0 := d.e0; have t0 := d.t0
  obtain ⟨k1, k2, k3, k4⟩ := fst_some hs
  obtain ⟨f1, f2⟩ := in_e d h0
  have x1 : (h / e + 1) * e = h / e * e + e := by rw [Int.add_mul, Int.one_mul]
  have te : 0 ≤ t * e := Int.mul_nonneg (by omega) (by omega)
  by_cases hk : k = h / e
  · subst hk
    refine ⟨h, if_neg (by omega), Int.le_refl _, by omega, k3, fun z => absurd z (Int.lt_irrefl _), fun m m1 _ _ => m1⟩
  · have y1 : (h / e + 1) * e ≤ k * e := Int.mul_le_mul_of_nonneg_right (by omega) (by omega)
    have y2 : k * e ≤ (h / e + t - 1) * e := Int.mul_le_mul_of_nonneg_right (by omega) (by omega)
    have y3 : (h / e + t - 1) * e = h / e * e + t * e - e := by rw [Int.sub_mul, Int.add_mul, Int.one_mul]
    refine ⟨k * e, if_pos (by omega), by omega, by omega, ?_, fun _ => ?_, fun m m1 m2 m3 => ?_⟩
    · unfold th
      rw [Int.mul_ediv_cancel _ (by omega)]
      exact k3
    · unfold th
      rw [show k * e - 1 = (e - 1) + (k - 1) * e by rw [Int.sub_mul, Int.one_mul]; omega, Int.add_mul_ediv_right _ _ (by omega), Int.ediv_eq_zero_of_lt (by omega) (by omega), Int.zero_add]
      exact k4 _ (by omega) (by omega)
    · have j1 : h / e ≤ m / e := Int.ediv_le_ediv (by omega) m1
      have j2 : m / e ≤ h / e + t := by
        have := Int.ediv_le_ediv (c := e) (by omega) (show m ≤ h + t * e by omega)
        rwa [Int.add_mul_ediv_right _ _ (by omega)] at this
      by_cases j3 : m / e = h / e + t
      · unfold th at m3
        rw [j3, Int.add_mul, Int.add_mul_emod_self_left] at m3
        exact absurd m3 (k4 _ (Int.le_refl _) (by omega))
      · have j4 : k ≤ m / e := Int.not_lt.mp fun z => k4 _ j1 z m3
        have j5 : k * e ≤ m / e * e := Int.mul_le_mul_of_nonneg_right j4 (by omega)
        have j6 := Int.ediv_mul_le m (show e ≠ 0 by omega)
        omega
theorem never_ok {w : Int} (hn : fst t s w h e = none) (m : Int) (m1 : h ≤ m) (m2 : m < h + t * e) : ¬ th t s e m = w := by
  have e0 := d.e0; have t0 := d.t0
  intro m3
  have j1 : h / e ≤ m / e := Int.ediv_le_ediv (by omega) m1
  have j2 : m / e ≤ h / e + t := by
    have := Int.ediv_le_ediv (c := e) (by omega) (show m ≤ h + t * e by omega)
    rwa [Int.add_mul_ediv_right _ _ (by omega)] at this
  by_cases j3 : m / e = h / e + t
  · unfold th at m3
    rw [j3, Int.add_mul, Int.add_mul_emod_self_left] at m3
    exact fst_none hn (Int.le_refl _) (by omega) m3
  · exact fst_none hn j1 (by omega) m3
theorem nx_self : nxD t s e (th t s e h) h = .int h := by
  have t0 := d.t0
  unfold nxD
  cases hc : fst t s (th t s e h) h e with
  | none => exact absurd rfl (fst_none hc (Int.le_refl _) (by omega))
  | some k =>
    obtain ⟨L, l1, l2, _, _, _, l6⟩ := later_ok d h0 hc
    have := l6 h (Int.le_refl _) (by have := Int.mul_pos (show 0 < t by omega) (show 0 < e by have := d.e0; omega); omega) rfl
    dsimp only
    rw [l1, show L = h by omega]
theorem visits_none {w : Int} (w0 : 0 ≤ w) (w1 : w < t) (hn : fst t s w h e = none) : (gA t s == 1) = false := by
  have t0 := d.t0
  rw [beq_eq_false_iff_ne]
  intro hg
  obtain ⟨k, k1, k2, k3⟩ := meets (t := t) (s := s) (w := w) (f := h / e) (by omega) (by unfold gA at hg; omega) w0 w1
  exact fst_none hn k1 k2 k3
end
section
variable (ns ds : List Int) (a2 a3 a4 a5 a6 a7 a8 a9 a10 a11 a12 a13 a14 a15 a16 a17 a18 a19 a20 a21 a22 a23 : Option O)
theorem v_pow9 : ev2 .pow (.int 10) (.int 9) = some (.val (.int 1000000000)) := by simp only [ev2]; rfl
theorem pick2 {ds : List Int} {a b : Int} {P : Int → Prop} (ha : P a) (hb : P b) : ∃ x, P x ∧ pk ds [.int a, .int b] = .int x := by
  have hp : pk ds [.int a, .int b] ∈ [PyData.int a, .int b] := pk_in (by simp)
  simp only [List.mem_cons, List.not_mem_nil, or_false] at hp
  rcases hp with e | e
  · exact ⟨a, ha, e⟩
  · exact ⟨b, hb, e⟩
theorem i47_1 : ∃ h p ds', 0 ≤ h ∧ h < 1000000000 ∧ 1 ≤ p ∧ p ≤ 100 ∧ ∀ n, Ev.one Tb (evN Tb (n + 168)) (exN Tb (n + 168)) I47_1 (E47 ns ds a2 a3 a4 a5 a6 a7 a8 a9 a10 a11 a12 a13 a14 a15 a16 a17 a18 a19 a20 a21 a22 a23) = .ok (.next, (E47 ns ds' a2 a3 a4 a5 a6 a7 a8 a9 a10 a11 a12 a13 a14 a15 a16 a17 a18 (some (.val (.int h))) (some (.val (.int p))) a21 a22 a23)) := by
  have a1 := tk_in ds (b := 1000000000) (by decide)
  have k1 := fun m' o env => t36_1 m' ds (b := 1000000000) (by decide) o env
  have a2 := tk_in ds.dropLast (b := 3000) (by decide)
  have k2 := fun m' o env => t36_1 m' ds.dropLast (b := 3000) (by decide) o env
  obtain ⟨h, hh, eh⟩ := pick2 (ds := ds.dropLast.dropLast) (a := tk ds 1000000000) (b := tk ds.dropLast 3000) (P := fun x => 0 ≤ x ∧ x < 1000000000) (by omega) (by omega)
  have k3 := fun m' o env => t37_1 m' ds.dropLast.dropLast [.int (tk ds 1000000000), .int (tk ds.dropLast 3000)] (by simp) o env
  rw [eh] at k3
  have a4 := tk_in ds.dropLast.dropLast.dropLast (b := 100) (by decide)
  have k4 := fun m' o env => t36_1 m' ds.dropLast.dropLast.dropLast (b := 100) (by decide) o env
  refine ⟨h, 1 + tk ds.dropLast.dropLast.dropLast 100, ds.dropLast.dropLast.dropLast.dropLast, hh.1, hh.2, by omega, by omega, fun n => ?_⟩
  unfold I47_1 E47
  simp only [evS, exS, okb, stb, seqS, one, stepE_none, stepE_bl, stepE_int, stepE_str, stepE_var, stepE_glb, stepE_tup, stepE_lst, stepE_op1, stepE_op2, stepE_not, stepE_and, stepE_or, stepE_ite, stepE_chain, stepE_slice, stepE_call, evD, evDs, evArgs, optI, truthE, truth, O.tree, O.toD, O.trees, O.toDs, v_add, v_sub, v_le, v_lt, v_ge, v_gt, v_min, v_max, v_eq, v_ne, v_is, v_isnt, v_t20, v_t21, u_lenL, u_lenT2, beq_self_eq_true, decide_true, Nat.reduceAdd, Nat.reduceLT, Nat.zero_add, Bool.and_self, Bool.and_true, Bool.true_and, u_isT, u_int, u_intB, u_abs, u_neg, u_tupL, u_revT, seq?, setO, assignT, assignTs, isTy, List.getElem?_cons_zero, List.getElem?_cons_succ, Option.join_some, List.set_cons_zero, List.set_cons_succ, List.length_cons, List.length_nil, Res.bind, if_true, if_false, Nat.lt_irrefl, Bool.not_true, Bool.not_false, reduceIte, Bool.false_eq_true, toDs_val, trees_val, evOs, parAsg, v_pow9, k1, k2, k3, k4, g1, mo4, mo4', mo3, mo3', mo2, mo2', mo2'', mo5, mo6, List.map_cons, List.map_nil]
variable {t s e : Int} (d : Dc t s e) {c : Rat} {h p : Int} (h0 : 0 ≤ h) (h1 : h < 1000000000) (p0 : 1 ≤ p) (p1 : p ≤ 100)
include d h0 h1
omit h1 in
theorem te_ok : 0 < t * e ∧ t * e ≤ 20000 := by
  have := d.t0; have := d.t1; have := d.e0; have := d.e1
  have a1 := Int.mul_pos (show 0 < t by omega) (show 0 < e by omega)
  have a2 : t * e ≤ 400 * 48 := Int.mul_le_mul d.t1 d.e1 (by omega) (by decide)
  omega
theorem i47_2 (n : Nat) : Ev.one Tb (evN Tb (n + 168)) (exN Tb (n + 168)) I47_2 (E47 ns ds a2 (some (.val (dc t s e))) (some (.val (fr c))) a5 a6 a7 a8 a9 a10 a11 a12 a13 a14 a15 a16 a17 a18 (some (.val (.int h))) (some (.val (.int p))) a21 a22 a23) = .ok (.next, (E47 ns ds a2 (some (.val (dc t s e))) (some (.val (fr c))) a5 a6 a7 a8 a9 a10 a11 a12 a13 a14 a15 a16 a17 a18 (some (.val (.int h))) (some (.val (.int p))) (some (.val (.int (th t s e h)))) (some (.val (.int (h / e)))) a23)) := by
  have k26 := fun m' env => call2 (T := Tb) (n := m' + 50) env (r26 d h0 (by unfold B; omega) m')
  have k31 := fun m' env => call2 (T := Tb) (n := m' + 50) env (r31 d h0 m')
  unfold I47_2 E47
  simp only [evS, exS, okb, stb, seqS, one, stepE_none, stepE_bl, stepE_int, stepE_str, stepE_var, stepE_glb, stepE_tup, stepE_lst, stepE_op1, stepE_op2, stepE_not, stepE_and, stepE_or, stepE_ite, stepE_chain, stepE_slice, stepE_call, evD, evDs, evArgs, optI, truthE, truth, O.tree, O.toD, O.trees, O.toDs, v_add, v_sub, v_le, v_lt, v_ge, v_gt, v_min, v_max, v_eq, v_ne, v_is, v_isnt, v_t20, v_t21, u_lenL, u_lenT2, beq_self_eq_true, decide_true, Nat.reduceAdd, Nat.reduceLT, Nat.zero_add, Bool.and_self, Bool.and_true, Bool.true_and, u_isT, u_int, u_intB, u_abs, u_neg, u_tupL, u_revT, seq?, setO, assignT, assignTs, isTy, List.getElem?_cons_zero, List.getElem?_cons_succ, Option.join_some, List.set_cons_zero, List.set_cons_succ, List.length_cons, List.length_nil, Res.bind, if_true, if_false, Nat.lt_irrefl, Bool.not_true, Bool.not_false, reduceIte, Bool.false_eq_true, toDs_val, trees_val, evOs, parAsg, k26, k31]
theorem i47_3 (n : Nat) : Ev.one Tb (evN Tb (n + 168)) (exN Tb (n + 168)) I47_3 (E47 ns ds a2 (some (.val (dc t s e))) (some (.val (fr c))) a5 a6 a7 a8 a9 a10 a11 a12 a13 a14 a15 a16 a17 a18 (some (.val (.int h))) (some (.val (.int p))) (some (.val (.int (th t s e h)))) (some (.val (.int (h / e)))) a23) = .ok (.next, (E47 ns ds a2 (some (.val (dc t s e))) (some (.val (fr c))) a5 a6 a7 a8 a9 a10 a11 a12 a13 a14 a15 a16 a17 a18 (some (.val (.int h))) (some (.val (.int p))) (some (.val (.int (th t s e h)))) (some (.val (.int (h / e)))) a23)) := by
  have e0 := d.e0; have t0 := d.t0
  obtain ⟨te0, te1⟩ := te_ok d h0
  obtain ⟨f1, f2⟩ := in_e d h0
  have bq : B 60 (h / e) := div_B (by unfold B; omega) h0 e0
  have bq1 : B 61 (h / e + 1) := bq.add (B.lit (k := 60) (i := 1) (by decide))
  have k26 := fun m' env => call2 (T := Tb) (n := m' + 50) env (r26 d (h := h + t * e) (by omega) (by unfold B; omega) m')
  rw [th_round e0] at k26
  have m1 := vM bq d.bs
  have m2 := v_mod (a := h / e * s) (b := t) (by omega)
  have m3 := vM bq d.be
  have m4 := vM bq1 d.be
  have m5 := vM d.bt d.be
  have c1 : decide (h / e * e ≤ h) = true := decide_eq_true f1
  have c2 : decide (h < (h / e + 1) * e) = true := decide_eq_true f2
  unfold I47_3 E47
  simp only [evS, exS, okb, stb, seqS, one, stepE_none, stepE_bl, stepE_int, stepE_str, stepE_var, stepE_glb, stepE_tup, stepE_lst, stepE_op1, stepE_op2, stepE_not, stepE_and, stepE_or, stepE_ite, stepE_chain, stepE_slice, stepE_call, evD, evDs, evArgs, optI, truthE, truth, O.tree, O.toD, O.trees, O.toDs, v_add, v_sub, v_le, v_lt, v_ge, v_gt, v_min, v_max, v_eq, v_ne, v_is, v_isnt, v_t20, v_t21, u_lenL, u_lenT2, beq_self_eq_true, decide_true, Nat.reduceAdd, Nat.reduceLT, Nat.zero_add, Bool.and_self, Bool.and_true, Bool.true_and, u_isT, u_int, u_intB, u_abs, u_neg, u_tupL, u_revT, seq?, setO, assignT, assignTs, isTy, List.getElem?_cons_zero, List.getElem?_cons_succ, Option.join_some, List.set_cons_zero, List.set_cons_succ, List.length_cons, List.length_nil, Res.bind, if_true, if_false, Nat.lt_irrefl, Bool.not_true, Bool.not_false, reduceIte, Bool.false_eq_true, toDs_val, trees_val, k26, m1, m2, m3, m4, m5, c1, c2, t30, t31, t32]
include p0 p1 in
theorem i47_4 (n : Nat) : Ev.one Tb (evN Tb (n + 168)) (exN Tb (n + 168)) I47_4 (E47 ns ds a2 (some (.val (dc t s e))) (some (.val (fr c))) a5 a6 a7 a8 a9 a10 a11 a12 a13 a14 a15 a16 a17 a18 (some (.val (.int h))) (some (.val (.int p))) (some (.val (.int (th t s e h)))) (some (.val (.int (h / e)))) a23) = .ok (.next, (E47 ns ds a2 (some (.val (dc t s e))) (some (.val (fr c))) a5 a6 a7 a8 a9 a10 a11 a12 a13 a14 a15 a16 a17 a18 (some (.val (.int h))) (some (.val (.int p))) (some (.val (.int (th t s e h)))) (some (.val (.int (h / e)))) a23)) := by
  have e0 := d.e0; have t0 := d.t0; have t1 := d.t1
  have q0 := Int.emod_nonneg (h / e * s) (show t ≠ 0 by omega)
  have q1 := Int.emod_lt_of_pos (h / e * s) (show 0 < t by omega)
  have k27 := fun m' env => call3 (T := Tb) (n := m' + 60) env (r27 d m' (w := th t s e h) h0 (by omega) q0 q1)
  rw [nx_self d h0] at k27
  have k28 := fun m' env => call3 (T := Tb) (n := m' + 50) env (r28 d h0 (by unfold B; omega) m' p0 p1)
  have m1 := vM (x := th t s e h) (y := p) (B.of (by unfold th; omega) (by unfold th; omega)) (B.of (by omega) (by omega))
  have m2 := v_fdiv (a := th t s e h * p) (b := t) (by omega) ((d.bt.mono (by decide)).smD (k := 20) (by decide))
  unfold I47_4 E47
  simp only [evS, exS, okb, stb, seqS, one, stepE_none, stepE_bl, stepE_int, stepE_str, stepE_var, stepE_glb, stepE_tup, stepE_lst, stepE_op1, stepE_op2, stepE_not, stepE_and, stepE_or, stepE_ite, stepE_chain, stepE_slice, stepE_call, evD, evDs, evArgs, optI, truthE, truth, O.tree, O.toD, O.trees, O.toDs, v_add, v_sub, v_le, v_lt, v_ge, v_gt, v_min, v_max, v_eq, v_ne, v_is, v_isnt, v_t20, v_t21, u_lenL, u_lenT2, beq_self_eq_true, decide_true, Nat.reduceAdd, Nat.reduceLT, Nat.zero_add, Bool.and_self, Bool.and_true, Bool.true_and, u_isT, u_int, u_intB, u_abs, u_neg, u_tupL, u_revT, seq?, setO, assignT, assignTs, isTy, List.getElem?_cons_zero, List.getElem?_cons_succ, Option.join_some, List.set_cons_zero, List.set_cons_succ, List.length_cons, List.length_nil, Res.bind, if_true, if_false, Nat.lt_irrefl, Bool.not_true, Bool.not_false, reduceIte, Bool.false_eq_true, toDs_val, trees_val, k27, k28, m1, m2, t30, t31, t32]
omit h0 h1 in
theorem i47_5 : ∃ w ds', 0 ≤ w ∧ w < t ∧ ∀ n, Ev.one Tb (evN Tb (n + 168)) (exN Tb (n + 168)) I47_5 (E47 ns ds a2 (some (.val (dc t s e))) (some (.val (fr c))) a5 a6 a7 a8 a9 a10 a11 a12 a13 a14 a15 a16 a17 a18 (some (.val (.int h))) (some (.val (.int p))) (some (.val (.int (th t s e h)))) (some (.val (.int (h / e)))) a23) = .ok (.next, (E47 ns ds' a2 (some (.val (dc t s e))) (some (.val (fr c))) a5 a6 a7 a8 a9 a10 a11 a12 a13 a14 a15 (some (.val (.int w))) a17 a18 (some (.val (.int h))) (some (.val (.int p))) (some (.val (.int (th t s e h)))) (some (.val (.int (h / e)))) a23)) := by
  have t0 := d.t0
  have a1 := tk_in ds (b := t) (by omega)
  have k1 := fun m' o env => t36_1 m' ds (b := t) (by omega) o env
  refine ⟨tk ds t, ds.dropLast, a1.1, a1.2, fun n => ?_⟩
  unfold I47_5 E47
  simp only [evS, exS, okb, stb, seqS, one, stepE_none, stepE_bl, stepE_int, stepE_str, stepE_var, stepE_glb, stepE_tup, stepE_lst, stepE_op1, stepE_op2, stepE_not, stepE_and, stepE_or, stepE_ite, stepE_chain, stepE_slice, stepE_call, evD, evDs, evArgs, optI, truthE, truth, O.tree, O.toD, O.trees, O.toDs, v_add, v_sub, v_le, v_lt, v_ge, v_gt, v_min, v_max, v_eq, v_ne, v_is, v_isnt, v_t20, v_t21, u_lenL, u_lenT2, beq_self_eq_true, decide_true, Nat.reduceAdd, Nat.reduceLT, Nat.zero_add, Bool.and_self, Bool.and_true, Bool.true_and, u_isT, u_int, u_intB, u_abs, u_neg, u_tupL, u_revT, seq?, setO, assignT, assignTs, isTy, List.getElem?_cons_zero, List.getElem?_cons_succ, Option.join_some, List.set_cons_zero, List.set_cons_succ, List.length_cons, List.length_nil, Res.bind, if_true, if_false, Nat.lt_irrefl, Bool.not_true, Bool.not_false, reduceIte, Bool.false_eq_true, toDs_val, trees_val, k1, g1, t30]
variable {w : Int} (w0 : 0 ≤ w) (w1 : w < t)
include w0 w1
theorem i47_6 (n : Nat) : Ev.one Tb (evN Tb (n + 168)) (exN Tb (n + 168)) I47_6 (E47 ns ds a2 (some (.val (dc t s e))) (some (.val (fr c))) a5 a6 a7 a8 a9 a10 a11 a12 a13 a14 a15 (some (.val (.int w))) a17 a18 (some (.val (.int h))) (some (.val (.int p))) (some (.val (.int (th t s e h)))) (some (.val (.int (h / e)))) a23) = .ok (.next, (E47 ns ds a2 (some (.val (dc t s e))) (some (.val (fr c))) a5 a6 a7 a8 a9 a10 a11 a12 a13 a14 a15 (some (.val (.int w))) (some (.val (nxD t s e w h))) a18 (some (.val (.int h))) (some (.val (.int p))) (some (.val (.int (th t s e h)))) (some (.val (.int (h / e)))) a23)) := by
  have k27 := fun m' env => call3 (T := Tb) (n := m' + 60) env (r27 d m' (w := w) h0 (by omega) w0 w1)
  unfold I47_6 E47
  simp only [evS, exS, okb, stb, seqS, one, stepE_none, stepE_bl, stepE_int, stepE_str, stepE_var, stepE_glb, stepE_tup, stepE_lst, stepE_op1, stepE_op2, stepE_not, stepE_and, stepE_or, stepE_ite, stepE_chain, stepE_slice, stepE_call, evD, evDs, evArgs, optI, truthE, truth, O.tree, O.toD, O.trees, O.toDs, v_add, v_sub, v_le, v_lt, v_ge, v_gt, v_min, v_max, v_eq, v_ne, v_is, v_isnt, v_t20, v_t21, u_lenL, u_lenT2, beq_self_eq_true, decide_true, Nat.reduceAdd, Nat.reduceLT, Nat.zero_add, Bool.and_self, Bool.and_true, Bool.true_and, u_isT, u_int, u_intB, u_abs, u_neg, u_tupL, u_revT, seq?, setO, assignT, assignTs, isTy, List.getElem?_cons_zero, List.getElem?_cons_succ, Option.join_some, List.set_cons_zero, List.set_cons_succ, List.length_cons, List.length_nil, Res.bind, if_true, if_false, Nat.lt_irrefl, Bool.not_true, Bool.not_false, reduceIte, Bool.false_eq_true, toDs_val, trees_val, k27]
theorem i47_7 (n : Nat) : Ev.one Tb (evN Tb (n + 168)) (exN Tb (n + 168)) I47_7 (E47 ns ds a2 (some (.val (dc t s e))) (some (.val (fr c))) a5 a6 a7 a8 a9 a10 a11 a12 a13 a14 a15 (some (.val (.int w))) (some (.val (nxD t s e w h))) a18 (some (.val (.int h))) (some (.val (.int p))) (some (.val (.int (th t s e h)))) (some (.val (.int (h / e)))) a23) = .ok (.next, (E47 ns ds a2 (some (.val (dc t s e))) (some (.val (fr c))) a5 a6 a7 a8 a9 a10 a11 a12 a13 a14 a15 (some (.val (.int w))) (some (.val (nxD t s e w h))) a18 (some (.val (.int h))) (some (.val (.int p))) (some (.val (.int (th t s e h)))) (some (.val (.int (h / e)))) a23)) := by
  have k32 := fun m' env => call1 (T := Tb) (n := m' + 50) env (r32 d m')
  unfold nxD
  cases hc : fst t s w h e with
  | none =>
    rw [visits_none d h0 w0 w1 hc] at k32
    dsimp only
    unfold I47_7 E47
    simp only [evS, exS, okb, stb, seqS, one, stepE_none, stepE_bl, stepE_int, stepE_str, stepE_var, stepE_glb, stepE_tup, stepE_lst, stepE_op1, stepE_op2, stepE_not, stepE_and, stepE_or, stepE_ite, stepE_chain, stepE_slice, stepE_call, evD, evDs, evArgs, optI, truthE, truth, O.tree, O.toD, O.trees, O.toDs, v_add, v_sub, v_le, v_lt, v_ge, v_gt, v_min, v_max, v_eq, v_ne, v_is, v_isnt, v_t20, v_t21, u_lenL, u_lenT2, beq_self_eq_true, decide_true, Nat.reduceAdd, Nat.reduceLT, Nat.zero_add, Bool.and_self, Bool.and_true, Bool.true_and, u_isT, u_int, u_intB, u_abs, u_neg, u_tupL, u_revT, seq?, setO, assignT, assignTs, isTy, List.getElem?_cons_zero, List.getElem?_cons_succ, Option.join_some, List.set_cons_zero, List.set_cons_succ, List.length_cons, List.length_nil, Res.bind, if_true, if_false, Nat.lt_irrefl, Bool.not_true, Bool.not_false, reduceIte, Bool.false_eq_true, toDs_val, trees_val, k32, isN_none]
  | some k =>
    dsimp only
    unfold I47_7 E47
    simp only [evS, exS, okb, stb, seqS, one, stepE_none, stepE_bl, stepE_int, stepE_str, stepE_var, stepE_glb, stepE_tup, stepE_lst, stepE_op1, stepE_op2, stepE_not, stepE_and, stepE_or, stepE_ite, stepE_chain, stepE_slice, stepE_call, evD, evDs, evArgs, optI, truthE, truth, O.tree, O.toD, O.trees, O.toDs, v_add, v_sub, v_le, v_lt, v_ge, v_gt, v_min, v_max, v_eq, v_ne, v_is, v_isnt, v_t20, v_t21, u_lenL, u_lenT2, beq_self_eq_true, decide_true, Nat.reduceAdd, Nat.reduceLT, Nat.zero_add, Bool.and_self, Bool.and_true, Bool.true_and, u_isT, u_int, u_intB, u_abs, u_neg, u_tupL, u_revT, seq?, setO, assignT, assignTs, isTy, List.getElem?_cons_zero, List.getElem?_cons_succ, Option.join_some, List.set_cons_zero, List.set_cons_succ, List.length_cons, List.length_nil, Res.bind, if_true, if_false, Nat.lt_irrefl, Bool.not_true, Bool.not_false, reduceIte, Bool.false_eq_true, toDs_val, trees_val, isN_int]
theorem i47_8 (n : Nat) : Ev.one Tb (evN Tb (n + 168)) (exN Tb (n + 168)) I47_8 (E47 ns ds a2 (some (.val (dc t s e))) (some (.val (fr c))) a5 a6 a7 a8 a9 a10 a11 a12 a13 a14 a15 (some (.val (.int w))) (some (.val (nxD t s e w h))) a18 (some (.val (.int h))) (some (.val (.int p))) (some (.val (.int (th t s e h)))) (some (.val (.int (h / e)))) a23) = .ok (.next, (E47 ns ds a2 (some (.val (dc t s e))) (some (.val (fr c))) a5 a6 a7 a8 a9 a10 a11 a12 a13 a14 a15 (some (.val (.int w))) (some (.val (nxD t s e w h))) a18 (some (.val (.int h))) (some (.val (.int p))) (some (.val (.int (th t s e h)))) (some (.val (.int (h / e)))) a23)) := by
  have e0 := d.e0
  obtain ⟨te0, te1⟩ := te_ok d h0
  unfold nxD
  cases hc : fst t s w h e with
  | none =>
    dsimp only
    unfold I47_8 E47
    simp only [evS, exS, okb, stb, seqS, one, stepE_none, stepE_bl, stepE_int, stepE_str, stepE_var, stepE_glb, stepE_tup, stepE_lst, stepE_op1, stepE_op2, stepE_not, stepE_and, stepE_or, stepE_ite, stepE_chain, stepE_slice, stepE_call, evD, evDs, evArgs, optI, truthE, truth, O.tree, O.toD, O.trees, O.toDs, v_add, v_sub, v_le, v_lt, v_ge, v_gt, v_min, v_max, v_eq, v_ne, v_is, v_isnt, v_t20, v_t21, u_lenL, u_lenT2, beq_self_eq_true, decide_true, Nat.reduceAdd, Nat.reduceLT, Nat.zero_add, Bool.and_self, Bool.and_true, Bool.true_and, u_isT, u_int, u_intB, u_abs, u_neg, u_tupL, u_revT, seq?, setO, assignT, assignTs, isTy, List.getElem?_cons_zero, List.getElem?_cons_succ, Option.join_some, List.set_cons_zero, List.set_cons_succ, List.length_cons, List.length_nil, Res.bind, if_true, if_false, Nat.lt_irrefl, Bool.not_true, Bool.not_false, reduceIte, Bool.false_eq_true, toDs_val, trees_val, isnN_none]
  | some k =>
    obtain ⟨L, l1, l2, l3, l4, l5, l6⟩ := later_ok d h0 hc
    dsimp only
    rw [l1]
    have k26 := fun m' env => call2 (T := Tb) (n := m' + 50) env (r26 d (h := L) (by omega) (by unfold B; omega) m')
    rw [l4] at k26
    have m5 := vM d.bt d.be
    have q1 : decide (L < h) = false := decide_eq_false (by omega)
    have q2 : decide (h + t * e < L) = false := decide_eq_false (by omega)
    unfold I47_8 E47
    simp only [evS, exS, okb, stb, seqS, one, stepE_none, stepE_bl, stepE_int, stepE_str, stepE_var, stepE_glb, stepE_tup, stepE_lst, stepE_op1, stepE_op2, stepE_not, stepE_and, stepE_or, stepE_ite, stepE_chain, stepE_slice, stepE_call, evD, evDs, evArgs, optI, truthE, truth, O.tree, O.toD, O.trees, O.toDs, v_add, v_sub, v_le, v_lt, v_ge, v_gt, v_min, v_max, v_eq, v_ne, v_is, v_isnt, v_t20, v_t21, u_lenL, u_lenT2, beq_self_eq_true, decide_true, Nat.reduceAdd, Nat.reduceLT, Nat.zero_add, Bool.and_self, Bool.and_true, Bool.true_and, u_isT, u_int, u_intB, u_abs, u_neg, u_tupL, u_revT, seq?, setO, assignT, assignTs, isTy, List.getElem?_cons_zero, List.getElem?_cons_succ, Option.join_some, List.set_cons_zero, List.set_cons_succ, List.length_cons, List.length_nil, Res.bind, if_true, if_false, Nat.lt_irrefl, Bool.not_true, Bool.not_false, reduceIte, Bool.false_eq_true, toDs_val, trees_val, isnN_int, k26, m5, q1, q2, t30, t31, t32]
theorem i47_9 (n : Nat) : Ev.one Tb (evN Tb (n + 168)) (exN Tb (n + 168)) I47_9 (E47 ns ds a2 (some (.val (dc t s e))) (some (.val (fr c))) a5 a6 a7 a8 a9 a10 a11 a12 a13 a14 a15 (some (.val (.int w))) (some (.val (nxD t s e w h))) a18 (some (.val (.int h))) (some (.val (.int p))) (some (.val (.int (th t s e h)))) (some (.val (.int (h / e)))) a23) = .ok (.next, (E47 ns ds a2 (some (.val (dc t s e))) (some (.val (fr c))) a5 a6 a7 a8 a9 a10 a11 a12 a13 a14 a15 (some (.val (.int w))) (some (.val (nxD t s e w h))) a18 (some (.val (.int h))) (some (.val (.int p))) (some (.val (.int (th t s e h)))) (some (.val (.int (h / e)))) a23)) := by
  have e0 := d.e0
  obtain ⟨te0, te1⟩ := te_ok d h0
  unfold nxD
  cases hc : fst t s w h e with
  | none =>
    dsimp only
    unfold I47_9 E47
    simp only [evS, exS, okb, stb, seqS, one, stepE_none, stepE_bl, stepE_int, stepE_str, stepE_var, stepE_glb, stepE_tup, stepE_lst, stepE_op1, stepE_op2, stepE_not, stepE_and, stepE_or, stepE_ite, stepE_chain, stepE_slice, stepE_call, evD, evDs, evArgs, optI, truthE, truth, O.tree, O.toD, O.trees, O.toDs, v_add, v_sub, v_le, v_lt, v_ge, v_gt, v_min, v_max, v_eq, v_ne, v_is, v_isnt, v_t20, v_t21, u_lenL, u_lenT2, beq_self_eq_true, decide_true, Nat.reduceAdd, Nat.reduceLT, Nat.zero_add, Bool.and_self, Bool.and_true, Bool.true_and, u_isT, u_int, u_intB, u_abs, u_neg, u_tupL, u_revT, seq?, setO, assignT, assignTs, isTy, List.getElem?_cons_zero, List.getElem?_cons_succ, Option.join_some, List.set_cons_zero, List.set_cons_succ, List.length_cons, List.length_nil, Res.bind, if_true, if_false, Nat.lt_irrefl, Bool.not_true, Bool.not_false, reduceIte, Bool.false_eq_true, toDs_val, trees_val, isnN_none]
  | some k =>
    obtain ⟨L, l1, l2, l3, l4, l5, l6⟩ := later_ok d h0 hc
    dsimp only
    rw [l1]
    by_cases q : h < L
    · have k26 := fun m' env => call2 (T := Tb) (n := m' + 50) env (r26 d (h := L - 1) (by omega) (by unfold B; omega) m')
      have q1 : decide (h < L) = true := decide_eq_true q
      have q2 : (th t s e (L - 1) == w) = false := by rw [beq_eq_false_iff_ne]; exact l5 q
      generalize th t s e (L - 1) = z at *
      unfold I47_9 E47
      simp only [evS, exS, okb, stb, seqS, one, stepE_none, stepE_bl, stepE_int, stepE_str, stepE_var, stepE_glb, stepE_tup, stepE_lst, stepE_op1, stepE_op2, stepE_not, stepE_and, stepE_or, stepE_ite, stepE_chain, stepE_slice, stepE_call, evD, evDs, evArgs, optI, truthE, truth, O.tree, O.toD, O.trees, O.toDs, v_add, v_sub, v_le, v_lt, v_ge, v_gt, v_min, v_max, v_eq, v_ne, v_is, v_isnt, v_t20, v_t21, u_lenL, u_lenT2, beq_self_eq_true, decide_true, Nat.reduceAdd, Nat.reduceLT, Nat.zero_add, Bool.and_self, Bool.and_true, Bool.true_and, u_isT, u_int, u_intB, u_abs, u_neg, u_tupL, u_revT, seq?, setO, assignT, assignTs, isTy, List.getElem?_cons_zero, List.getElem?_cons_succ, Option.join_some, List.set_cons_zero, List.set_cons_succ, List.length_cons, List.length_nil, Res.bind, if_true, if_false, Nat.lt_irrefl, Bool.not_true, Bool.not_false, reduceIte, Bool.false_eq_true, toDs_val, trees_val, isnN_int, k26, q1, q2]
    · have q1 : decide (h < L) = false := decide_eq_false q
      unfold I47_9 E47
      simp only [evS, exS, okb, stb, seqS, one, stepE_none, stepE_bl, stepE_int, stepE_str, stepE_var, stepE_glb, stepE_tup, stepE_lst, stepE_op1, stepE_op2, stepE_not, stepE_and, stepE_or, stepE_ite, stepE_chain, stepE_slice, stepE_call, evD, evDs, evArgs, optI, truthE, truth, O.tree, O.toD, O.trees, O.toDs, v_add, v_sub, v_le, v_lt, v_ge, v_gt, v_min, v_max, v_eq, v_ne, v_is, v_isnt, v_t20, v_t21, u_lenL, u_lenT2, beq_self_eq_true, decide_true, Nat.reduceAdd, Nat.reduceLT, Nat.zero_add, Bool.and_self, Bool.and_true, Bool.true_and, u_isT, u_int, u_intB, u_abs, u_neg, u_tupL, u_revT, seq?, setO, assignT, assignTs, isTy, List.getElem?_cons_zero, List.getElem?_cons_succ, Option.join_some, List.set_cons_zero, List.set_cons_succ, List.length_cons, List.length_nil, Res.bind, if_true, if_false, Nat.lt_irrefl, Bool.not_true, Bool.not_false, reduceIte, Bool.false_eq_true, toDs_val, trees_val, isnN_int, q1]
theorem j47 (n : Nat) (a18 a23 : Option O) : ∃ ds' b23, exN Tb (n + 168) J47 (E47 ns ds a2 (some (.val (dc t s e))) (some (.val (fr c))) a5 a6 a7 a8 a9 a10 a11 a12 a13 a14 a15 (some (.val (.int w))) (some (.val (nxD t s e w h))) a18 (some (.val (.int h))) (some (.val (.int p))) (some (.val (.int (th t s e h)))) (some (.val (.int (h / e)))) a23) = .ok (.next, (E47 ns ds' a2 (some (.val (dc t s e))) (some (.val (fr c))) a5 a6 a7 a8 a9 a10 a11 a12 a13 a14 a15 (some (.val (.int w))) (some (.val (nxD t s e w h))) a18 (some (.val (.int h))) (some (.val (.int p))) (some (.val (.int (th t s e h)))) (some (.val (.int (h / e)))) b23)) := by
  have e0 := d.e0
  obtain ⟨te0, te1⟩ := te_ok d h0
  have a1 := tk_in ds (b := t * e) te0
  have k1 := fun m' o env => t36_1 m' ds (b := t * e) te0 o env
  have m5 := vM d.bt d.be
  have k26 := fun m' env => call2 (T := Tb) (n := m' + 50) env (r26 d (h := h + tk ds (t * e)) (by omega) (by unfold B; omega) m')
  refine ⟨ds.dropLast, some (.val (.int (h + tk ds (t * e)))), ?_⟩
  rw [show n + 168 = n + 167 + 1 from rfl]
  unfold nxD
  cases hc : fst t s w h e with
  | none =>
    have q2 : (th t s e (h + tk ds (t * e)) == w) = false := by rw [beq_eq_false_iff_ne]; exact never_ok d h0 hc _ (by omega) (by omega)
    generalize th t s e (h + tk ds (t * e)) = z at *
    dsimp only
    unfold J47 E47
    simp only [evS, exS, okb, stb, seqS, one, stepE_none, stepE_bl, stepE_int, stepE_str, stepE_var, stepE_glb, stepE_tup, stepE_lst, stepE_op1, stepE_op2, stepE_not, stepE_and, stepE_or, stepE_ite, stepE_chain, stepE_slice, stepE_call, evD, evDs, evArgs, optI, truthE, truth, O.tree, O.toD, O.trees, O.toDs, v_add, v_sub, v_le, v_lt, v_ge, v_gt, v_min, v_max, v_eq, v_ne, v_is, v_isnt, v_t20, v_t21, u_lenL, u_lenT2, beq_self_eq_true, decide_true, Nat.reduceAdd, Nat.reduceLT, Nat.zero_add, Bool.and_self, Bool.and_true, Bool.true_and, u_isT, u_int, u_intB, u_abs, u_neg, u_tupL, u_revT, seq?, setO, assignT, assignTs, isTy, List.getElem?_cons_zero, List.getElem?_cons_succ, Option.join_some, List.set_cons_zero, List.set_cons_succ, List.length_cons, List.length_nil, Res.bind, if_true, if_false, Nat.lt_irrefl, Bool.not_true, Bool.not_false, reduceIte, Bool.false_eq_true, toDs_val, trees_val, k1, k26, m5, q2, g1, t30, t31, t32]
  | some k =>
    obtain ⟨L, l1, l2, l3, l4, l5, l6⟩ := later_ok d h0 hc
    dsimp only
    rw [l1]
    by_cases q : th t s e (h + tk ds (t * e)) = w
    · have q2 : (th t s e (h + tk ds (t * e)) == w) = true := by rw [beq_iff_eq]; exact q
      have q3 : decide (h + tk ds (t * e) < L) = false := decide_eq_false (by have := l6 _ (by omega) (by omega) q; omega)
      generalize th t s e (h + tk ds (t * e)) = z at *
      unfold J47 E47
      simp only [evS, exS, okb, stb, seqS, one, stepE_none, stepE_bl, stepE_int, stepE_str, stepE_var, stepE_glb, stepE_tup, stepE_lst, stepE_op1, stepE_op2, stepE_not, stepE_and, stepE_or, stepE_ite, stepE_chain, stepE_slice, stepE_call, evD, evDs, evArgs, optI, truthE, truth, O.tree, O.toD, O.trees, O.toDs, v_add, v_sub, v_le, v_lt, v_ge, v_gt, v_min, v_max, v_eq, v_ne, v_is, v_isnt, v_t20, v_t21, u_lenL, u_lenT2, beq_self_eq_true, decide_true, Nat.reduceAdd, Nat.reduceLT, Nat.zero_add, Bool.and_self, Bool.and_true, Bool.true_and, u_isT, u_int, u_intB, u_abs, u_neg, u_tupL, u_revT, seq?, setO, assignT, assignTs, isTy, List.getElem?_cons_zero, List.getElem?_cons_succ, Option.join_some, List.set_cons_zero, List.set_cons_succ, List.length_cons, List.length_nil, Res.bind, if_true, if_false, Nat.lt_irrefl, Bool.not_true, Bool.not_false, reduceIte, Bool.false_eq_true, toDs_val, trees_val, k1, k26, m5, q2, q3, g1, t30, t31, t32, isN_int]
    · have q2 : (th t s e (h + tk ds (t * e)) == w) = false := by rw [beq_eq_false_iff_ne]; exact q
      generalize th t s e (h + tk ds (t * e)) = z at *
      unfold J47 E47
      simp only [evS, exS, okb, stb, seqS, one, stepE_none, stepE_bl, stepE_int, stepE_str, stepE_var, stepE_glb, stepE_tup, stepE_lst, stepE_op1, stepE_op2, stepE_not, stepE_and, stepE_or, stepE_ite, stepE_chain, stepE_slice, stepE_call, evD, evDs, evArgs, optI, truthE, truth, O.tree, O.toD, O.trees, O.toDs, v_add, v_sub, v_le, v_lt, v_ge, v_gt, v_min, v_max, v_eq, v_ne, v_is, v_isnt, v_t20, v_t21, u_lenL, u_lenT2, beq_self_eq_true, decide_true, Nat.reduceAdd, Nat.reduceLT, Nat.zero_add, Bool.and_self, Bool.and_true, Bool.true_and, u_isT, u_int, u_intB, u_abs, u_neg, u_tupL, u_revT, seq?, setO, assignT, assignTs, isTy, List.getElem?_cons_zero, List.getElem?_cons_succ, Option.join_some, List.set_cons_zero, List.set_cons_succ, List.length_cons, List.length_nil, Res.bind, if_true, if_false, Nat.lt_irrefl, Bool.not_true, Bool.not_false, reduceIte, Bool.false_eq_true, toDs_val, trees_val, k1, k26, m5, q2, g1, t30, t31, t32]
theorem i47_10 (n : Nat) : ∃ ds' b18 b23, Ev.one Tb (evN Tb (n + 168)) (exN Tb (n + 168)) I47_10 (E47 ns ds a2 (some (.val (dc t s e))) (some (.val (fr c))) a5 a6 a7 a8 a9 a10 a11 a12 a13 a14 a15 (some (.val (.int w))) (some (.val (nxD t s e w h))) a18 (some (.val (.int h))) (some (.val (.int p))) (some (.val (.int (th t s e h)))) (some (.val (.int (h / e)))) a23) = .ok (.next, (E47 ns ds' a2 (some (.val (dc t s e))) (some (.val (fr c))) a5 a6 a7 a8 a9 a10 a11 a12 a13 a14 a15 (some (.val (.int w))) (some (.val (nxD t s e w h))) b18 (some (.val (.int h))) (some (.val (.int p))) (some (.val (.int (th t s e h)))) (some (.val (.int (h / e)))) b23)) := by
  obtain ⟨env', hl, ds', b18, b23, he⟩ := loop_inv (body := exN Tb (n + 168) J47) (t := .nm 18) (fun env => ∃ ds b18 b23, env = (E47 ns ds a2 (some (.val (dc t s e))) (some (.val (fr c))) a5 a6 a7 a8 a9 a10 a11 a12 a13 a14 a15 (some (.val (.int w))) (some (.val (nxD t s e w h))) b18 (some (.val (.int h))) (some (.val (.int p))) (some (.val (.int (th t s e h)))) (some (.val (.int (h / e)))) b23)) (ds := rangeD 0 6) (env := (E47 ns ds a2 (some (.val (dc t s e))) (some (.val (fr c))) a5 a6 a7 a8 a9 a10 a11 a12 a13 a14 a15 (some (.val (.int w))) (some (.val (nxD t s e w h))) a18 (some (.val (.int h))) (some (.val (.int p))) (some (.val (.int (th t s e h)))) (some (.val (.int (h / e)))) a23)) ⟨_, _, _, rfl⟩ (by
    rintro v _ env ⟨ds, b18, b23, rfl⟩
    obtain ⟨ds', c23, hj⟩ := j47 ns ds a2 a5 a6 a7 a8 a9 a10 a11 a12 a13 a14 a15 d (c := c) (p := p) h0 h1 w0 w1 n (some (.val v)) b23
    exact ⟨(E47 ns ds a2 (some (.val (dc t s e))) (some (.val (fr c))) a5 a6 a7 a8 a9 a10 a11 a12 a13 a14 a15 (some (.val (.int w))) (some (.val (nxD t s e w h))) (some (.val v)) (some (.val (.int h))) (some (.val (.int p))) (some (.val (.int (th t s e h)))) (some (.val (.int (h / e)))) b23), _, rfl, hj, _, _, _, rfl⟩)
  subst he
  exact ⟨ds', b18, b23, one_for (items_range (j := 6) (env1 := (E47 ns ds a2 (some (.val (dc t s e))) (some (.val (fr c))) a5 a6 a7 a8 a9 a10 a11 a12 a13 a14 a15 (some (.val (.int w))) (some (.val (nxD t s e w h))) a18 (some (.val (.int h))) (some (.val (.int p))) (some (.val (.int (th t s e h)))) (some (.val (.int (h / e)))) a23)) (by unfold E47; simp only [evS, exS, okb, stb, seqS, one, stepE_none, stepE_bl, stepE_int, stepE_str, stepE_var, stepE_glb, stepE_tup, stepE_lst, stepE_op1, stepE_op2, stepE_not, stepE_and, stepE_or, stepE_ite, stepE_chain, stepE_slice, stepE_call, evD, evDs, evArgs, optI, truthE, truth, O.tree, O.toD, O.trees, O.toDs, v_add, v_sub, v_le, v_lt, v_ge, v_gt, v_min, v_max, v_eq, v_ne, v_is, v_isnt, v_t20, v_t21, u_lenL, u_lenT2, beq_self_eq_true, decide_true, Nat.reduceAdd, Nat.reduceLT, Nat.zero_add, Bool.and_self, Bool.and_true, Bool.true_and, u_isT, u_int, u_intB, u_abs, u_neg, u_tupL, u_revT, seq?, setO, assignT, assignTs, isTy, List.getElem?_cons_zero, List.getElem?_cons_succ, Option.join_some, List.set_cons_zero, List.set_cons_succ, List.length_cons, List.length_nil, Res.bind, if_true, if_false, Nat.lt_irrefl, Bool.not_true, Bool.not_false, reduceIte, Bool.false_eq_true, toDs_val, trees_val]) (by decide) rfl) hl⟩
end
end Hd

end
section
set_option autoImplicit false
set_option linter.all false
set_option maxRecDepth 100000
set_option maxHeartbeats 1000000
namespace Hd
open PySem Ev
abbrev I47 : List Ev.S := [I47_1, I47_2, I47_3, I47_4, I47_5, I47_6, I47_7, I47_8, I47_9, I47_10]
section
variable (ns ds : List Int) (a2 a3 a4 a5 a6 a7 a8 a9 a10 a11 a12 a13 a14 a15 a16 a17 a18 a19 a20 a21 a22 a23 : Option O) {t s e : Int} (d : Dc t s e) {c : Rat}
include d
theorem turnI (n : Nat) : ∃ ds' b16 b17 b18 b19 b20 b21 b22 b23, exN Tb (n + 169) I47 (E47 ns ds a2 (some (.val (dc t s e))) (some (.val (fr c))) a5 a6 a7 a8 a9 a10 a11 a12 a13 a14 a15 a16 a17 a18 a19 a20 a21 a22 a23) = .ok (.next, (E47 ns ds' a2 (some (.val (dc t s e))) (some (.val (fr c))) a5 a6 a7 a8 a9 a10 a11 a12 a13 a14 a15 b16 b17 b18 b19 b20 b21 b22 b23)) := by
  obtain ⟨h, p, ds1, h0, h1, p0, p1, x1⟩ := i47_1 ns ds a2 (some (.val (dc t s e))) (some (.val (fr c))) a5 a6 a7 a8 a9 a10 a11 a12 a13 a14 a15 a16 a17 a18 a19 a20 a21 a22 a23
  have x2 := i47_2 ns ds1 a2 a5 a6 a7 a8 a9 a10 a11 a12 a13 a14 a15 a16 a17 a18 a21 a22 a23 d (c := c) (p := p) h0 h1 n
  have x3 := i47_3 ns ds1 a2 a5 a6 a7 a8 a9 a10 a11 a12 a13 a14 a15 a16 a17 a18 a23 d (c := c) (p := p) h0 h1 n
  have x4 := i47_4 ns ds1 a2 a5 a6 a7 a8 a9 a10 a11 a12 a13 a14 a15 a16 a17 a18 a23 d (c := c) (p := p) h0 h1 p0 p1 n
  obtain ⟨w, ds5, w0, w1, x5⟩ := i47_5 ns ds1 a2 a5 a6 a7 a8 a9 a10 a11 a12 a13 a14 a15 a16 a17 a18 a23 d (c := c) (h := h) (p := p)
  have x6 := i47_6 ns ds5 a2 a5 a6 a7 a8 a9 a10 a11 a12 a13 a14 a15 a17 a18 a23 d (c := c) (p := p) h0 h1 w0 w1 n
  have x7 := i47_7 ns ds5 a2 a5 a6 a7 a8 a9 a10 a11 a12 a13 a14 a15 a18 a23 d (c := c) (p := p) h0 h1 w0 w1 n
  have x8 := i47_8 ns ds5 a2 a5 a6 a7 a8 a9 a10 a11 a12 a13 a14 a15 a18 a23 d (c := c) (p := p) h0 h1 w0 w1 n
  have x9 := i47_9 ns ds5 a2 a5 a6 a7 a8 a9 a10 a11 a12 a13 a14 a15 a18 a23 d (c := c) (p := p) h0 h1 w0 w1 n
  obtain ⟨ds10, b18, b23, x10⟩ := i47_10 ns ds5 a2 a5 a6 a7 a8 a9 a10 a11 a12 a13 a14 a15 a18 a23 d (c := c) (p := p) h0 h1 w0 w1 n
  refine ⟨ds10, (some (.val (.int w))), (some (.val (nxD t s e w h))), b18, (some (.val (.int h))), (some (.val (.int p))), (some (.val (.int (th t s e h)))), (some (.val (.int (h / e)))), b23, (exS (n := n + 168) _ _).trans ?_⟩
  refine seq_next (x1 n) ?_
  refine seq_next x2 ?_
  refine seq_next x3 ?_
  refine seq_next x4 ?_
  refine seq_next (x5 n) ?_
  refine seq_next x6 ?_
  refine seq_next x7 ?_
  refine seq_next x8 ?_
  refine seq_next x9 ?_
  refine seq_next x10 ?_
  exact seq_nil

theorem t47_10 (n : Nat) : ∃ ds' b6 b16 b17 b18 b19 b20 b21 b22 b23, Ev.one Tb (evN Tb (n + 169)) (exN Tb (n + 169)) T47_10 (E47 ns ds a2 (some (.val (dc t s e))) (some (.val (fr c))) a5 a6 a7 a8 a9 a10 a11 a12 a13 a14 a15 a16 a17 a18 a19 a20 a21 a22 a23) = .ok (.next, (E47 ns ds' a2 (some (.val (dc t s e))) (some (.val (fr c))) a5 b6 a7 a8 a9 a10 a11 a12 a13 a14 a15 b16 b17 b18 b19 b20 b21 b22 b23)) := by
  obtain ⟨env', hl, ds', b6, b16, b17, b18, b19, b20, b21, b22, b23, he⟩ := loop_inv (body := exN Tb (n + 169) I47) (t := .nm 6) (fun env => ∃ ds b6 b16 b17 b18 b19 b20 b21 b22 b23, env = (E47 ns ds a2 (some (.val (dc t s e))) (some (.val (fr c))) a5 b6 a7 a8 a9 a10 a11 a12 a13 a14 a15 b16 b17 b18 b19 b20 b21 b22 b23)) (ds := rangeD 0 6) (env := (E47 ns ds a2 (some (.val (dc t s e))) (some (.val (fr c))) a5 a6 a7 a8 a9 a10 a11 a12 a13 a14 a15 a16 a17 a18 a19 a20 a21 a22 a23)) ⟨_, _, _, _, _, _, _, _, _, _, rfl⟩ (by
    rintro v _ env ⟨ds, b6, b16, b17, b18, b19, b20, b21, b22, b23, rfl⟩
    obtain ⟨ds', c16, c17, c18, c19, c20, c21, c22, c23, hj⟩ := turnI ns ds a2 a5 (some (.val v)) a7 a8 a9 a10 a11 a12 a13 a14 a15 b16 b17 b18 b19 b20 b21 b22 b23 d (c := c) n
    exact ⟨(E47 ns ds a2 (some (.val (dc t s e))) (some (.val (fr c))) a5 (some (.val v)) a7 a8 a9 a10 a11 a12 a13 a14 a15 b16 b17 b18 b19 b20 b21 b22 b23), _, rfl, hj, _, _, _, _, _, _, _, _, _, _, rfl⟩)
  subst he
  exact ⟨ds', b6, b16, b17, b18, b19, b20, b21, b22, b23, one_for (items_range (j := 6) (env1 := (E47 ns ds a2 (some (.val (dc t s e))) (some (.val (fr c))) a5 a6 a7 a8 a9 a10 a11 a12 a13 a14 a15 a16 a17 a18 a19 a20 a21 a22 a23)) (by unfold E47; simp only [evS, exS, okb, stb, seqS, one, stepE_none, stepE_bl, stepE_int, stepE_str, stepE_var, stepE_glb, stepE_tup, stepE_lst, stepE_op1, stepE_op2, stepE_not, stepE_and, stepE_or, stepE_ite, stepE_chain, stepE_slice, stepE_call, evD, evDs, evArgs, optI, truthE, truth, O.tree, O.toD, O.trees, O.toDs, v_add, v_sub, v_le, v_lt, v_ge, v_gt, v_min, v_max, v_eq, v_ne, v_is, v_isnt, v_t20, v_t21, u_lenL, u_lenT2, beq_self_eq_true, decide_true, Nat.reduceAdd, Nat.reduceLT, Nat.zero_add, Bool.and_self, Bool.and_true, Bool.true_and, u_isT, u_int, u_intB, u_abs, u_neg, u_tupL, u_revT, seq?, setO, assignT, assignTs, isTy, List.getElem?_cons_zero, List.getElem?_cons_succ, Option.join_some, List.set_cons_zero, List.set_cons_succ, List.length_cons, List.length_nil, Res.bind, if_true, if_false, Nat.lt_irrefl, Bool.not_true, Bool.not_false, reduceIte, Bool.false_eq_true, toDs_val, trees_val]) (by decide) rfl) hl⟩
end
abbrev body47 : List Ev.S := [T47_1, T47_2, T47_3, T47_4, T47_5, T47_6, T47_7, T47_8, T47_9, T47_10, T47_11, T47_12, T47_13, T47_14, T47_15, T47_16, T47_17, T47_18]
theorem turn47 (n : Nat) (ns ds : List Int) (a2 a3 a4 a5 a6 a7 a8 a9 a10 a11 a12 a13 a14 a15 a16 a17 a18 a19 a20 a21 a22 a23 : Option O) : ∃ (t s e : Int) (c : Rat) (ds' : List Int) (z5 z6 z7 z8 z9 z10 z11 z12 z13 z14 z15 z16 z17 z18 z19 z20 z21 z22 z23 : Option O), Dc t s e ∧ Tr c ∧ exN Tb (n + 170) body47 (E47 ns ds a2 a3 a4 a5 a6 a7 a8 a9 a10 a11 a12 a13 a14 a15 a16 a17 a18 a19 a20 a21 a22 a23) = .ok (.next, (E47 ns ds' a2 (some (.val (dc t s e))) (some (.val (fr c))) z5 z6 z7 z8 z9 z10 z11 z12 z13 z14 z15 z16 z17 z18 z19 z20 z21 z22 z23)) := by
  obtain ⟨t, s, e, ds1, d, x1⟩ := t47_1 ns ds a2 a3 a4 a5 a6 a7 a8 a9 a10 a11 a12 a13 a14 a15 a16 a17 a18 a19 a20 a21 a22 a23
  obtain ⟨c, ds2, h, x2⟩ := t47_2 ns ds1 a2 a4 a5 a6 a7 a8 a9 a10 a11 a12 a13 a14 a15 a16 a17 a18 a19 a20 a21 a22 a23 d
  have x3 := t47_3 ns ds2 a2 a5 a6 a7 a8 a9 a10 a11 a12 a13 a14 a15 a16 a17 a18 a19 a20 a21 a22 a23 d h n
  have x4 := t47_4 ns ds2 a2 a5 a6 a7 a8 a9 a10 a11 a14 a15 a16 a17 a18 a19 a20 a21 a22 a23 d h n
  obtain ⟨w, ds5, bw, w0, x5⟩ := t47_5 ns ds2 a2 a5 a6 a7 a8 a9 a10 a11 a14 a15 a16 a17 a18 a19 a20 a21 a22 a23 d h
  have x6 := t47_6 ns ds5 a2 a5 a6 a7 a8 a9 a10 a11 a16 a17 a18 a19 a20 a21 a22 a23 d h bw w0 n
  have x7 := t47_7 ns ds5 a2 a6 a7 a8 a9 a10 a11 a16 a17 a18 a19 a20 a21 a22 a23 d h bw w0 n
  have x8 := t47_8 ns ds5 a2 a6 a7 a8 a9 a10 a11 a16 a17 a18 a19 a20 a21 a22 a23 d h bw w0 n
  have x9 := t47_9 ns ds5 a2 a6 a7 a8 a9 a10 a11 a16 a17 a18 a19 a20 a21 a22 a23 d h bw w0 n
  obtain ⟨ds10, b6, b16, b17, b18, b19, b20, b21, b22, b23, x10⟩ := t47_10 ns ds5 a2 (some (.val (wnD (dft t s e c) w))) a6 a7 a8 a9 a10 a11 (some (.val (fr (dft t s e c)))) (some (.val (fr (rnd t s e)))) (some (.val (.int w.num))) (some (.val (.int (w.den : Int)))) a16 a17 a18 a19 a20 a21 a22 a23 d (c := c) n
  obtain ⟨k, ds11, k0, k1, x11⟩ := t47_11 ns ds10 a2 b6 a7 a8 a9 a10 a11 b16 b17 b18 b19 b20 b21 b22 b23 (t := t) (s := s) (e := e) (c := c) (w := w)
  have x12 := t47_12 ns ds11 a2 b6 a8 a9 a10 a11 b16 b17 b18 b19 b20 b21 b22 b23 d h (w := w) k0 k1 n
  have x13 := t47_13 ns ds11 a2 b6 a9 a10 a11 b16 b17 b18 b19 b20 b21 b22 b23 d h (w := w) k0 k1 n
  rw [bst_off d c k] at x12 x13
  have x14 := t47_14 ns ds11 a2 b6 a10 a11 b16 b17 b18 b19 b20 b21 b22 b23 d h (w := w) k0 k1 n
  have x15 := t47_15 ns ds11 a2 b6 a11 b16 b17 b18 b19 b20 b21 b22 b23 d h (w := w) k0 k1 n
  have x16 := t47_16 ns ds11 a2 b6 a11 b16 b17 b18 b19 b20 b21 b22 b23 (t := t) (s := s) (e := e) (c := c) (w := w) (k := k) n
  obtain ⟨t', s', d', hr, x17⟩ := t47_17 ns ds11 a2 b6 b16 b17 b18 b19 b20 b21 b22 b23 d (c := c) (w := w) (k := k) n
  have x18 := t47_18 ns ds11 a2 b6 b16 b17 b18 b19 b20 b21 b22 b23 d h bw w0 (k := k) d' hr n
  refine ⟨t, s, e, c, ds11, (some (.val (wnD (dft t s e c) w))), b6, (some (.val (.int k))), (some (.val (.int (bst (offQ t s e c k).num ((offQ t s e c k).den : Int))))), (some (.val (fr (offQ t s e c k)))), (some (.val (.int (iab (bst (offQ t s e c k).num ((offQ t s e c k).den : Int) * ((offQ t s e c k).den : Int) - (offQ t s e c k).num))))), (some (.val (dc t' s' e))), (some (.val (fr (dft t s e c)))), (some (.val (fr (rnd t s e)))), (some (.val (.int w.num))), (some (.val (.int (w.den : Int)))), b16, b17, b18, b19, b20, b21, b22, b23, d, h, (exS (n := n + 169) _ _).trans ?_⟩
  refine seq_next (x1 n) ?_
  refine seq_next (x2 n) ?_
  refine seq_next x3 ?_
  refine seq_next x4 ?_
  refine seq_next (x5 n) ?_
  refine seq_next x6 ?_
  refine seq_next x7 ?_
  refine seq_next x8 ?_
  refine seq_next x9 ?_
  refine seq_next x10 ?_
  refine seq_next (x11 n) ?_
  refine seq_next x12 ?_
  refine seq_next x13 ?_
  refine seq_next x14 ?_
  refine seq_next x15 ?_
  refine seq_next x16 ?_
  refine seq_next x17 ?_
  refine seq_next x18 ?_
  exact seq_nil

end Hd

end
section
set_option autoImplicit false
set_option linter.all false
set_option maxRecDepth 100000
namespace Hd
open PySem Ev
/-! the best of so many teeth -/
section
variable {c : Rat} (h : Tr c) {e : Int} (e0 : 1 ≤ e) {t : Int} (t0 : 1 ≤ t)
include h e0 t0
theorem c_pos : 0 < c ∧ 0 < c.num := by
  have h1 := h.lo
  have h2 := dpos c
  have h3 : 0 < c.num := by omega
  refine ⟨?_, h3⟩
  have h4 : ¬ c ≤ 0 := fun q => by
    have := (Rat.le_iff c 0).mp q
    have e1 : (0 : Rat).num = 0 := rfl
    have e2 : (((0 : Rat).den : Nat) : Int) = 1 := rfl
    rw [e1, e2] at this
    omega
  exact Rat.not_le.mp h4
theorem rnd_mul {s : Int} (s0 : 1 ≤ s) : rnd t s e * (s : Rat) = ((t * e : Int) : Rat) := Rat.div_mul_cancel (pos_cast (by omega))
theorem rnd_lt {s s' : Int} (s0 : 1 ≤ s) (hs : s < s') : rnd t s' e < rnd t s e := by
  have a1 := rnd_mul h e0 t0 s0
  have a2 := rnd_mul h e0 t0 (show 1 ≤ s' by omega)
  have v0 : (0 : Rat) < ((t * e : Int) : Rat) := Rat.intCast_pos.mpr (Int.mul_pos (by omega) (by omega))
  have p1 : (0 : Rat) < (s : Rat) := Rat.intCast_pos.mpr (by omega)
  have p2 : (0 : Rat) < (s' : Rat) := Rat.intCast_pos.mpr (by omega)
  have p3 : (s : Rat) < (s' : Rat) := Rat.intCast_lt_intCast.mpr hs
  have u0 : 0 < rnd t s' e := by
    unfold rnd
    rw [Rat.div_def]
    exact Rat.mul_pos v0 (Rat.inv_pos.mpr p2)
  refine Rat.not_le.mp fun q => ?_
  have b1 := Rat.mul_le_mul_of_nonneg_right (c := (s : Rat)) q (by grind)
  have b2 : rnd t s' e * (s : Rat) < rnd t s' e * (s' : Rat) := Rat.mul_lt_mul_of_pos_left p3 u0
  grind
theorem le_nr {s : Int} (s0 : 1 ≤ s) : s ≤ nr c e t ↔ c ≤ rnd t s e := by
  obtain ⟨cp, cn⟩ := c_pos h e0 t0
  have a1 := rnd_mul h e0 t0 s0
  have p1 : (0 : Rat) < (s : Rat) := Rat.intCast_pos.mpr (by omega)
  have pd : (0 : Rat) < ((c.den : Int) : Rat) := Rat.intCast_pos.mpr (dpos c)
  have hn := num_den c
  unfold nr
  rw [Int.le_ediv_iff_mul_le cn, ← Rat.intCast_le_intCast, Rat.intCast_mul, Rat.intCast_mul (t * e), ← hn, ← a1]
  rw [show (s : Rat) * (c * ((c.den : Int) : Rat)) = c * ((s : Rat) * ((c.den : Int) : Rat)) by grind, show rnd t s e * (s : Rat) * ((c.den : Int) : Rat) = rnd t s e * ((s : Rat) * ((c.den : Int) : Rat)) by grind]
  have pp : (0 : Rat) < (s : Rat) * ((c.den : Int) : Rat) := Rat.mul_pos p1 pd
  exact ⟨fun q => Rat.le_of_mul_le_mul_right q pp, fun q => Rat.mul_le_mul_of_nonneg_right q (by grind)⟩
theorem W_low {s : Int} (s0 : 1 ≤ s) (q : s ≤ nr c e t) : W c e (t, s) = rnd t s e - c := by
  have := (le_nr h e0 t0 s0).mp q
  unfold W ab
  dsimp only
  rw [if_neg (by unfold dft; grind)]
theorem W_high {s : Int} (s0 : 1 ≤ s) (q : nr c e t < s) : W c e (t, s) = c - rnd t s e := by
  have : rnd t s e < c := Rat.not_le.mp fun z => by have := (le_nr h e0 t0 s0).mpr z; omega
  unfold W ab
  dsimp only
  rw [if_pos (by unfold dft; grind)]
  unfold dft
  grind
theorem W_dec {s s' : Int} (s0 : 1 ≤ s) (hs : s < s') (q : s' ≤ nr c e t) : W c e (t, s') < W c e (t, s) := by
  rw [W_low h e0 t0 s0 (by omega), W_low h e0 t0 (by omega) q]
  have := rnd_lt h e0 t0 s0 hs
  grind
theorem W_inc {s s' : Int} (s0 : 1 ≤ s) (hs : s < s') (q : nr c e t < s) : W c e (t, s) < W c e (t, s') := by
  rw [W_high h e0 t0 s0 q, W_high h e0 t0 (by omega) (by omega)]
  have := rnd_lt h e0 t0 s0 hs
  grind
theorem best_le {s : Int} (s0 : 1 ≤ s) (s1 : s ≤ t) : W c e (t, bsS c e t) ≤ W c e (t, s) ∧ (W c e (t, bsS c e t) = W c e (t, s) → bsS c e t ≤ s) := by
  have n0 : 0 ≤ nr c e t := by
    obtain ⟨cp, cn⟩ := c_pos h e0 t0
    exact Int.ediv_nonneg (Int.mul_nonneg (Int.mul_nonneg (by omega) (by omega)) (by have := dpos c; omega)) (by omega)
  have dec := fun x y => W_dec h e0 t0 (s := x) (s' := y)
  have inc := fun x y => W_inc h e0 t0 (s := x) (s' := y)
  unfold bsS
  generalize nr c e t = N at *
  by_cases c1 : N < 1
  · have ea : clm t N = 1 := by unfold clm; grind
    have eb : clm t (N + 1) = 1 := by unfold clm; grind
    rw [ea, eb, if_neg (Rat.lt_irrefl)]
    by_cases q : s = 1
    · subst q; exact ⟨Rat.le_refl, fun _ => Int.le_refl _⟩
    · have := inc 1 s (by omega) (by omega) (by omega)
      exact ⟨by grind, fun _ => s0⟩
  · by_cases c2 : N < t
    · have ea : clm t N = N := by unfold clm; grind
      have eb : clm t (N + 1) = N + 1 := by unfold clm; grind
      rw [ea, eb]
      have low : s ≤ N → W c e (t, N) ≤ W c e (t, s) ∧ (W c e (t, N) = W c e (t, s) → N ≤ s) := fun q => by
        by_cases q2 : s = N
        · subst q2; exact ⟨Rat.le_refl, fun _ => Int.le_refl _⟩
        · have := dec s N s0 (by omega) (by omega)
          exact ⟨by grind, fun z => by grind⟩
      have high : N + 1 ≤ s → W c e (t, N + 1) ≤ W c e (t, s) := fun q => by
        by_cases q2 : s = N + 1
        · subst q2; exact Rat.le_refl
        · have := inc (N + 1) s (by omega) (by omega) (by omega)
          grind
      by_cases q : s ≤ N
      · obtain ⟨l1, l2⟩ := low q
        split
        · exact ⟨by grind, fun z => by grind⟩
        · exact ⟨l1, l2⟩
      · have l1 := high (by omega)
        split
        · exact ⟨l1, fun _ => by omega⟩
        · exact ⟨by grind, fun _ => by omega⟩
    · have ea : clm t N = t := by unfold clm; grind
      have eb : clm t (N + 1) = t := by unfold clm; grind
      rw [ea, eb, if_neg (Rat.lt_irrefl)]
      by_cases q : s = t
      · subst q; exact ⟨Rat.le_refl, fun _ => Int.le_refl _⟩
      · have := dec s t s0 (by omega) (by omega)
        exact ⟨by grind, fun z => by grind⟩
end
/-! the row -/
theorem row_succ (c : Rat) (e : Int) {m : Int} (hm : 1 ≤ m) : row c e (m + 1) = addB c e (row c e m) (m + 1) := by
  unfold row teeth
  rw [show (m + 1 - 1).toNat = (m - 1).toNat + 1 by omega, List.range_succ, List.map_append, List.foldl_append]
  show addB c e _ (2 + (((m - 1).toNat : Nat) : Int)) = _
  rw [show 2 + (((m - 1).toNat : Nat) : Int) = m + 1 by omega]
theorem addB_app (c : Rat) (e : Int) (l : List (Int × Int)) (t : Int) : ∃ x, addB c e l t = l ++ x ∧ ∀ p ∈ x, p = (t, bsS c e t) := by
  unfold addB
  split
  · exact ⟨_, rfl, fun p hp => by rwa [List.mem_singleton] at hp⟩
  · split
    · exact ⟨_, rfl, fun p hp => by rwa [List.mem_singleton] at hp⟩
    · exact ⟨[], by rw [List.append_nil], fun p hp => nomatch hp⟩
theorem row_app (c : Rat) (e : Int) {T : Int} (hT : 1 ≤ T) : ∀ k : Nat, ∃ x, row c e (T + k) = row c e T ++ x ∧ ∀ p ∈ x, T < p.1
  | 0 => ⟨[], by rw [List.append_nil]; exact congrArg (row c e) (show T + ((0 : Nat) : Int) = T by omega), fun p hp => nomatch hp⟩
  | k + 1 => by
    obtain ⟨x, h1, h2⟩ := row_app c e hT k
    obtain ⟨y, h3, h4⟩ := addB_app c e (row c e (T + k)) (T + k + 1)
    refine ⟨x ++ y, ?_, fun p hp => ?_⟩
    · rw [show T + ((k + 1 : Nat) : Int) = T + k + 1 by omega, row_succ c e (by omega), h3, h1, List.append_assoc]
    · rcases List.mem_append.mp hp with hp | hp
      · exact h2 p hp
      · rw [h4 p hp]
        show T < T + k + 1
        omega
/-- what is true of a row -/
structure RowOk (c : Rat) (e m : Int) (l : List (Int × Int)) (p : Int × Int) : Prop where
  is : row c e m = l ++ [p]
  lo : ∀ q ∈ l ++ [p], 2 ≤ q.1 ∧ q.1 ≤ m ∧ q.2 = bsS c e q.1
  best : ∀ t, 2 ≤ t → t ≤ m → W c e p ≤ W c e (t, bsS c e t)
  pw : (l ++ [p]).Pairwise fun x y => x.1 < y.1 ∧ W c e y < W c e x
theorem row_ok (c : Rat) (e : Int) : ∀ k : Nat, ∃ l p, RowOk c e (2 + k) l p
  | 0 => ⟨[], (2, bsS c e 2), rfl, fun q hq => by
      rw [List.nil_append, List.mem_singleton] at hq
      subst hq
      exact ⟨Int.le_refl _, Int.le_refl _, rfl⟩, fun t h1 h2 => by
      have : t = 2 := by
        have : (2 : Int) + ((0 : Nat) : Int) = 2 := rfl
        omega
      subst this
      exact Rat.le_refl, List.pairwise_singleton _ _⟩
  | k + 1 => by
    obtain ⟨l, p, r⟩ := row_ok c e k
    have hs : row c e (2 + ((k + 1 : Nat) : Int)) = addB c e (l ++ [p]) (2 + k + 1) := by
      rw [← r.is, show 2 + ((k + 1 : Nat) : Int) = 2 + k + 1 by omega, row_succ c e (by omega)]
    unfold addB at hs
    rw [List.getLast?_concat] at hs
    dsimp only at hs
    have hp := r.lo p (List.mem_append_right _ (List.mem_singleton.mpr rfl))
    split at hs
    · rename_i hw
      refine ⟨l ++ [p], (2 + k + 1, bsS c e (2 + k + 1)), hs, fun q hq => ?_, fun t h1 h2 => ?_, ?_⟩
      · rcases List.mem_append.mp hq with hq | hq
        · have := r.lo q hq
          exact ⟨this.1, by omega, this.2.2⟩
        · rw [List.mem_singleton] at hq
          subst hq
          exact ⟨by show 2 ≤ 2 + (k : Int) + 1; omega, by show 2 + (k : Int) + 1 ≤ _; omega, rfl⟩
      · by_cases ht : t = 2 + k + 1
        · subst ht; exact Rat.le_refl
        · have := r.best t h1 (by omega)
          grind
      · refine List.pairwise_append.mpr ⟨r.pw, List.pairwise_singleton _ _, fun x hx y hy => ?_⟩
        rw [List.mem_singleton] at hy
        subst hy
        refine ⟨?_, ?_⟩
        · have := (r.lo x hx).2.1
          show x.1 < 2 + (k : Int) + 1
          omega
        · rcases List.mem_append.mp hx with hx | hx
          · have := ((List.pairwise_append.mp r.pw).2.2 x hx p (List.mem_singleton.mpr rfl)).2
            grind
          · rw [List.mem_singleton] at hx
            subst hx
            exact hw
    · rename_i hw
      refine ⟨l, p, hs, fun q hq => ?_, fun t h1 h2 => ?_, r.pw⟩
      · have := r.lo q hq
        exact ⟨this.1, by omega, this.2.2⟩
      · by_cases ht : t = 2 + k + 1
        · subst ht; exact Rat.not_lt.mp hw
        · exact r.best t h1 (by omega)
theorem row_at (c : Rat) (e : Int) {m : Int} (m0 : 2 ≤ m) : ∃ l p, RowOk c e m l p := by
  obtain ⟨l, p, r⟩ := row_ok c e (m - 2).toNat
  rw [show 2 + (((m - 2).toNat : Nat) : Int) = m by omega] at r
  exact ⟨l, p, r⟩
theorem row_cut (c : Rat) (e : Int) {T m : Int} (T0 : 1 ≤ T) (Tm : T ≤ m) : ∃ x, row c e m = row c e T ++ x ∧ ∀ p ∈ x, T < p.1 := by
  obtain ⟨x, h⟩ := row_app c e T0 (m - T).toNat
  rw [show T + (((m - T).toNat : Nat) : Int) = m by omega] at h
  exact ⟨x, h⟩
end Hd

end
section
set_option autoImplicit false
set_option linter.all false
set_option maxRecDepth 100000
set_option maxHeartbeats 1000000
namespace Hd
open PySem Ev
abbrev S46_1 : Ev.S := (.asg (.tup [(.nm 6), (.nm 7)]) (.tup [(.call 22 [(.var 1), (.var 2), (.var 3)]), (.call 23 [(.var 1), (.var 2), (.var 3)])]))
abbrev S46_2 : Ev.S := (.ifS (.or (.op2 .ne (.op2 .idx (.var 7) (.op2 .sub (.op1 .len (.var 7)) (.int 1))) (.var 6)) (.op2 .ne (.comp (.var 13) (.nm 13) (.seq (.var 7)) (some (.or (.not (.call 7 [(.var 13)])) (.or (.op2 .ne (.op2 .idx (.var 13) (.int 2)) (.var 2)) (.op2 .gt (.op2 .idx (.var 13) (.int 0)) (.var 3)))))) (.lst []))) [(.ret (.bl false))] [])
abbrev S46_3 : Ev.S := (.asg (.nm 4) (.comp (.call 45 [(.call 43 [(.var 13), (.var 1)])]) (.nm 13) (.seq (.var 7)) none))
abbrev S46_4 : Ev.S := (.ifS (.op2 .ne (.comp (.var 14) (.nm 14) (.range (.op2 .sub (.op1 .len (.var 7)) (.int 1))) (some (.or (.op2 .ge (.op2 .idx (.op2 .idx (.var 7) (.var 14)) (.int 0)) (.op2 .idx (.op2 .idx (.var 7) (.op2 .add (.var 14) (.int 1))) (.int 0))) (.call 40 [(.op2 .idx (.var 4) (.var 14)), (.op2 .idx (.var 4) (.op2 .add (.var 14) (.int 1)))])))) (.lst [])) [(.ret (.bl false))] [])
abbrev S46_5 : Ev.S := (.forS (.nm 5) (.range (.int 20)) [(.asg (.nm 8) (.op2 .add (.int 2) (.call 36 [(.lend 0), (.op2 .sub (.var 3) (.int 1))]))), (.asg (.nm 9) (.op2 .fdiv (.op2 .mul (.op2 .mul (.var 8) (.var 2)) (.op2 .idx (.var 1) (.int 1))) (.op2 .idx (.var 1) (.int 0)))), (.asg (.nm 10) (.tup [(.var 8), (.op2 .max2 (.int 1) (.op2 .min2 (.var 8) (.call 37 [(.lend 0), (.lst [(.var 9), (.op2 .add (.var 9) (.int 1)), (.op2 .add (.int 1) (.call 36 [(.lend 0), (.var 8)]))])]))), (.var 2)])), (.asg (.nm 11) (.slice (.comp (.var 14) (.nm 14) (.range (.op1 .len (.var 7))) (some (.op2 .le (.op2 .idx (.op2 .idx (.var 7) (.var 14)) (.int 0)) (.var 8)))) (some (.op1 .neg (.int 1))) none)), (.asg (.nm 12) (.call 45 [(.call 43 [(.var 10), (.var 1)])])), (.ifS (.or (.op2 .eq (.var 11) (.lst [])) (.or (.not (.call 40 [(.op2 .idx (.var 4) (.op2 .idx (.var 11) (.int 0))), (.var 12)])) (.and (.op2 .eq (.var 12) (.op2 .idx (.var 4) (.op2 .idx (.var 11) (.int 0)))) (.op2 .lt (.tup [(.op2 .idx (.var 10) (.int 0)), (.op2 .idx (.var 10) (.int 1))]) (.tup [(.op2 .idx (.op2 .idx (.var 7) (.op2 .idx (.var 11) (.int 0))) (.int 0)), (.op2 .idx (.op2 .idx (.var 7) (.op2 .idx (.var 11) (.int 0))) (.int 1))]))))) [(.ret (.bl false))] []), (.ifS (.op2 .ne (.call 22 [(.var 1), (.var 2), (.var 8)]) (.op2 .idx (.var 7) (.op2 .idx (.var 11) (.int 0)))) [(.ret (.bl false))] [])])
abbrev S46_6 : Ev.S := (.ret (.bl true))
abbrev I46_1 : Ev.S := (.asg (.nm 8) (.op2 .add (.int 2) (.call 36 [(.lend 0), (.op2 .sub (.var 3) (.int 1))])))
abbrev I46_2 : Ev.S := (.asg (.nm 9) (.op2 .fdiv (.op2 .mul (.op2 .mul (.var 8) (.var 2)) (.op2 .idx (.var 1) (.int 1))) (.op2 .idx (.var 1) (.int 0))))
abbrev I46_3 : Ev.S := (.asg (.nm 10) (.tup [(.var 8), (.op2 .max2 (.int 1) (.op2 .min2 (.var 8) (.call 37 [(.lend 0), (.lst [(.var 9), (.op2 .add (.var 9) (.int 1)), (.op2 .add (.int 1) (.call 36 [(.lend 0), (.var 8)]))])]))), (.var 2)]))
abbrev I46_4 : Ev.S := (.asg (.nm 11) (.slice (.comp (.var 14) (.nm 14) (.range (.op1 .len (.var 7))) (some (.op2 .le (.op2 .idx (.op2 .idx (.var 7) (.var 14)) (.int 0)) (.var 8)))) (some (.op1 .neg (.int 1))) none))
abbrev I46_5 : Ev.S := (.asg (.nm 12) (.call 45 [(.call 43 [(.var 10), (.var 1)])]))
abbrev I46_6 : Ev.S := (.ifS (.or (.op2 .eq (.var 11) (.lst [])) (.or (.not (.call 40 [(.op2 .idx (.var 4) (.op2 .idx (.var 11) (.int 0))), (.var 12)])) (.and (.op2 .eq (.var 12) (.op2 .idx (.var 4) (.op2 .idx (.var 11) (.int 0)))) (.op2 .lt (.tup [(.op2 .idx (.var 10) (.int 0)), (.op2 .idx (.var 10) (.int 1))]) (.tup [(.op2 .idx (.op2 .idx (.var 7) (.op2 .idx (.var 11) (.int 0))) (.int 0)), (.op2 .idx (.op2 .idx (.var 7) (.op2 .idx (.var 11) (.int 0))) (.int 1))]))))) [(.ret (.bl false))] [])
abbrev I46_7 : Ev.S := (.ifS (.op2 .ne (.call 22 [(.var 1), (.var 2), (.var 8)]) (.op2 .idx (.var 7) (.op2 .idx (.var 11) (.int 0)))) [(.ret (.bl false))] [])
abbrev body46 : List Ev.S := [I46_1, I46_2, I46_3, I46_4, I46_5, I46_6, I46_7]
abbrev E46 (ds : List Int) (c : Rat) (e m : Int) (a4 a5 a6 a7 a8 a9 a10 a11 a12 : Option O) : Ev.Env := [some (dr ds), some (.val (fr c)), some (.val (.int e)), some (.val (.int m)), a4, a5, a6, a7, a8, a9, a10, a11, a12, none, none]
theorem mo0 : (0 ≤ most) = True := eq_true (by decide)
theorem v_ne3 (t s e : Int) : ev2 .ne (dc t s e) (dc t s e) = some (.val (.bool false)) := by
  have h : (PyData.plain (dc t s e) && PyData.plain (dc t s e) && decide ((dc t s e).depth ≤ 20)) = true := rfl
  have q : PyData.eqv (dc t s e) (dc t s e) = true := by simp [PyData.eqv, PyData.eqvAll]
  simp only [ev2]
  rw [if_pos h, q]
  rfl
theorem v_ltP (a b c d : Int) : ev2 .lt (.tuple [.int a, .int b]) (.tuple [.int c, .int d]) = some (.val (.bool (decide (a < c ∨ (a = c ∧ b < d))))) := by
  have hk : ltOk (.tuple [.int a, .int b]) (.tuple [.int c, .int d]) = true := by
    simp [ltOk, W.alike, W.alikeAll, PyData.plain, PyData.plainAll, isNone, PyData.depth, PyData.depthAll]
  have hd : W.dataLt (.tuple [.int a, .int b]) (.tuple [.int c, .int d]) = decide (a < c ∨ (a = c ∧ b < d)) := by
    refine (W.DatumOrd.lt_eq (α := Int × Int) ⟨a, b⟩ ⟨c, d⟩).trans ?_
    show (if a = c then decide (b < d) else decide (a < c)) = _
    by_cases h1 : a = c
    · simp [h1]
    · simp [h1]
  show (if ltOk (.tuple [.int a, .int b]) (.tuple [.int c, .int d]) = true then some (O.val (.bool (W.dataLt (.tuple [.int a, .int b]) (.tuple [.int c, .int d])))) else none) = _
  rw [if_pos hk, hd]
theorem idx_at {α : Type} (f : α → D) (l : List α) {j : Nat} {x : α} (h : l[j]? = some x) : ev2 .idx (.list (l.map f)) (.int (j : Int)) = some (.val (f x)) := by
  show (atD (l.map f) (j : Int)).map O.val = _
  unfold atD
  rw [L2.atI_nat (v := f x) (by rw [List.getElem?_map, h]; rfl)]
  rfl
theorem cut_last (xs : List D) (v : D) : cutD (xs ++ [v]) (some (-1)) none = [v] := by
  have e1 : _root_.HT.sIx (xs ++ [v]).length 0 (some (-1)) = xs.length := by
    unfold _root_.HT.sIx
    dsimp only
    rw [if_pos (by decide), List.length_append, List.length_singleton]
    omega
  have e2 : _root_.HT.sIx (xs ++ [v]).length (xs ++ [v]).length none = xs.length + 1 := by
    show (xs ++ [v]).length = _
    rw [List.length_append]; rfl
  unfold cutD
  rw [e1, e2, List.drop_left, show xs.length + 1 - xs.length = 1 by omega]
  rfl
/-- indices -/
abbrev ixs (n : Nat) : List Int := (List.range n).map fun (k : Nat) => (k : Int)
theorem ixs_range (n : Nat) : rangeD 0 (n : Int) = (ixs n).map .int := by
  unfold rangeD
  rw [List.map_map, Int.sub_zero, Int.toNat_natCast]
  exact List.map_congr_left fun k _ => by show PyData.int (0 + (k : Int)) = _; rw [Int.zero_add]; rfl
abbrev WD (c : Rat) (e : Int) (R : List (Int × Int)) : List D := R.map fun q => fr (W c e q)
section
variable {c : Rat} (h : Tr c) {e : Int} (e0 : 1 ≤ e) (e1 : e ≤ 48) {m : Int} (m0 : 2 ≤ m) (m1 : m ≤ 400) {R l : List (Int × Int)} {p : Int × Int} (ro : RowOk c e m l p) (hR : R = l ++ [p]) (ds : List Int) (a4 a5 a6 a7 a8 a9 a10 a11 a12 : Option O)
include h e0 e1 m0 m1 ro hR
theorem R_dc : ∀ q ∈ R, Dc q.1 q.2 e := fun q hq => by
  rw [hR] at hq
  obtain ⟨x1, x2, x3⟩ := ro.lo q hq
  rw [x3]
  exact bsS_dc h e0 e1 x1 (by omega)
theorem R_len : R.length ≤ 399 := by
  have hp : R.Pairwise fun x y => x.1 < y.1 := by rw [hR]; exact ro.pw.imp fun z => z.1
  have hb : ∀ q ∈ R, 2 ≤ q.1 ∧ q.1 ≤ m := fun q hq => by
    rw [hR] at hq
    have := ro.lo q hq
    exact ⟨this.1, this.2.1⟩
  have key : ∀ (R : List (Int × Int)) (a : Int), R.Pairwise (fun x y => x.1 < y.1) → (∀ q ∈ R, a ≤ q.1 ∧ q.1 ≤ m) → (R.length : Int) ≤ max 0 (m - a + 1) := by
    intro R
    induction R with
    | nil => intro a _ _; simp; omega
    | cons x r ih =>
      intro a hp hb
      rw [List.pairwise_cons] at hp
      have := ih (x.1 + 1) hp.2 fun q hq => ⟨by have := hp.1 q hq; omega, (hb q (List.mem_cons_of_mem _ hq)).2⟩
      have hx := hb x List.mem_cons_self
      rw [List.length_cons]
      omega
  have := key R 2 hp hb
  omega
theorem s46_1 (n : Nat) : Ev.one Tb (evN Tb (n + 159)) (exN Tb (n + 159)) S46_1 (E46 ds c e m a4 a5 a6 a7 a8 a9 a10 a11 a12) = .ok (.next, (E46 ds c e m a4 a5 (some (.val (dcp e p))) (some (.val (.list (R.map (dcp e))))) a8 a9 a10 a11 a12)) := by
  have k22 := fun m' env => call3 (T := Tb) (n := m' + 140) env (r22 h e0 e1 m0 m1 m' ro.is)
  have k23 := fun m' env => call3 (T := Tb) (n := m' + 140) env (r23 h e0 e1 m0 m1 m')
  rw [ro.is, ← hR] at k23
  unfold rowO at k23
  unfold dcp at *
  have t1 : O.trees ((R.map fun p => dc p.1 p.2 e).map O.val) = true := trees_val _
  generalize R.map (fun p => dc p.1 p.2 e) = Y at *
  unfold S46_1 E46
  simp only [evS, exS, okb, stb, seqS, one, stepE_none, stepE_bl, stepE_int, stepE_str, stepE_var, stepE_glb, stepE_tup, stepE_lst, stepE_op1, stepE_op2, stepE_not, stepE_and, stepE_or, stepE_ite, stepE_chain, stepE_slice, stepE_call, evD, evDs, evArgs, optI, truthE, truth, O.tree, O.toD, O.trees, O.toDs, v_add, v_sub, v_le, v_lt, v_ge, v_gt, v_min, v_max, v_eq, v_ne, v_is, v_isnt, v_t20, v_t21, u_lenL, u_lenT2, beq_self_eq_true, decide_true, Nat.reduceAdd, Nat.reduceLT, Nat.zero_add, Bool.and_self, Bool.and_true, Bool.true_and, u_isT, u_int, u_intB, u_abs, u_neg, u_tupL, u_revT, seq?, setO, assignT, assignTs, isTy, List.getElem?_cons_zero, List.getElem?_cons_succ, Option.join_some, List.set_cons_zero, List.set_cons_succ, List.length_cons, List.length_nil, Res.bind, if_true, if_false, Nat.lt_irrefl, Bool.not_true, Bool.not_false, reduceIte, Bool.false_eq_true, toDs_val, trees_val, k22, k23, t1, mo4, mo4', mo3, mo3', mo2, mo2', mo2'', mo5, mo6, mo1, mo1']
theorem q46_2 (k : Nat) : stepE Tb (evN Tb (k + 40)) (exN Tb (k + 40)) (.comp (.var 13) (.nm 13) (.seq (.var 7)) (some (.or (.not (.call 7 [(.var 13)])) (.or (.op2 .ne (.op2 .idx (.var 13) (.int 2)) (.var 2)) (.op2 .gt (.op2 .idx (.var 13) (.int 0)) (.var 3)))))) (E46 ds c e m a4 a5 (some (.val (dcp e p))) (some (.val (.list (R.map (dcp e))))) a8 a9 a10 a11 a12) = .ok (.lst [], (E46 ds c e m a4 a5 (some (.val (dcp e p))) (some (.val (.list (R.map (dcp e))))) a8 a9 a10 a11 a12)) := by
  refine (compF (env1 := (E46 ds c e m a4 a5 (some (.val (dcp e p))) (some (.val (.list (R.map (dcp e))))) a8 a9 a10 a11 a12)) (dcp e) R (fun q => (E46 ds c e m a4 a5 (some (.val (dcp e p))) (some (.val (.list (R.map (dcp e))))) a8 a9 a10 a11 a12).set 13 (some (.val (dcp e q)))) (fun _ => false) (dcp e) (items_seq (env1 := (E46 ds c e m a4 a5 (some (.val (dcp e p))) (some (.val (.list (R.map (dcp e))))) a8 a9 a10 a11 a12)) ?_) (most_ok (by have := R_len h e0 e1 m0 m1 ro hR; omega)) rfl (fun q _ => ⟨rfl, rfl⟩) (fun q hq => ?_) (fun q hq => ?_)).trans ?_
  · generalize R.map (dcp e) = Y
    unfold E46
    simp only [evS, exS, okb, stb, seqS, one, stepE_none, stepE_bl, stepE_int, stepE_str, stepE_var, stepE_glb, stepE_tup, stepE_lst, stepE_op1, stepE_op2, stepE_not, stepE_and, stepE_or, stepE_ite, stepE_chain, stepE_slice, stepE_call, evD, evDs, evArgs, optI, truthE, truth, O.tree, O.toD, O.trees, O.toDs, v_add, v_sub, v_le, v_lt, v_ge, v_gt, v_min, v_max, v_eq, v_ne, v_is, v_isnt, v_t20, v_t21, u_lenL, u_lenT2, beq_self_eq_true, decide_true, Nat.reduceAdd, Nat.reduceLT, Nat.zero_add, Bool.and_self, Bool.and_true, Bool.true_and, u_isT, u_int, u_intB, u_abs, u_neg, u_tupL, u_revT, seq?, setO, assignT, assignTs, isTy, List.getElem?_cons_zero, List.getElem?_cons_succ, Option.join_some, List.set_cons_zero, List.set_cons_succ, List.length_cons, List.length_nil, Res.bind, if_true, if_false, Nat.lt_irrefl, Bool.not_true, Bool.not_false, reduceIte, Bool.false_eq_true, toDs_val, trees_val]
  · have k7 := fun m' env => call1 (T := Tb) (n := m' + 20) env (r7 m' (R_dc h e0 e1 m0 m1 ro hR q hq))
    have hq2 : decide (m < q.1) = false := decide_eq_false (by rw [hR] at hq; have := ro.lo q hq; omega)
    generalize R.map (dcp e) = Y
    unfold E46 dcp
    simp only [evS, exS, okb, stb, seqS, one, stepE_none, stepE_bl, stepE_int, stepE_str, stepE_var, stepE_glb, stepE_tup, stepE_lst, stepE_op1, stepE_op2, stepE_not, stepE_and, stepE_or, stepE_ite, stepE_chain, stepE_slice, stepE_call, evD, evDs, evArgs, optI, truthE, truth, O.tree, O.toD, O.trees, O.toDs, v_add, v_sub, v_le, v_lt, v_ge, v_gt, v_min, v_max, v_eq, v_ne, v_is, v_isnt, v_t20, v_t21, u_lenL, u_lenT2, beq_self_eq_true, decide_true, Nat.reduceAdd, Nat.reduceLT, Nat.zero_add, Bool.and_self, Bool.and_true, Bool.true_and, u_isT, u_int, u_intB, u_abs, u_neg, u_tupL, u_revT, seq?, setO, assignT, assignTs, isTy, List.getElem?_cons_zero, List.getElem?_cons_succ, Option.join_some, List.set_cons_zero, List.set_cons_succ, List.length_cons, List.length_nil, Res.bind, if_true, if_false, Nat.lt_irrefl, Bool.not_true, Bool.not_false, reduceIte, Bool.false_eq_true, toDs_val, trees_val, k7, t30, t31, t32, hq2]
  · generalize R.map (dcp e) = Y
    unfold E46 dcp
    simp only [evS, exS, okb, stb, seqS, one, stepE_none, stepE_bl, stepE_int, stepE_str, stepE_var, stepE_glb, stepE_tup, stepE_lst, stepE_op1, stepE_op2, stepE_not, stepE_and, stepE_or, stepE_ite, stepE_chain, stepE_slice, stepE_call, evD, evDs, evArgs, optI, truthE, truth, O.tree, O.toD, O.trees, O.toDs, v_add, v_sub, v_le, v_lt, v_ge, v_gt, v_min, v_max, v_eq, v_ne, v_is, v_isnt, v_t20, v_t21, u_lenL, u_lenT2, beq_self_eq_true, decide_true, Nat.reduceAdd, Nat.reduceLT, Nat.zero_add, Bool.and_self, Bool.and_true, Bool.true_and, u_isT, u_int, u_intB, u_abs, u_neg, u_tupL, u_revT, seq?, setO, assignT, assignTs, isTy, List.getElem?_cons_zero, List.getElem?_cons_succ, Option.join_some, List.set_cons_zero, List.set_cons_succ, List.length_cons, List.length_nil, Res.bind, if_true, if_false, Nat.lt_irrefl, Bool.not_true, Bool.not_false, reduceIte, Bool.false_eq_true, toDs_val, trees_val]
  · rw [show R.filter (fun _ => false) = [] from List.filter_eq_nil_iff.mpr fun _ _ => by simp]
    rfl
theorem s46_2 (n : Nat) : Ev.one Tb (evN Tb (n + 159)) (exN Tb (n + 159)) S46_2 (E46 ds c e m a4 a5 (some (.val (dcp e p))) (some (.val (.list (R.map (dcp e))))) a8 a9 a10 a11 a12) = .ok (.next, (E46 ds c e m a4 a5 (some (.val (dcp e p))) (some (.val (.list (R.map (dcp e))))) a8 a9 a10 a11 a12)) := by
  have hq := fun k => q46_2 h e0 e1 m0 m1 ro hR ds a4 a5 a8 a9 a10 a11 a12 k
  have ix : ev2 .idx (.list (R.map (dcp e))) (.int (((R.map (dcp e)).length : Int) - 1)) = some (.val (dcp e p)) := by
    have e1 : (((R.map (dcp e)).length : Int) - 1) = ((l.length : Nat) : Int) := by rw [List.length_map, hR, List.length_append, List.length_singleton]; omega
    rw [e1]
    exact idx_at (dcp e) R (by rw [hR, List.getElem?_append_right (Nat.le_refl _), Nat.sub_self]; rfl)
  have v1 := v_ne3 p.1 p.2 e
  have v2 : ev2 .ne (.list []) (.list []) = some (.val (.bool false)) := rfl
  unfold dcp at *
  generalize R.map (fun p => dc p.1 p.2 e) = Y at *
  unfold S46_2 E46 at *
  simp only [evS, exS, okb, stb, seqS, one, stepE_none, stepE_bl, stepE_int, stepE_str, stepE_var, stepE_glb, stepE_tup, stepE_lst, stepE_op1, stepE_op2, stepE_not, stepE_and, stepE_or, stepE_ite, stepE_chain, stepE_slice, stepE_call, evD, evDs, evArgs, optI, truthE, truth, O.tree, O.toD, O.trees, O.toDs, v_add, v_sub, v_le, v_lt, v_ge, v_gt, v_min, v_max, v_eq, v_ne, v_is, v_isnt, v_t20, v_t21, u_lenL, u_lenT2, beq_self_eq_true, decide_true, Nat.reduceAdd, Nat.reduceLT, Nat.zero_add, Bool.and_self, Bool.and_true, Bool.true_and, u_isT, u_int, u_intB, u_abs, u_neg, u_tupL, u_revT, seq?, setO, assignT, assignTs, isTy, List.getElem?_cons_zero, List.getElem?_cons_succ, Option.join_some, List.set_cons_zero, List.set_cons_succ, List.length_cons, List.length_nil, Res.bind, if_true, if_false, Nat.lt_irrefl, Bool.not_true, Bool.not_false, reduceIte, Bool.false_eq_true, toDs_val, trees_val, hq, ix, v1, v2, mo0, List.map_nil]
theorem q46_3 (k : Nat) : stepE Tb (evN Tb (k + 90)) (exN Tb (k + 90)) (.comp (.call 45 [(.call 43 [(.var 13), (.var 1)])]) (.nm 13) (.seq (.var 7)) none) (E46 ds c e m a4 a5 (some (.val (dcp e p))) (some (.val (.list (R.map (dcp e))))) a8 a9 a10 a11 a12) = .ok (.lst ((WD c e R).map .val), (E46 ds c e m a4 a5 (some (.val (dcp e p))) (some (.val (.list (R.map (dcp e))))) a8 a9 a10 a11 a12)) := by
  refine compM (env1 := (E46 ds c e m a4 a5 (some (.val (dcp e p))) (some (.val (.list (R.map (dcp e))))) a8 a9 a10 a11 a12)) (dcp e) R (fun q => (E46 ds c e m a4 a5 (some (.val (dcp e p))) (some (.val (.list (R.map (dcp e))))) a8 a9 a10 a11 a12).set 13 (some (.val (dcp e q)))) (fun q => fr (W c e q)) (items_seq (env1 := (E46 ds c e m a4 a5 (some (.val (dcp e p))) (some (.val (.list (R.map (dcp e))))) a8 a9 a10 a11 a12)) ?_) (most_ok (by have := R_len h e0 e1 m0 m1 ro hR; omega)) rfl (fun q _ => ⟨rfl, rfl⟩) (fun q hq => ?_)
  · generalize R.map (dcp e) = Y
    unfold E46
    simp only [evS, exS, okb, stb, seqS, one, stepE_none, stepE_bl, stepE_int, stepE_str, stepE_var, stepE_glb, stepE_tup, stepE_lst, stepE_op1, stepE_op2, stepE_not, stepE_and, stepE_or, stepE_ite, stepE_chain, stepE_slice, stepE_call, evD, evDs, evArgs, optI, truthE, truth, O.tree, O.toD, O.trees, O.toDs, v_add, v_sub, v_le, v_lt, v_ge, v_gt, v_min, v_max, v_eq, v_ne, v_is, v_isnt, v_t20, v_t21, u_lenL, u_lenT2, beq_self_eq_true, decide_true, Nat.reduceAdd, Nat.reduceLT, Nat.zero_add, Bool.and_self, Bool.and_true, Bool.true_and, u_isT, u_int, u_intB, u_abs, u_neg, u_tupL, u_revT, seq?, setO, assignT, assignTs, isTy, List.getElem?_cons_zero, List.getElem?_cons_succ, Option.join_some, List.set_cons_zero, List.set_cons_succ, List.length_cons, List.length_nil, Res.bind, if_true, if_false, Nat.lt_irrefl, Bool.not_true, Bool.not_false, reduceIte, Bool.false_eq_true, toDs_val, trees_val]
  · have k43 := fun m' env => call2 (T := Tb) (n := m' + 70) env (r43 (R_dc h e0 e1 m0 m1 ro hR q hq) h m')
    have k45 := fun m' env => call1 (T := Tb) (n := m' + 9) env (r45 m' (dft q.1 q.2 e c))
    unfold W
    generalize dft q.1 q.2 e c = x at *
    generalize R.map (dcp e) = Y
    unfold E46 dcp fr at *
    simp only [evS, exS, okb, stb, seqS, one, stepE_none, stepE_bl, stepE_int, stepE_str, stepE_var, stepE_glb, stepE_tup, stepE_lst, stepE_op1, stepE_op2, stepE_not, stepE_and, stepE_or, stepE_ite, stepE_chain, stepE_slice, stepE_call, evD, evDs, evArgs, optI, truthE, truth, O.tree, O.toD, O.trees, O.toDs, v_add, v_sub, v_le, v_lt, v_ge, v_gt, v_min, v_max, v_eq, v_ne, v_is, v_isnt, v_t20, v_t21, u_lenL, u_lenT2, beq_self_eq_true, decide_true, Nat.reduceAdd, Nat.reduceLT, Nat.zero_add, Bool.and_self, Bool.and_true, Bool.true_and, u_isT, u_int, u_intB, u_abs, u_neg, u_tupL, u_revT, seq?, setO, assignT, assignTs, isTy, List.getElem?_cons_zero, List.getElem?_cons_succ, Option.join_some, List.set_cons_zero, List.set_cons_succ, List.length_cons, List.length_nil, Res.bind, if_true, if_false, Nat.lt_irrefl, Bool.not_true, Bool.not_false, reduceIte, Bool.false_eq_true, toDs_val, trees_val, k43, k45]
theorem s46_3 (n : Nat) : Ev.one Tb (evN Tb (n + 159)) (exN Tb (n + 159)) S46_3 (E46 ds c e m a4 a5 (some (.val (dcp e p))) (some (.val (.list (R.map (dcp e))))) a8 a9 a10 a11 a12) = .ok (.next, (E46 ds c e m (some (.val (.list (WD c e R)))) a5 (some (.val (dcp e p))) (some (.val (.list (R.map (dcp e))))) a8 a9 a10 a11 a12)) := by
  refine one_asg (i := 4) (env1 := (E46 ds c e m a4 a5 (some (.val (dcp e p))) (some (.val (.list (R.map (dcp e))))) a8 a9 a10 a11 a12)) (evD_lst ((evS (n := n + 158) _ _).trans ?_)) (show 4 < 15 by decide)
  exact q46_3 h e0 e1 m0 m1 ro hR ds a4 a5 a8 a9 a10 a11 a12 (n + 68)
theorem q46_4 (k : Nat) : stepE Tb (evN Tb (k + 40)) (exN Tb (k + 40)) (.comp (.var 14) (.nm 14) (.range (.op2 .sub (.op1 .len (.var 7)) (.int 1))) (some (.or (.op2 .ge (.op2 .idx (.op2 .idx (.var 7) (.var 14)) (.int 0)) (.op2 .idx (.op2 .idx (.var 7) (.op2 .add (.var 14) (.int 1))) (.int 0))) (.call 40 [(.op2 .idx (.var 4) (.var 14)), (.op2 .idx (.var 4) (.op2 .add (.var 14) (.int 1)))])))) (E46 ds c e m (some (.val (.list (WD c e R)))) a5 (some (.val (dcp e p))) (some (.val (.list (R.map (dcp e))))) a8 a9 a10 a11 a12) = .ok (.lst [], (E46 ds c e m (some (.val (.list (WD c e R)))) a5 (some (.val (dcp e p))) (some (.val (.list (R.map (dcp e))))) a8 a9 a10 a11 a12)) := by
  have hl := R_len h e0 e1 m0 m1 ro hR
  have hlen : (((R.map (dcp e)).length : Int) - 1) = ((R.length - 1 : Nat) : Int) := by
    have : 0 < R.length := by rw [hR, List.length_append, List.length_singleton]; omega
    rw [List.length_map]; omega
  refine (compF (env1 := (E46 ds c e m (some (.val (.list (WD c e R)))) a5 (some (.val (dcp e p))) (some (.val (.list (R.map (dcp e))))) a8 a9 a10 a11 a12)) PyData.int (ixs (R.length - 1)) (fun z => (E46 ds c e m (some (.val (.list (WD c e R)))) a5 (some (.val (dcp e p))) (some (.val (.list (R.map (dcp e))))) a8 a9 a10 a11 a12).set 14 (some (.val (.int z)))) (fun _ => false) PyData.int (items_range (j := ((R.length - 1 : Nat) : Int)) (env1 := (E46 ds c e m (some (.val (.list (WD c e R)))) a5 (some (.val (dcp e p))) (some (.val (.list (R.map (dcp e))))) a8 a9 a10 a11 a12)) ?_ (by omega) (ixs_range _)) (most_ok (by rw [List.length_map, List.length_range]; omega)) rfl (fun q _ => ⟨rfl, rfl⟩) (fun z hz => ?_) (fun z hz => ?_)).trans ?_
  · rw [← hlen]
    generalize R.map (dcp e) = Y
    generalize WD c e R = Z
    unfold E46
    simp only [evS, exS, okb, stb, seqS, one, stepE_none, stepE_bl, stepE_int, stepE_str, stepE_var, stepE_glb, stepE_tup, stepE_lst, stepE_op1, stepE_op2, stepE_not, stepE_and, stepE_or, stepE_ite, stepE_chain, stepE_slice, stepE_call, evD, evDs, evArgs, optI, truthE, truth, O.tree, O.toD, O.trees, O.toDs, v_add, v_sub, v_le, v_lt, v_ge, v_gt, v_min, v_max, v_eq, v_ne, v_is, v_isnt, v_t20, v_t21, u_lenL, u_lenT2, beq_self_eq_true, decide_true, Nat.reduceAdd, Nat.reduceLT, Nat.zero_add, Bool.and_self, Bool.and_true, Bool.true_and, u_isT, u_int, u_intB, u_abs, u_neg, u_tupL, u_revT, seq?, setO, assignT, assignTs, isTy, List.getElem?_cons_zero, List.getElem?_cons_succ, Option.join_some, List.set_cons_zero, List.set_cons_succ, List.length_cons, List.length_nil, Res.bind, if_true, if_false, Nat.lt_irrefl, Bool.not_true, Bool.not_false, reduceIte, Bool.false_eq_true, toDs_val, trees_val]
  · obtain ⟨j, hj, rfl⟩ := List.mem_map.mp hz
    rw [List.mem_range] at hj
    obtain ⟨x, hx⟩ : ∃ x, R[j]? = some x := ⟨_, List.getElem?_eq_getElem (show j < R.length by omega)⟩
    obtain ⟨y, hy⟩ : ∃ y, R[j + 1]? = some y := ⟨_, List.getElem?_eq_getElem (show j + 1 < R.length by omega)⟩
    have hp : R.Pairwise fun x y => x.1 < y.1 ∧ W c e y < W c e x := by rw [hR]; exact ro.pw
    have hxy : x.1 < y.1 ∧ W c e y < W c e x := by
      have g1 := List.getElem?_eq_some_iff.mp hx
      have g2 := List.getElem?_eq_some_iff.mp hy
      obtain ⟨g1, rfl⟩ := g1
      obtain ⟨g2, rfl⟩ := g2
      exact List.pairwise_iff_getElem.mp hp j (j + 1) g1 g2 (by omega)
    have i1 := idx_at (dcp e) R hx
    have i2 := idx_at (dcp e) R hy
    have i3 := idx_at (fun q => fr (W c e q)) R hx
    have i4 := idx_at (fun q => fr (W c e q)) R hy
    rw [show ((j + 1 : Nat) : Int) = (j : Int) + 1 by omega] at i2 i4
    have dx := R_dc h e0 e1 m0 m1 ro hR x (List.mem_of_getElem? hx)
    have dy := R_dc h e0 e1 m0 m1 ro hR y (List.mem_of_getElem? hy)
    have k40 := fun m' env => call2 (T := Tb) (n := m' + 9) env (r40 m' (p := W c e x) (q := W c e y) ((W_B h e0 e1 dx).mono (by decide)) ((W_B h e0 e1 dy).mono (by decide)))
    rw [decide_eq_false (Rat.not_le.mpr hxy.2)] at k40
    have q1 : decide (y.1 ≤ x.1) = false := decide_eq_false (by omega)
    generalize hw1 : W c e x = wx at *
    generalize hw2 : W c e y = wy at *
    generalize R.map (dcp e) = Y at *
    unfold WD at *
    generalize (R.map fun q => fr (W c e q)) = Z at *
    unfold E46 dcp at *
    unfold fr at *
    simp only [evS, exS, okb, stb, seqS, one, stepE_none, stepE_bl, stepE_int, stepE_str, stepE_var, stepE_glb, stepE_tup, stepE_lst, stepE_op1, stepE_op2, stepE_not, stepE_and, stepE_or, stepE_ite, stepE_chain, stepE_slice, stepE_call, evD, evDs, evArgs, optI, truthE, truth, O.tree, O.toD, O.trees, O.toDs, v_add, v_sub, v_le, v_lt, v_ge, v_gt, v_min, v_max, v_eq, v_ne, v_is, v_isnt, v_t20, v_t21, u_lenL, u_lenT2, beq_self_eq_true, decide_true, Nat.reduceAdd, Nat.reduceLT, Nat.zero_add, Bool.and_self, Bool.and_true, Bool.true_and, u_isT, u_int, u_intB, u_abs, u_neg, u_tupL, u_revT, seq?, setO, assignT, assignTs, isTy, List.getElem?_cons_zero, List.getElem?_cons_succ, Option.join_some, List.set_cons_zero, List.set_cons_succ, List.length_cons, List.length_nil, Res.bind, if_true, if_false, Nat.lt_irrefl, Bool.not_true, Bool.not_false, reduceIte, Bool.false_eq_true, toDs_val, trees_val, i1, i2, i3, i4, k40, q1, t30]
  · generalize R.map (dcp e) = Y
    generalize WD c e R = Z
    unfold E46
    simp only [evS, exS, okb, stb, seqS, one, stepE_none, stepE_bl, stepE_int, stepE_str, stepE_var, stepE_glb, stepE_tup, stepE_lst, stepE_op1, stepE_op2, stepE_not, stepE_and, stepE_or, stepE_ite, stepE_chain, stepE_slice, stepE_call, evD, evDs, evArgs, optI, truthE, truth, O.tree, O.toD, O.trees, O.toDs, v_add, v_sub, v_le, v_lt, v_ge, v_gt, v_min, v_max, v_eq, v_ne, v_is, v_isnt, v_t20, v_t21, u_lenL, u_lenT2, beq_self_eq_true, decide_true, Nat.reduceAdd, Nat.reduceLT, Nat.zero_add, Bool.and_self, Bool.and_true, Bool.true_and, u_isT, u_int, u_intB, u_abs, u_neg, u_tupL, u_revT, seq?, setO, assignT, assignTs, isTy, List.getElem?_cons_zero, List.getElem?_cons_succ, Option.join_some, List.set_cons_zero, List.set_cons_succ, List.length_cons, List.length_nil, Res.bind, if_true, if_false, Nat.lt_irrefl, Bool.not_true, Bool.not_false, reduceIte, Bool.false_eq_true, toDs_val, trees_val]
  · rw [show (ixs (R.length - 1)).filter (fun _ => false) = [] from List.filter_eq_nil_iff.mpr fun _ _ => by simp]
    rfl
theorem s46_4 (n : Nat) : Ev.one Tb (evN Tb (n + 159)) (exN Tb (n + 159)) S46_4 (E46 ds c e m (some (.val (.list (WD c e R)))) a5 (some (.val (dcp e p))) (some (.val (.list (R.map (dcp e))))) a8 a9 a10 a11 a12) = .ok (.next, (E46 ds c e m (some (.val (.list (WD c e R)))) a5 (some (.val (dcp e p))) (some (.val (.list (R.map (dcp e))))) a8 a9 a10 a11 a12)) := by
  have hq := fun k => q46_4 h e0 e1 m0 m1 ro hR ds a5 a8 a9 a10 a11 a12 k
  have v2 : ev2 .ne (.list []) (.list []) = some (.val (.bool false)) := rfl
  generalize R.map (dcp e) = Y at *
  generalize WD c e R = Z at *
  unfold S46_4 E46 at *
  simp only [evS, exS, okb, stb, seqS, one, stepE_none, stepE_bl, stepE_int, stepE_str, stepE_var, stepE_glb, stepE_tup, stepE_lst, stepE_op1, stepE_op2, stepE_not, stepE_and, stepE_or, stepE_ite, stepE_chain, stepE_slice, stepE_call, evD, evDs, evArgs, optI, truthE, truth, O.tree, O.toD, O.trees, O.toDs, v_add, v_sub, v_le, v_lt, v_ge, v_gt, v_min, v_max, v_eq, v_ne, v_is, v_isnt, v_t20, v_t21, u_lenL, u_lenT2, beq_self_eq_true, decide_true, Nat.reduceAdd, Nat.reduceLT, Nat.zero_add, Bool.and_self, Bool.and_true, Bool.true_and, u_isT, u_int, u_intB, u_abs, u_neg, u_tupL, u_revT, seq?, setO, assignT, assignTs, isTy, List.getElem?_cons_zero, List.getElem?_cons_succ, Option.join_some, List.set_cons_zero, List.set_cons_succ, List.length_cons, List.length_nil, Res.bind, if_true, if_false, Nat.lt_irrefl, Bool.not_true, Bool.not_false, reduceIte, Bool.false_eq_true, toDs_val, trees_val, hq, v2, mo0, List.map_nil]
end
end Hd

end
section
set_option autoImplicit false
set_option linter.all false
set_option maxRecDepth 100000
set_option maxHeartbeats 1000000
namespace Hd
open PySem Ev
theorem pick3c {ds : List Int} {a b c : Int} : ∃ x, pk ds [.int a, .int b, .int c] = .int x := by
  obtain ⟨x, _, hx⟩ := pick3 (ds := ds) (a := a) (b := b) (c := c) (P := fun _ => True) trivial trivial trivial
  exact ⟨x, hx⟩
theorem ev_slice {T : Tab} {n : Nat} {a lo : Ev.E} {env : Ev.Env} {xs ys : List D} {i : Int} (ha : evD (evN T n) a env = .ok (.list xs, env)) (ho : evD (evN T n) lo env = .ok (.int i, env)) (hs : slice1 (.list xs) (some i) none = some (.lst (ys.map .val))) : evD (evN T (n + 1)) (.slice a (some lo) none) env = .ok (.list ys, env) := by
  refine evD_lst ?_
  rw [evS, stepE_slice, ha]
  simp only [okb, optI, ho, hs]
section
variable {c : Rat} (h : Tr c) {e : Int} (e0 : 1 ≤ e) (e1 : e ≤ 48) {m : Int} (m0 : 2 ≤ m) (m1 : m ≤ 400) {R l : List (Int × Int)} {p : Int × Int} (ro : RowOk c e m l p) (hR : R = l ++ [p]) (ds : List Int) (a4 a5 a6 a7 a8 a9 a10 a11 a12 : Option O)
include h e0 e1 m0 m1 ro hR
omit h e0 e1 m1 ro hR in
theorem i46_1 : ∃ T ds', 2 ≤ T ∧ T ≤ m ∧ ∀ n, Ev.one Tb (evN Tb (n + 158)) (exN Tb (n + 158)) I46_1 (E46 ds c e m (some (.val (.list (WD c e R)))) a5 (some (.val (dcp e p))) (some (.val (.list (R.map (dcp e))))) a8 a9 a10 a11 a12) = .ok (.next, (E46 ds' c e m (some (.val (.list (WD c e R)))) a5 (some (.val (dcp e p))) (some (.val (.list (R.map (dcp e))))) (some (.val (.int T))) a9 a10 a11 a12)) := by
  have a1 := tk_in ds (b := m - 1) (by omega)
  have k1 := fun m' (env : Ev.Env) => t36_0 m' ds (b := m - 1) (by omega) env
  refine ⟨2 + tk ds (m - 1), ds.dropLast, by omega, by omega, fun n => ?_⟩
  generalize R.map (dcp e) = Y at *
  generalize WD c e R = Z at *
  unfold I46_1 E46 dcp
  simp only [evS, exS, okb, stb, seqS, one, stepE_none, stepE_bl, stepE_int, stepE_str, stepE_var, stepE_glb, stepE_tup, stepE_lst, stepE_op1, stepE_op2, stepE_not, stepE_and, stepE_or, stepE_ite, stepE_chain, stepE_slice, stepE_call, evD, evDs, evArgs, optI, truthE, truth, O.tree, O.toD, O.trees, O.toDs, v_add, v_sub, v_le, v_lt, v_ge, v_gt, v_min, v_max, v_eq, v_ne, v_is, v_isnt, v_t20, v_t21, u_lenL, u_lenT2, beq_self_eq_true, decide_true, Nat.reduceAdd, Nat.reduceLT, Nat.zero_add, Bool.and_self, Bool.and_true, Bool.true_and, u_isT, u_int, u_intB, u_abs, u_neg, u_tupL, u_revT, seq?, setO, assignT, assignTs, isTy, List.getElem?_cons_zero, List.getElem?_cons_succ, Option.join_some, List.set_cons_zero, List.set_cons_succ, List.length_cons, List.length_nil, Res.bind, if_true, if_false, Nat.lt_irrefl, Bool.not_true, Bool.not_false, reduceIte, Bool.false_eq_true, toDs_val, trees_val, k1, g0]
variable {T : Int} (T0 : 2 ≤ T) (T1 : T ≤ m)
include T0 T1
omit ro hR m0 in
theorem i46_2 (n : Nat) : Ev.one Tb (evN Tb (n + 158)) (exN Tb (n + 158)) I46_2 (E46 ds c e m (some (.val (.list (WD c e R)))) a5 (some (.val (dcp e p))) (some (.val (.list (R.map (dcp e))))) (some (.val (.int T))) a9 a10 a11 a12) = .ok (.next, (E46 ds c e m (some (.val (.list (WD c e R)))) a5 (some (.val (dcp e p))) (some (.val (.list (R.map (dcp e))))) (some (.val (.int T))) (some (.val (.int (nr c e T)))) a10 a11 a12)) := by
  have cn := (c_pos h e0 (show 1 ≤ T by omega)).2
  have d := bsS_dc h e0 e1 T0 (show T ≤ 400 by omega)
  have m1' := vM d.bt d.be
  have m2 := vM d.bte h.b.d
  have m3 := v_fdiv (a := T * e * (c.den : Int)) (b := c.num) cn (h.b.n.smD (by decide))
  unfold nr
  generalize R.map (dcp e) = Y at *
  generalize WD c e R = Z at *
  unfold I46_2 E46 dcp
  simp only [evS, exS, okb, stb, seqS, one, stepE_none, stepE_bl, stepE_int, stepE_str, stepE_var, stepE_glb, stepE_tup, stepE_lst, stepE_op1, stepE_op2, stepE_not, stepE_and, stepE_or, stepE_ite, stepE_chain, stepE_slice, stepE_call, evD, evDs, evArgs, optI, truthE, truth, O.tree, O.toD, O.trees, O.toDs, v_add, v_sub, v_le, v_lt, v_ge, v_gt, v_min, v_max, v_eq, v_ne, v_is, v_isnt, v_t20, v_t21, u_lenL, u_lenT2, beq_self_eq_true, decide_true, Nat.reduceAdd, Nat.reduceLT, Nat.zero_add, Bool.and_self, Bool.and_true, Bool.true_and, u_isT, u_int, u_intB, u_abs, u_neg, u_tupL, u_revT, seq?, setO, assignT, assignTs, isTy, List.getElem?_cons_zero, List.getElem?_cons_succ, Option.join_some, List.set_cons_zero, List.set_cons_succ, List.length_cons, List.length_nil, Res.bind, if_true, if_false, Nat.lt_irrefl, Bool.not_true, Bool.not_false, reduceIte, Bool.false_eq_true, toDs_val, trees_val, m1', m2, m3]
omit ro hR h e0 e1 m0 m1 in
theorem i46_3 : ∃ s ds', 1 ≤ s ∧ s ≤ T ∧ ∀ n, Ev.one Tb (evN Tb (n + 158)) (exN Tb (n + 158)) I46_3 (E46 ds c e m (some (.val (.list (WD c e R)))) a5 (some (.val (dcp e p))) (some (.val (.list (R.map (dcp e))))) (some (.val (.int T))) (some (.val (.int (nr c e T)))) a10 a11 a12) = .ok (.next, (E46 ds' c e m (some (.val (.list (WD c e R)))) a5 (some (.val (dcp e p))) (some (.val (.list (R.map (dcp e))))) (some (.val (.int T))) (some (.val (.int (nr c e T)))) (some (.val (dc T s e))) a11 a12)) := by
  have a1 := tk_in ds (b := T) (by omega)
  have k1 := fun m' (env : Ev.Env) => t36_0 m' ds (b := T) (by omega) env
  obtain ⟨x, hx⟩ := pick3c (ds := ds.dropLast) (a := nr c e T) (b := nr c e T + 1) (c := 1 + tk ds T)
  have k2 := fun m' env => t37_0 m' ds.dropLast [.int (nr c e T), .int (nr c e T + 1), .int (1 + tk ds T)] (by simp) env
  rw [hx] at k2
  have hc := clm_in (t := T) (by omega) x
  refine ⟨clm T x, ds.dropLast.dropLast, hc.1, hc.2, fun n => ?_⟩
  unfold clm
  generalize nr c e T = N at *
  generalize R.map (dcp e) = Y at *
  generalize WD c e R = Z at *
  unfold I46_3 E46 dcp
  simp only [evS, exS, okb, stb, seqS, one, stepE_none, stepE_bl, stepE_int, stepE_str, stepE_var, stepE_glb, stepE_tup, stepE_lst, stepE_op1, stepE_op2, stepE_not, stepE_and, stepE_or, stepE_ite, stepE_chain, stepE_slice, stepE_call, evD, evDs, evArgs, optI, truthE, truth, O.tree, O.toD, O.trees, O.toDs, v_add, v_sub, v_le, v_lt, v_ge, v_gt, v_min, v_max, v_eq, v_ne, v_is, v_isnt, v_t20, v_t21, u_lenL, u_lenT2, beq_self_eq_true, decide_true, Nat.reduceAdd, Nat.reduceLT, Nat.zero_add, Bool.and_self, Bool.and_true, Bool.true_and, u_isT, u_int, u_intB, u_abs, u_neg, u_tupL, u_revT, seq?, setO, assignT, assignTs, isTy, List.getElem?_cons_zero, List.getElem?_cons_succ, Option.join_some, List.set_cons_zero, List.set_cons_succ, List.length_cons, List.length_nil, Res.bind, if_true, if_false, Nat.lt_irrefl, Bool.not_true, Bool.not_false, reduceIte, Bool.false_eq_true, toDs_val, trees_val, k1, k2, g0, mo4, mo4', mo3, mo3', mo2, mo2', mo2'', mo5, mo6, mo1, mo1', List.map_cons, List.map_nil]
variable {s : Int} (s0 : 1 ≤ s) (s1 : s ≤ T) {lT : List (Int × Int)} {pT : Int × Int} (rT : RowOk c e T lT pT) {X : List (Int × Int)} (hX : row c e m = row c e T ++ X) (hX2 : ∀ q ∈ X, T < q.1)
include s0 s1 rT hX hX2
omit h e0 e1 m0 m1 T0 T1 s0 s1 in
theorem R_cut : R = lT ++ [pT] ++ X := by rw [hR, ← ro.is, hX, rT.is]
omit h e0 e1 m0 m1 T0 T1 s0 s1 in
theorem R_at : R[lT.length]? = some pT := by
  rw [R_cut ro hR rT hX hX2, List.append_assoc, List.getElem?_append_right (Nat.le_refl _), Nat.sub_self]; rfl
/-- which are not above T -/
abbrev notAbove (R : List (Int × Int)) (T z : Int) : Bool := match R[z.toNat]? with
  | some q => decide (q.1 ≤ T)
  | none => false
omit h e0 e1 m0 m1 T0 T1 s0 s1 in
theorem ixs_cut : (ixs R.length).filter (notAbove R T) = ixs lT.length ++ [(lT.length : Int)] := by
  have hc := R_cut ro hR rT hX hX2
  have hl : R.length = (lT.length + 1) + X.length := by rw [hc, List.length_append, List.length_append, List.length_singleton]
  have e1 : ixs (lT.length + 1) = ixs lT.length ++ [(lT.length : Int)] := by
    unfold ixs
    rw [List.range_succ, List.map_append]
    rfl
  rw [← e1, hl]
  unfold ixs
  rw [List.range_add, List.map_append, List.filter_append]
  have f1 : ((List.range (lT.length + 1)).map fun (k : Nat) => (k : Int)).filter (notAbove R T) = (List.range (lT.length + 1)).map fun (k : Nat) => (k : Int) := by
    refine List.filter_eq_self.mpr fun z hz => ?_
    obtain ⟨j, hj, rfl⟩ := List.mem_map.mp hz
    rw [List.mem_range] at hj
    obtain ⟨x, hx⟩ : ∃ x, (lT ++ [pT])[j]? = some x := ⟨_, List.getElem?_eq_getElem (by rw [List.length_append, List.length_singleton]; omega)⟩
    have hx2 : R[j]? = some x := by rw [hc, List.getElem?_append_left (by rw [List.length_append, List.length_singleton]; omega)]; exact hx
    unfold notAbove
    rw [Int.toNat_natCast, hx2]
    exact decide_eq_true (rT.lo x (List.mem_of_getElem? hx)).2.1
  have f2 : (((List.range X.length).map (lT.length + 1 + ·)).map fun (k : Nat) => (k : Int)).filter (notAbove R T) = [] := by
    refine List.filter_eq_nil_iff.mpr fun z hz => ?_
    obtain ⟨j, hj, rfl⟩ := List.mem_map.mp hz
    obtain ⟨k, hk, rfl⟩ := List.mem_map.mp hj
    rw [List.mem_range] at hk
    obtain ⟨x, hx⟩ : ∃ x, X[k]? = some x := ⟨_, List.getElem?_eq_getElem hk⟩
    have hx2 : R[lT.length + 1 + k]? = some x := by
      rw [hc, List.getElem?_append_right (by rw [List.length_append, List.length_singleton]; omega), List.length_append, List.length_singleton, show lT.length + 1 + k - (lT.length + 1) = k by omega]
      exact hx
    unfold notAbove
    rw [Int.toNat_natCast, hx2]
    have := hX2 x (List.mem_of_getElem? hx)
    simp
    omega
  rw [f1, f2, List.append_nil]
omit T0 T1 s0 s1 in
theorem q46_i4 (k : Nat) : stepE Tb (evN Tb (k + 40)) (exN Tb (k + 40)) (.comp (.var 14) (.nm 14) (.range (.op1 .len (.var 7))) (some (.op2 .le (.op2 .idx (.op2 .idx (.var 7) (.var 14)) (.int 0)) (.var 8)))) (E46 ds c e m (some (.val (.list (WD c e R)))) a5 (some (.val (dcp e p))) (some (.val (.list (R.map (dcp e))))) (some (.val (.int T))) (some (.val (.int (nr c e T)))) (some (.val (dc T s e))) a11 a12) = .ok (.lst (((ixs lT.length ++ [(lT.length : Int)]).map .int).map .val), (E46 ds c e m (some (.val (.list (WD c e R)))) a5 (some (.val (dcp e p))) (some (.val (.list (R.map (dcp e))))) (some (.val (.int T))) (some (.val (.int (nr c e T)))) (some (.val (dc T s e))) a11 a12)) := by
  have hl := R_len h e0 e1 m0 m1 ro hR
  rw [← ixs_cut ro hR rT hX hX2]
  refine compF (env1 := (E46 ds c e m (some (.val (.list (WD c e R)))) a5 (some (.val (dcp e p))) (some (.val (.list (R.map (dcp e))))) (some (.val (.int T))) (some (.val (.int (nr c e T)))) (some (.val (dc T s e))) a11 a12)) PyData.int (ixs R.length) (fun z => (E46 ds c e m (some (.val (.list (WD c e R)))) a5 (some (.val (dcp e p))) (some (.val (.list (R.map (dcp e))))) (some (.val (.int T))) (some (.val (.int (nr c e T)))) (some (.val (dc T s e))) a11 a12).set 14 (some (.val (.int z)))) (notAbove R T) PyData.int (items_range (j := (R.length : Int)) (env1 := (E46 ds c e m (some (.val (.list (WD c e R)))) a5 (some (.val (dcp e p))) (some (.val (.list (R.map (dcp e))))) (some (.val (.int T))) (some (.val (.int (nr c e T)))) (some (.val (dc T s e))) a11 a12)) ?_ (by omega) (ixs_range _)) (most_ok (by rw [List.length_map, List.length_range]; omega)) rfl (fun q _ => ⟨rfl, rfl⟩) (fun z hz => ?_) (fun z hz => ?_)
  · have e1 : (((R.map (dcp e)).length : Nat) : Int) = (R.length : Int) := by rw [List.length_map]
    rw [← e1]
    generalize R.map (dcp e) = Y
    generalize WD c e R = Z
    generalize nr c e T = N
    unfold E46
    simp only [evS, exS, okb, stb, seqS, one, stepE_none, stepE_bl, stepE_int, stepE_str, stepE_var, stepE_glb, stepE_tup, stepE_lst, stepE_op1, stepE_op2, stepE_not, stepE_and, stepE_or, stepE_ite, stepE_chain, stepE_slice, stepE_call, evD, evDs, evArgs, optI, truthE, truth, O.tree, O.toD, O.trees, O.toDs, v_add, v_sub, v_le, v_lt, v_ge, v_gt, v_min, v_max, v_eq, v_ne, v_is, v_isnt, v_t20, v_t21, u_lenL, u_lenT2, beq_self_eq_true, decide_true, Nat.reduceAdd, Nat.reduceLT, Nat.zero_add, Bool.and_self, Bool.and_true, Bool.true_and, u_isT, u_int, u_intB, u_abs, u_neg, u_tupL, u_revT, seq?, setO, assignT, assignTs, isTy, List.getElem?_cons_zero, List.getElem?_cons_succ, Option.join_some, List.set_cons_zero, List.set_cons_succ, List.length_cons, List.length_nil, Res.bind, if_true, if_false, Nat.lt_irrefl, Bool.not_true, Bool.not_false, reduceIte, Bool.false_eq_true, toDs_val, trees_val]
  · obtain ⟨j, hj, rfl⟩ := List.mem_map.mp hz
    rw [List.mem_range] at hj
    obtain ⟨x, hx⟩ : ∃ x, R[j]? = some x := ⟨_, List.getElem?_eq_getElem hj⟩
    have i1 := idx_at (dcp e) R hx
    have i2 : notAbove R T (j : Int) = decide (x.1 ≤ T) := by unfold notAbove; rw [Int.toNat_natCast, hx]
    rw [i2]
    generalize R.map (dcp e) = Y at *
    generalize WD c e R = Z at *
    generalize nr c e T = N at *
    unfold E46 dcp at *
    simp only [evS, exS, okb, stb, seqS, one, stepE_none, stepE_bl, stepE_int, stepE_str, stepE_var, stepE_glb, stepE_tup, stepE_lst, stepE_op1, stepE_op2, stepE_not, stepE_and, stepE_or, stepE_ite, stepE_chain, stepE_slice, stepE_call, evD, evDs, evArgs, optI, truthE, truth, O.tree, O.toD, O.trees, O.toDs, v_add, v_sub, v_le, v_lt, v_ge, v_gt, v_min, v_max, v_eq, v_ne, v_is, v_isnt, v_t20, v_t21, u_lenL, u_lenT2, beq_self_eq_true, decide_true, Nat.reduceAdd, Nat.reduceLT, Nat.zero_add, Bool.and_self, Bool.and_true, Bool.true_and, u_isT, u_int, u_intB, u_abs, u_neg, u_tupL, u_revT, seq?, setO, assignT, assignTs, isTy, List.getElem?_cons_zero, List.getElem?_cons_succ, Option.join_some, List.set_cons_zero, List.set_cons_succ, List.length_cons, List.length_nil, Res.bind, if_true, if_false, Nat.lt_irrefl, Bool.not_true, Bool.not_false, reduceIte, Bool.false_eq_true, toDs_val, trees_val, i1, t30]
  · generalize R.map (dcp e) = Y
    generalize WD c e R = Z
    generalize nr c e T = N
    unfold E46
    simp only [evS, exS, okb, stb, seqS, one, stepE_none, stepE_bl, stepE_int, stepE_str, stepE_var, stepE_glb, stepE_tup, stepE_lst, stepE_op1, stepE_op2, stepE_not, stepE_and, stepE_or, stepE_ite, stepE_chain, stepE_slice, stepE_call, evD, evDs, evArgs, optI, truthE, truth, O.tree, O.toD, O.trees, O.toDs, v_add, v_sub, v_le, v_lt, v_ge, v_gt, v_min, v_max, v_eq, v_ne, v_is, v_isnt, v_t20, v_t21, u_lenL, u_lenT2, beq_self_eq_true, decide_true, Nat.reduceAdd, Nat.reduceLT, Nat.zero_add, Bool.and_self, Bool.and_true, Bool.true_and, u_isT, u_int, u_intB, u_abs, u_neg, u_tupL, u_revT, seq?, setO, assignT, assignTs, isTy, List.getElem?_cons_zero, List.getElem?_cons_succ, Option.join_some, List.set_cons_zero, List.set_cons_succ, List.length_cons, List.length_nil, Res.bind, if_true, if_false, Nat.lt_irrefl, Bool.not_true, Bool.not_false, reduceIte, Bool.false_eq_true, toDs_val, trees_val]
omit T0 T1 s0 s1 in
theorem i46_4 (n : Nat) : Ev.one Tb (evN Tb (n + 158)) (exN Tb (n + 158)) I46_4 (E46 ds c e m (some (.val (.list (WD c e R)))) a5 (some (.val (dcp e p))) (some (.val (.list (R.map (dcp e))))) (some (.val (.int T))) (some (.val (.int (nr c e T)))) (some (.val (dc T s e))) a11 a12) = .ok (.next, (E46 ds c e m (some (.val (.list (WD c e R)))) a5 (some (.val (dcp e p))) (some (.val (.list (R.map (dcp e))))) (some (.val (.int T))) (some (.val (.int (nr c e T)))) (some (.val (dc T s e))) (some (.val (.list [.int (lT.length : Int)]))) a12)) := by
  have hq := q46_i4 h e0 e1 m0 m1 ro hR ds a5 a11 a12 (s := s) rT hX hX2 (n + 116)
  have hs : slice1 (.list ((ixs lT.length ++ [(lT.length : Int)]).map .int)) (some (-1)) none = some (.lst (([.int (lT.length : Int)] : List D).map .val)) := by
    show some (O.lst ((cutD ((ixs lT.length ++ [(lT.length : Int)]).map .int) (some (-1)) none).map .val)) = _
    rw [List.map_append, List.map_cons, List.map_nil, cut_last]
  exact one_asg (i := 11) (env1 := (E46 ds c e m (some (.val (.list (WD c e R)))) a5 (some (.val (dcp e p))) (some (.val (.list (R.map (dcp e))))) (some (.val (.int T))) (some (.val (.int (nr c e T)))) (some (.val (dc T s e))) a11 a12)) (d := .list [.int (lT.length : Int)]) (ev_slice (n := n + 157) (evD_lst ((evS (n := n + 156) _ _).trans hq)) rfl hs) (show 11 < 15 by decide)
omit ro hR m0 rT hX hX2 in
theorem i46_5 (n : Nat) : Ev.one Tb (evN Tb (n + 158)) (exN Tb (n + 158)) I46_5 (E46 ds c e m (some (.val (.list (WD c e R)))) a5 (some (.val (dcp e p))) (some (.val (.list (R.map (dcp e))))) (some (.val (.int T))) (some (.val (.int (nr c e T)))) (some (.val (dc T s e))) (some (.val (.list [.int (lT.length : Int)]))) a12) = .ok (.next, (E46 ds c e m (some (.val (.list (WD c e R)))) a5 (some (.val (dcp e p))) (some (.val (.list (R.map (dcp e))))) (some (.val (.int T))) (some (.val (.int (nr c e T)))) (some (.val (dc T s e))) (some (.val (.list [.int (lT.length : Int)]))) (some (.val (fr (W c e (T, s))))))) := by
  have d : Dc T s e := ⟨T0, by omega, s0, s1, e0, e1⟩
  have k43 := fun m' env => call2 (T := Tb) (n := m' + 70) env (r43 d h m')
  have k45 := fun m' env => call1 (T := Tb) (n := m' + 9) env (r45 m' (dft T s e c))
  unfold W
  dsimp only
  generalize dft T s e c = x at *
  generalize R.map (dcp e) = Y at *
  generalize WD c e R = Z at *
  generalize nr c e T = N at *
  unfold I46_5 E46 dcp fr at *
  simp only [evS, exS, okb, stb, seqS, one, stepE_none, stepE_bl, stepE_int, stepE_str, stepE_var, stepE_glb, stepE_tup, stepE_lst, stepE_op1, stepE_op2, stepE_not, stepE_and, stepE_or, stepE_ite, stepE_chain, stepE_slice, stepE_call, evD, evDs, evArgs, optI, truthE, truth, O.tree, O.toD, O.trees, O.toDs, v_add, v_sub, v_le, v_lt, v_ge, v_gt, v_min, v_max, v_eq, v_ne, v_is, v_isnt, v_t20, v_t21, u_lenL, u_lenT2, beq_self_eq_true, decide_true, Nat.reduceAdd, Nat.reduceLT, Nat.zero_add, Bool.and_self, Bool.and_true, Bool.true_and, u_isT, u_int, u_intB, u_abs, u_neg, u_tupL, u_revT, seq?, setO, assignT, assignTs, isTy, List.getElem?_cons_zero, List.getElem?_cons_succ, Option.join_some, List.set_cons_zero, List.set_cons_succ, List.length_cons, List.length_nil, Res.bind, if_true, if_false, Nat.lt_irrefl, Bool.not_true, Bool.not_false, reduceIte, Bool.false_eq_true, toDs_val, trees_val, k43, k45]
theorem i46_6 (n : Nat) : Ev.one Tb (evN Tb (n + 158)) (exN Tb (n + 158)) I46_6 (E46 ds c e m (some (.val (.list (WD c e R)))) a5 (some (.val (dcp e p))) (some (.val (.list (R.map (dcp e))))) (some (.val (.int T))) (some (.val (.int (nr c e T)))) (some (.val (dc T s e))) (some (.val (.list [.int (lT.length : Int)]))) (some (.val (fr (W c e (T, s)))))) = .ok (.next, (E46 ds c e m (some (.val (.list (WD c e R)))) a5 (some (.val (dcp e p))) (some (.val (.list (R.map (dcp e))))) (some (.val (.int T))) (some (.val (.int (nr c e T)))) (some (.val (dc T s e))) (some (.val (.list [.int (lT.length : Int)]))) (some (.val (fr (W c e (T, s))))))) := by
  have d : Dc T s e := ⟨T0, by omega, s0, s1, e0, e1⟩
  have hp := rT.lo pT (List.mem_append_right _ (List.mem_singleton.mpr rfl))
  have dp : Dc pT.1 pT.2 e := by rw [hp.2.2]; exact bsS_dc h e0 e1 hp.1 (by omega)
  have b1 := rT.best T T0 (Int.le_refl _)
  have b2 := best_le h e0 (show 1 ≤ T by omega) s0 s1
  have i1 := idx_at (fun q => fr (W c e q)) R (R_at ro hR rT hX hX2)
  have i0 : ev2 .idx (.list [.int (lT.length : Int)]) (.int 0) = some (.val (.int (lT.length : Int))) := rfl
  have k40 := fun m' env => call2 (T := Tb) (n := m' + 9) env (r40 m' (p := W c e pT) (q := W c e (T, s)) ((W_B h e0 e1 dp).mono (by decide)) ((W_B h e0 e1 d).mono (by decide)))
  rw [decide_eq_true (show W c e pT ≤ W c e (T, s) by grind)] at k40
  have ee := v_eqR (W c e (T, s)) (W c e pT)
  have el : ev2 .eq (.list [.int (lT.length : Int)]) (.list []) = some (.val (.bool false)) := by
    have := v_eqL0 [(lT.length : Int)]
    rw [decide_eq_false (by simp)] at this
    exact this
  have lt := v_ltP T s pT.1 pT.2
  have i2 := idx_at (dcp e) R (R_at ro hR rT hX hX2)
  by_cases q : W c e (T, s) = W c e pT
  · rw [decide_eq_true q] at ee
    have hlt : decide (T < pT.1 ∨ (T = pT.1 ∧ s < pT.2)) = false := by
      refine decide_eq_false ?_
      rintro (z | ⟨z1, z2⟩)
      · omega
      · have e2 : pT = (T, bsS c e T) := by
          rw [z1]
          exact Prod.ext rfl hp.2.2
        have := b2.2 (by rw [← e2]; exact q.symm)
        rw [hp.2.2, ← z1] at z2
        omega
    rw [hlt] at lt
    generalize W c e (T, s) = w1 at *
    generalize W c e pT = w2 at *
    generalize R.map (dcp e) = Y at *
    unfold WD at *
    generalize (R.map fun q => fr (W c e q)) = Z at *
    generalize nr c e T = N at *
    unfold I46_6 E46 dcp at *
    unfold fr at *
    simp only [evS, exS, okb, stb, seqS, one, stepE_none, stepE_bl, stepE_int, stepE_str, stepE_var, stepE_glb, stepE_tup, stepE_lst, stepE_op1, stepE_op2, stepE_not, stepE_and, stepE_or, stepE_ite, stepE_chain, stepE_slice, stepE_call, evD, evDs, evArgs, optI, truthE, truth, O.tree, O.toD, O.trees, O.toDs, v_add, v_sub, v_le, v_lt, v_ge, v_gt, v_min, v_max, v_eq, v_ne, v_is, v_isnt, v_t20, v_t21, u_lenL, u_lenT2, beq_self_eq_true, decide_true, Nat.reduceAdd, Nat.reduceLT, Nat.zero_add, Bool.and_self, Bool.and_true, Bool.true_and, u_isT, u_int, u_intB, u_abs, u_neg, u_tupL, u_revT, seq?, setO, assignT, assignTs, isTy, List.getElem?_cons_zero, List.getElem?_cons_succ, Option.join_some, List.set_cons_zero, List.set_cons_succ, List.length_cons, List.length_nil, Res.bind, if_true, if_false, Nat.lt_irrefl, Bool.not_true, Bool.not_false, reduceIte, Bool.false_eq_true, toDs_val, trees_val, i0, i1, i2, k40, ee, el, lt, t30, t31, mo4, mo4', mo3, mo3', mo2, mo2', mo2'', mo5, mo6, mo1, mo1', mo0, List.map_nil]
  · rw [decide_eq_false q] at ee
    generalize W c e (T, s) = w1 at *
    generalize W c e pT = w2 at *
    generalize R.map (dcp e) = Y at *
    unfold WD at *
    generalize (R.map fun q => fr (W c e q)) = Z at *
    generalize nr c e T = N at *
    unfold I46_6 E46 dcp at *
    unfold fr at *
    simp only [evS, exS, okb, stb, seqS, one, stepE_none, stepE_bl, stepE_int, stepE_str, stepE_var, stepE_glb, stepE_tup, stepE_lst, stepE_op1, stepE_op2, stepE_not, stepE_and, stepE_or, stepE_ite, stepE_chain, stepE_slice, stepE_call, evD, evDs, evArgs, optI, truthE, truth, O.tree, O.toD, O.trees, O.toDs, v_add, v_sub, v_le, v_lt, v_ge, v_gt, v_min, v_max, v_eq, v_ne, v_is, v_isnt, v_t20, v_t21, u_lenL, u_lenT2, beq_self_eq_true, decide_true, Nat.reduceAdd, Nat.reduceLT, Nat.zero_add, Bool.and_self, Bool.and_true, Bool.true_and, u_isT, u_int, u_intB, u_abs, u_neg, u_tupL, u_revT, seq?, setO, assignT, assignTs, isTy, List.getElem?_cons_zero, List.getElem?_cons_succ, Option.join_some, List.set_cons_zero, List.set_cons_succ, List.length_cons, List.length_nil, Res.bind, if_true, if_false, Nat.lt_irrefl, Bool.not_true, Bool.not_false, reduceIte, Bool.false_eq_true, toDs_val, trees_val, i0, i1, i2, k40, ee, el, t30, t31, mo4, mo4', mo3, mo3', mo2, mo2', mo2'', mo5, mo6, mo1, mo1', mo0, List.map_nil]
omit s0 s1 in
theorem i46_7 (n : Nat) : Ev.one Tb (evN Tb (n + 158)) (exN Tb (n + 158)) I46_7 (E46 ds c e m (some (.val (.list (WD c e R)))) a5 (some (.val (dcp e p))) (some (.val (.list (R.map (dcp e))))) (some (.val (.int T))) (some (.val (.int (nr c e T)))) (some (.val (dc T s e))) (some (.val (.list [.int (lT.length : Int)]))) (some (.val (fr (W c e (T, s)))))) = .ok (.next, (E46 ds c e m (some (.val (.list (WD c e R)))) a5 (some (.val (dcp e p))) (some (.val (.list (R.map (dcp e))))) (some (.val (.int T))) (some (.val (.int (nr c e T)))) (some (.val (dc T s e))) (some (.val (.list [.int (lT.length : Int)]))) (some (.val (fr (W c e (T, s))))))) := by
  have k22 := fun m' env => call3 (T := Tb) (n := m' + 140) env (r22 h e0 e1 T0 (show T ≤ 400 by omega) m' rT.is)
  have i0 : ev2 .idx (.list [.int (lT.length : Int)]) (.int 0) = some (.val (.int (lT.length : Int))) := rfl
  have i2 := idx_at (dcp e) R (R_at ro hR rT hX hX2)
  have v1 := v_ne3 pT.1 pT.2 e
  generalize W c e (T, s) = w1 at *
  generalize R.map (dcp e) = Y at *
  generalize WD c e R = Z at *
  generalize nr c e T = N at *
  unfold I46_7 E46 dcp at *
  simp only [evS, exS, okb, stb, seqS, one, stepE_none, stepE_bl, stepE_int, stepE_str, stepE_var, stepE_glb, stepE_tup, stepE_lst, stepE_op1, stepE_op2, stepE_not, stepE_and, stepE_or, stepE_ite, stepE_chain, stepE_slice, stepE_call, evD, evDs, evArgs, optI, truthE, truth, O.tree, O.toD, O.trees, O.toDs, v_add, v_sub, v_le, v_lt, v_ge, v_gt, v_min, v_max, v_eq, v_ne, v_is, v_isnt, v_t20, v_t21, u_lenL, u_lenT2, beq_self_eq_true, decide_true, Nat.reduceAdd, Nat.reduceLT, Nat.zero_add, Bool.and_self, Bool.and_true, Bool.true_and, u_isT, u_int, u_intB, u_abs, u_neg, u_tupL, u_revT, seq?, setO, assignT, assignTs, isTy, List.getElem?_cons_zero, List.getElem?_cons_succ, Option.join_some, List.set_cons_zero, List.set_cons_succ, List.length_cons, List.length_nil, Res.bind, if_true, if_false, Nat.lt_irrefl, Bool.not_true, Bool.not_false, reduceIte, Bool.false_eq_true, toDs_val, trees_val, k22, i0, i2, v1]
end
section
variable {c : Rat} (h : Tr c) {e : Int} (e0 : 1 ≤ e) (e1 : e ≤ 48) {m : Int} (m0 : 2 ≤ m) (m1 : m ≤ 400) {R l : List (Int × Int)} {p : Int × Int} (ro : RowOk c e m l p) (hR : R = l ++ [p]) (ds : List Int) (a4 a5 a6 a7 a8 a9 a10 a11 a12 : Option O)
include h e0 e1 m0 m1 ro hR
theorem turn46 (n : Nat) : ∃ ds' b8 b9 b10 b11 b12, exN Tb (n + 159) body46 (E46 ds c e m (some (.val (.list (WD c e R)))) a5 (some (.val (dcp e p))) (some (.val (.list (R.map (dcp e))))) a8 a9 a10 a11 a12) = .ok (.next, (E46 ds' c e m (some (.val (.list (WD c e R)))) a5 (some (.val (dcp e p))) (some (.val (.list (R.map (dcp e))))) b8 b9 b10 b11 b12)) := by
  obtain ⟨T, ds1, T0, T1, x1⟩ := i46_1 m0 ds a5 a8 a9 a10 a11 a12 (c := c) (e := e) (R := R) (p := p)
  have x2 := i46_2 h e0 e1 m1 (R := R) (p := p) ds1 a5 a9 a10 a11 a12 T0 T1 n
  obtain ⟨s, ds3, s0, s1, x3⟩ := i46_3 (c := c) (e := e) (R := R) (p := p) ds1 a5 a10 a11 a12 T0 T1
  obtain ⟨lT, pT, rT⟩ := row_at c e T0
  obtain ⟨X, hX, hX2⟩ := row_cut c e (show 1 ≤ T by omega) T1
  have x4 := i46_4 h e0 e1 m0 m1 ro hR ds3 a5 a11 a12 (s := s) rT hX hX2 n
  have x5 := i46_5 h e0 e1 m1 (R := R) (p := p) ds3 a5 a12 T0 T1 s0 s1 (lT := lT) n
  have x6 := i46_6 h e0 e1 m0 m1 ro hR ds3 a5 T0 T1 s0 s1 rT hX hX2 n
  have x7 := i46_7 h e0 e1 m0 m1 ro hR ds3 a5 T0 T1 (s := s) rT hX hX2 n
  refine ⟨ds3, (some (.val (.int T))), (some (.val (.int (nr c e T)))), (some (.val (dc T s e))), (some (.val (.list [.int (lT.length : Int)]))), (some (.val (fr (W c e (T, s))))), (exS (n := n + 158) _ _).trans ?_⟩
  refine seq_next (x1 n) ?_
  refine seq_next x2 ?_
  refine seq_next (x3 n) ?_
  refine seq_next x4 ?_
  refine seq_next x5 ?_
  refine seq_next x6 ?_
  refine seq_next x7 ?_
  exact seq_nil
end
theorem w46 (ds : List Int) (c : Rat) (e m : Int) (a4 a5 a6 a7 a8 a9 a10 a11 a12 : Option O) : wipeE (((E46 ds c e m a4 a5 a6 a7 a8 a9 a10 a11 a12)).take f46.np) (asgds f46.body) = [some (dr ds), some (.val (fr c)), some (.val (.int e)), some (.val (.int m))] := by kernel_rfl
section
variable {c : Rat} (h : Tr c) {e : Int} (e0 : 1 ≤ e) (e1 : e ≤ 48) {m : Int} (m0 : 2 ≤ m) (m1 : m ≤ 400)
include h e0 e1 m0 m1
theorem r46 (n : Nat) (ds : List Int) : ∃ ds', callF Tb (exN Tb (n + 160)) 46 [dr ds, .val (fr c), .val (.int e), .val (.int m)] = .ok (.val (.bool true), [some (dr ds'), some (.val (fr c)), some (.val (.int e)), some (.val (.int m))]) := by
  obtain ⟨l, p, ro⟩ := row_at c e m0
  have x1 := s46_1 h e0 e1 m0 m1 ro rfl ds none none none none none none none none none n
  have x2 := s46_2 h e0 e1 m0 m1 ro rfl ds none none none none none none none n
  have x3 := s46_3 h e0 e1 m0 m1 ro rfl ds none none none none none none none n
  have x4 := s46_4 h e0 e1 m0 m1 ro rfl ds none none none none none none n
  generalize hR : l ++ [p] = R at *
  obtain ⟨env', hl, ds', b5, b8, b9, b10, b11, b12, he⟩ := loop_inv (body := exN Tb (n + 159) body46) (t := .nm 5) (fun env => ∃ ds b5 b8 b9 b10 b11 b12, env = (E46 ds c e m (some (.val (.list (WD c e R)))) b5 (some (.val (dcp e p))) (some (.val (.list (R.map (dcp e))))) b8 b9 b10 b11 b12)) (ds := rangeD 0 20) (env := (E46 ds c e m (some (.val (.list (WD c e R)))) none (some (.val (dcp e p))) (some (.val (.list (R.map (dcp e))))) none none none none none)) ⟨_, _, _, _, _, _, _, rfl⟩ (by
    rintro v _ env ⟨ds, b5, b8, b9, b10, b11, b12, rfl⟩
    obtain ⟨ds', c8, c9, c10, c11, c12, hj⟩ := turn46 h e0 e1 m0 m1 ro hR.symm ds (some (.val v)) b8 b9 b10 b11 b12 n
    exact ⟨(E46 ds c e m (some (.val (.list (WD c e R)))) (some (.val v)) (some (.val (dcp e p))) (some (.val (.list (R.map (dcp e))))) b8 b9 b10 b11 b12), _, rfl, hj, _, _, _, _, _, _, _, rfl⟩)
  subst he
  refine ⟨ds', callF_ret (d := f46) (os := [dr ds, .val (fr c), .val (.int e), .val (.int m)]) (env := (E46 ds' c e m (some (.val (.list (WD c e R)))) b5 (some (.val (dcp e p))) (some (.val (.list (R.map (dcp e))))) b8 b9 b10 b11 b12)) (e0 := (E46 ds c e m none none none none none none none none none)) rfl rfl rfl ((exS (n := n + 159) _ _).trans ?_) (w46 _ _ _ _ _ _ _ _ _ _ _ _ _)⟩
  refine seq_next x1 ?_
  refine seq_next x2 ?_
  refine seq_next x3 ?_
  refine seq_next x4 ?_
  refine seq_next (one_for (items_range (j := 20) (env1 := (E46 ds c e m (some (.val (.list (WD c e R)))) none (some (.val (dcp e p))) (some (.val (.list (R.map (dcp e))))) none none none none none)) (by unfold E46; simp only [evS, exS, okb, stb, seqS, one, stepE_none, stepE_bl, stepE_int, stepE_str, stepE_var, stepE_glb, stepE_tup, stepE_lst, stepE_op1, stepE_op2, stepE_not, stepE_and, stepE_or, stepE_ite, stepE_chain, stepE_slice, stepE_call, evD, evDs, evArgs, optI, truthE, truth, O.tree, O.toD, O.trees, O.toDs, v_add, v_sub, v_le, v_lt, v_ge, v_gt, v_min, v_max, v_eq, v_ne, v_is, v_isnt, v_t20, v_t21, u_lenL, u_lenT2, beq_self_eq_true, decide_true, Nat.reduceAdd, Nat.reduceLT, Nat.zero_add, Bool.and_self, Bool.and_true, Bool.true_and, u_isT, u_int, u_intB, u_abs, u_neg, u_tupL, u_revT, seq?, setO, assignT, assignTs, isTy, List.getElem?_cons_zero, List.getElem?_cons_succ, Option.join_some, List.set_cons_zero, List.set_cons_succ, List.length_cons, List.length_nil, Res.bind, if_true, if_false, Nat.lt_irrefl, Bool.not_true, Bool.not_false, reduceIte, Bool.false_eq_true, toDs_val, trees_val]) (by decide) rfl) hl) ?_
  exact seq_ret (one_ret (env1 := (E46 ds' c e m (some (.val (.list (WD c e R)))) b5 (some (.val (dcp e p))) (some (.val (.list (R.map (dcp e))))) b8 b9 b10 b11 b12)) (d := .bool true) rfl)
end
end Hd

end
section
set_option autoImplicit false
set_option linter.all false
set_option maxRecDepth 100000
set_option maxHeartbeats 1000000
namespace Hd
open PySem Ev
abbrev S47_1 : Ev.S := (.asgO 1 (.call 35 [(.lend 0)]))
abbrev S47_3 : Ev.S := (.retO (.call 46 [(.lend 1), (.var 4), (.op2 .idx (.var 3) (.int 2)), (.call 37 [(.lend 1), (.lst [(.int 12), (.int 60), (.int 400)])])]))
theorem s47_3 (n : Nat) (ns ds : List Int) (a2 a3 a4 a5 a6 a7 a8 a9 a10 a11 a12 a13 a14 a15 a16 a17 a18 a19 a20 a21 a22 a23 : Option O) {t s e : Int} (d : Dc t s e) {c : Rat} (h : Tr c) : ∃ ds', Ev.one Tb (evN Tb (n + 171)) (exN Tb (n + 171)) S47_3 (E47 ns ds a2 (some (.val (dc t s e))) (some (.val (fr c))) a5 a6 a7 a8 a9 a10 a11 a12 a13 a14 a15 a16 a17 a18 a19 a20 a21 a22 a23) = .ok (.ret (.val (.bool true)), (E47 ns ds' a2 (some (.val (dc t s e))) (some (.val (fr c))) a5 a6 a7 a8 a9 a10 a11 a12 a13 a14 a15 a16 a17 a18 a19 a20 a21 a22 a23)) := by
  obtain ⟨m, hm, em⟩ := pick3 (ds := ds) (a := 12) (b := 60) (c := 400) (P := fun m => 2 ≤ m ∧ m ≤ 400) (by decide) (by decide) (by decide)
  have k37 := fun m' o env => t37_1 m' ds [.int 12, .int 60, .int 400] (by simp) o env
  rw [em] at k37
  obtain ⟨ds', h46⟩ := r46 h d.e0 d.e1 hm.1 hm.2 (n + 10) ds.dropLast
  have k46 : ∀ (o : Option O) (l : Ev.Env), callA Tb (exN Tb (n + 170)) 46 [(some 1, .none), (none, fr c), (none, .int e), (none, .int m)] (o :: some (dr ds.dropLast) :: l) = .ok (.val (.bool true), o :: some (dr ds') :: l) := fun o l => callA_run (by simp [lent]) rfl rfl h46
  refine ⟨ds', ?_⟩
  unfold S47_3 E47
  simp only [evS, exS, okb, stb, seqS, one, stepE_none, stepE_bl, stepE_int, stepE_str, stepE_var, stepE_glb, stepE_tup, stepE_lst, stepE_op1, stepE_op2, stepE_not, stepE_and, stepE_or, stepE_ite, stepE_chain, stepE_slice, stepE_call, evD, evDs, evArgs, optI, truthE, truth, O.tree, O.toD, O.trees, O.toDs, v_add, v_sub, v_le, v_lt, v_ge, v_gt, v_min, v_max, v_eq, v_ne, v_is, v_isnt, v_t20, v_t21, u_lenL, u_lenT2, beq_self_eq_true, decide_true, Nat.reduceAdd, Nat.reduceLT, Nat.zero_add, Bool.and_self, Bool.and_true, Bool.true_and, u_isT, u_int, u_intB, u_abs, u_neg, u_tupL, u_revT, seq?, setO, assignT, assignTs, isTy, List.getElem?_cons_zero, List.getElem?_cons_succ, Option.join_some, List.set_cons_zero, List.set_cons_succ, List.length_cons, List.length_nil, Res.bind, if_true, if_false, Nat.lt_irrefl, Bool.not_true, Bool.not_false, reduceIte, Bool.false_eq_true, toDs_val, trees_val, k37, k46, g1, t32, mo4, mo4', mo3, mo3', mo2, mo2', mo2'', mo5, mo6, List.map_cons, List.map_nil]
theorem w47 (ns ds : List Int) (a2 a3 a4 a5 a6 a7 a8 a9 a10 a11 a12 a13 a14 a15 a16 a17 a18 a19 a20 a21 a22 a23 : Option O) : wipeE (((E47 ns ds a2 a3 a4 a5 a6 a7 a8 a9 a10 a11 a12 a13 a14 a15 a16 a17 a18 a19 a20 a21 a22 a23)).take f47.np) (asgds f47.body) = [some (.scr ns)] := by kernel_rfl
theorem r47 (n : Nat) (ns : List Int) (hn : ns.length ≤ 63) : ∃ env, callF Tb (exN Tb (n + 172)) 47 [.scr ns] = .ok (.val (.bool true), env) := by
  obtain ⟨ds, h35⟩ := r35 (n + 110) ns hn
  have x1 : Ev.one Tb (evN Tb (n + 171)) (exN Tb (n + 171)) S47_1 [some (.scr ns), none, none, none, none, none, none, none, none, none, none, none, none, none, none, none, none, none, none, none, none, none, none, none] = .ok (.next, (E47 ns ds none none none none none none none none none none none none none none none none none none none none none none)) := by
    have k35 : callA Tb (exN Tb (n + 170)) 35 [(some 0, .none)] [some (.scr ns), none, none, none, none, none, none, none, none, none, none, none, none, none, none, none, none, none, none, none, none, none, none, none] = .ok (dr ds, [some (.scr ns), none, none, none, none, none, none, none, none, none, none, none, none, none, none, none, none, none, none, none, none, none, none, none]) := callA_run (by simp [lent]) rfl rfl h35
    unfold S47_1
    simp only [evS, exS, okb, stb, seqS, one, stepE_none, stepE_bl, stepE_int, stepE_str, stepE_var, stepE_glb, stepE_tup, stepE_lst, stepE_op1, stepE_op2, stepE_not, stepE_and, stepE_or, stepE_ite, stepE_chain, stepE_slice, stepE_call, evD, evDs, evArgs, optI, truthE, truth, O.tree, O.toD, O.trees, O.toDs, v_add, v_sub, v_le, v_lt, v_ge, v_gt, v_min, v_max, v_eq, v_ne, v_is, v_isnt, v_t20, v_t21, u_lenL, u_lenT2, beq_self_eq_true, decide_true, Nat.reduceAdd, Nat.reduceLT, Nat.zero_add, Bool.and_self, Bool.and_true, Bool.true_and, u_isT, u_int, u_intB, u_abs, u_neg, u_tupL, u_revT, seq?, setO, assignT, assignTs, isTy, List.getElem?_cons_zero, List.getElem?_cons_succ, Option.join_some, List.set_cons_zero, List.set_cons_succ, List.length_cons, List.length_nil, Res.bind, if_true, if_false, Nat.lt_irrefl, Bool.not_true, Bool.not_false, reduceIte, Bool.false_eq_true, toDs_val, trees_val, k35]
  obtain ⟨t1, s1, e1, c1, ds1, z1_5, z1_6, z1_7, z1_8, z1_9, z1_10, z1_11, z1_12, z1_13, z1_14, z1_15, z1_16, z1_17, z1_18, z1_19, z1_20, z1_21, z1_22, z1_23, d1, h1, y1⟩ := turn47 (n + 1) ns ds (some (.val (.int 0))) none none none none none none none none none none none none none none none none none none none none none
  obtain ⟨t2, s2, e2, c2, ds2, z2_5, z2_6, z2_7, z2_8, z2_9, z2_10, z2_11, z2_12, z2_13, z2_14, z2_15, z2_16, z2_17, z2_18, z2_19, z2_20, z2_21, z2_22, z2_23, d2, h2, y2⟩ := turn47 (n + 1) ns ds1 (some (.val (.int 1))) (some (.val (dc t1 s1 e1))) (some (.val (fr c1))) z1_5 z1_6 z1_7 z1_8 z1_9 z1_10 z1_11 z1_12 z1_13 z1_14 z1_15 z1_16 z1_17 z1_18 z1_19 z1_20 z1_21 z1_22 z1_23
  obtain ⟨t3, s3, e3, c3, ds3, z3_5, z3_6, z3_7, z3_8, z3_9, z3_10, z3_11, z3_12, z3_13, z3_14, z3_15, z3_16, z3_17, z3_18, z3_19, z3_20, z3_21, z3_22, z3_23, d3, h3, y3⟩ := turn47 (n + 1) ns ds2 (some (.val (.int 2))) (some (.val (dc t2 s2 e2))) (some (.val (fr c2))) z2_5 z2_6 z2_7 z2_8 z2_9 z2_10 z2_11 z2_12 z2_13 z2_14 z2_15 z2_16 z2_17 z2_18 z2_19 z2_20 z2_21 z2_22 z2_23
  have hl : loopF (exN Tb (n + 171) body47) (.nm 2) (rangeD 0 3) (E47 ns ds none none none none none none none none none none none none none none none none none none none none none none) = .ok (.next, (E47 ns ds3 (some (.val (.int 2))) (some (.val (dc t3 s3 e3))) (some (.val (fr c3))) z3_5 z3_6 z3_7 z3_8 z3_9 z3_10 z3_11 z3_12 z3_13 z3_14 z3_15 z3_16 z3_17 z3_18 z3_19 z3_20 z3_21 z3_22 z3_23)) :=
    (loopF_next (ds := [.int 1, .int 2]) (env1 := (E47 ns ds (some (.val (.int 0))) none none none none none none none none none none none none none none none none none none none none none)) rfl y1).trans ((loopF_next (ds := [.int 2]) (env1 := (E47 ns ds1 (some (.val (.int 1))) (some (.val (dc t1 s1 e1))) (some (.val (fr c1))) z1_5 z1_6 z1_7 z1_8 z1_9 z1_10 z1_11 z1_12 z1_13 z1_14 z1_15 z1_16 z1_17 z1_18 z1_19 z1_20 z1_21 z1_22 z1_23)) rfl y2).trans ((loopF_next (ds := []) (env1 := (E47 ns ds2 (some (.val (.int 2))) (some (.val (dc t2 s2 e2))) (some (.val (fr c2))) z2_5 z2_6 z2_7 z2_8 z2_9 z2_10 z2_11 z2_12 z2_13 z2_14 z2_15 z2_16 z2_17 z2_18 z2_19 z2_20 z2_21 z2_22 z2_23)) rfl y3).trans rfl))
  have x2 : Ev.one Tb (evN Tb (n + 171)) (exN Tb (n + 171)) (.forS (.nm 2) (.range (.int 3)) body47) (E47 ns ds none none none none none none none none none none none none none none none none none none none none none none) = .ok (.next, (E47 ns ds3 (some (.val (.int 2))) (some (.val (dc t3 s3 e3))) (some (.val (fr c3))) z3_5 z3_6 z3_7 z3_8 z3_9 z3_10 z3_11 z3_12 z3_13 z3_14 z3_15 z3_16 z3_17 z3_18 z3_19 z3_20 z3_21 z3_22 z3_23)) :=
    one_for (items_range (j := 3) (env1 := (E47 ns ds none none none none none none none none none none none none none none none none none none none none none none)) (by unfold E47; simp only [evS, exS, okb, stb, seqS, one, stepE_none, stepE_bl, stepE_int, stepE_str, stepE_var, stepE_glb, stepE_tup, stepE_lst, stepE_op1, stepE_op2, stepE_not, stepE_and, stepE_or, stepE_ite, stepE_chain, stepE_slice, stepE_call, evD, evDs, evArgs, optI, truthE, truth, O.tree, O.toD, O.trees, O.toDs, v_add, v_sub, v_le, v_lt, v_ge, v_gt, v_min, v_max, v_eq, v_ne, v_is, v_isnt, v_t20, v_t21, u_lenL, u_lenT2, beq_self_eq_true, decide_true, Nat.reduceAdd, Nat.reduceLT, Nat.zero_add, Bool.and_self, Bool.and_true, Bool.true_and, u_isT, u_int, u_intB, u_abs, u_neg, u_tupL, u_revT, seq?, setO, assignT, assignTs, isTy, List.getElem?_cons_zero, List.getElem?_cons_succ, Option.join_some, List.set_cons_zero, List.set_cons_succ, List.length_cons, List.length_nil, Res.bind, if_true, if_false, Nat.lt_irrefl, Bool.not_true, Bool.not_false, reduceIte, Bool.false_eq_true, toDs_val, trees_val]) (by decide) rfl) hl
  obtain ⟨ds4, x3⟩ := s47_3 n ns ds3 (some (.val (.int 2))) (some (.val (dc t3 s3 e3))) (some (.val (fr c3))) z3_5 z3_6 z3_7 z3_8 z3_9 z3_10 z3_11 z3_12 z3_13 z3_14 z3_15 z3_16 z3_17 z3_18 z3_19 z3_20 z3_21 z3_22 z3_23 d3 h3
  have hx : exN Tb (n + 172) f47.body [some (.scr ns), none, none, none, none, none, none, none, none, none, none, none, none, none, none, none, none, none, none, none, none, none, none, none] = .ok (.ret (.val (.bool true)), (E47 ns ds4 (some (.val (.int 2))) (some (.val (dc t3 s3 e3))) (some (.val (fr c3))) z3_5 z3_6 z3_7 z3_8 z3_9 z3_10 z3_11 z3_12 z3_13 z3_14 z3_15 z3_16 z3_17 z3_18 z3_19 z3_20 z3_21 z3_22 z3_23)) := by
    refine (exS (n := n + 171) _ _).trans ?_
    refine seq_next x1 ?_
    refine seq_next x2 ?_
    exact seq_ret x3
  exact ⟨_, callF_ret (d := f47) (os := [.scr ns]) (e0 := [some (.scr ns), none, none, none, none, none, none, none, none, none, none, none, none, none, none, none, none, none, none, none, none, none, none, none]) rfl rfl rfl hx (w47 _ _ _ _ _ _ _ _ _ _ _ _ _ _ _ _ _ _ _ _ _ _ _ _)⟩
theorem cw : PySem.Challenge.rw_chimeward_k03_whole_discs_of_many_teeth.Holds := Hd.join 172 (by decide) fun ns hn _ => r47 0 ns hn
end Hd

end
theorem PySem.Challenge.cw_chimeward_k03_whole_discs_of_many_teeth_holds : PySem.Challenge.rw_chimeward_k03_whole_discs_of_many_teeth.Holds := by
  exact Hd.cw
