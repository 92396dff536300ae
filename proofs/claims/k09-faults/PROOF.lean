import PyProof.Rows.All
import HandS.ForMost
import HandS.Wide
import KE.SortData
import KE.DataEq
import KE.DataMinMax
import PyProof.ReprReads
import HandS.ForExc
import HandS.HotCalls
import HandS.ExcCtx
import KE.KTupSum
import HandS.IsInst
import HandS.Conv
import PyProof.ReprRoads
import HandS.SortInts
import KE.DataCmp
import HandS.WideBits
import PyProof.IsRules
import HandS.TupAny
import HandS.SetFor
import HandS.Strs
import HandS.ExcIs
import HandS.Defaults
import HandS.More
import HandS.Dict
import HandS.Star
import HandS.Flow
import HandS.RevTup
import HandS.Rev
import KE.KRevSl
import HandS.TryOnly
import HandS.Zip
import HandS.DictComp
import HandS.Style
import HandS.EndBits
import HandS.HeadEnd
import KE.Datum
import HandS.HeadHook2
import HandS.HeadHook3
import Wide.Tac
import KE.KStateDown
import HandS.Words
import HandS.WordsExc
import HandS.Head0
import HandS.Head1
import HandS.Head2
import HandS.HeadHook1
import HandS.Codes
import PySem.Challenge.RW_chimeward_k09_whole_faults_of_words
set_option Elab.async false
section
set_option autoImplicit false
set_option linter.all false
/-! The evaluator: a small language of expressions and statements with values that are trees, run by fuel. -/
namespace Ev
open PySem

abbrev D := PyData

/-- what a slot holds: a value that nobody changes, or a list, a dict of its own -/
inductive O where
  | val (d : D)
  | lst (xs : List O)
  | dct (ks : List D) (vs : List O)
  | exc (c : Nat)
  | scr (is : List Int)

inductive Res (α : Type) where
  | ok (a : α)
  | err (c : Nat)
  | stuck

def noErr {α : Type} : Res α → Res α
  | .err _ => .stuck
  | r => r
def Res.bind {α β : Type} : Res α → (α → Res β) → Res β
  | .ok a, f => f a
  | .err c, _ => .err c
  | .stuck, _ => .stuck

abbrev Env := List (Option O)

mutual
def O.toD : O → D
  | .val d => d
  | .lst xs => .list (O.toDs xs)
  | .dct ks vs => .dict (ks.zip (O.toDs vs))
  | .exc _ => .none
  | .scr _ => .none
def O.toDs : List O → List D
  | [] => []
  | x :: xs => x.toD :: O.toDs xs
end

/-! what may be frozen -/
mutual
def O.tree : O → Bool
  | .val _ => true
  | .lst xs => O.trees xs
  | .dct _ vs => O.trees vs
  | .exc _ => false
  | .scr _ => false
def O.trees : List O → Bool
  | [] => true
  | x :: xs => x.tree && O.trees xs
end

/-! no list, no dict within -/
mutual
def flat : D → Bool
  | .none | .bool _ | .int _ | .str _ => true
  | .list _ => false
  | .tuple xs => flats xs
  | .dict _ => false
def flats : List D → Bool
  | [] => true
  | x :: xs => flat x && flats xs
end

inductive Ty where
  | int | bool | str | tuple | list | dict
  deriving DecidableEq

inductive Op1 where
  | len | all | any | sum | abs | int | str | list | tuple | sorted | min | max | listRev | sortedSet | lenSet | isT (t : Ty) | rev | neg | values | listRange | sumRange | repr
  deriving DecidableEq

inductive Op2 where
  | add | sub | mul | fdiv | mod | pow | eq | ne | lt | le | gt | ge | inn | nin | is | isnt | idx | min2 | max2 | index | listRange2 | listRange3 (c : Int) | listZip | inD | ninD | idxD
  deriving DecidableEq

inductive Tgt where
  | nm (i : Nat)
  | tup (ts : List Tgt)

mutual
/-- expressions -/
inductive E where
  | none | bl (b : Bool) | int (i : Int) | str (s : Str)
  | var (i : Nat)
  | glb (i : Nat)
  | tup (es : List E) | lst (es : List E) | star (e : E)
  | dct (ks vs : List E)
  | op1 (o : Op1) (a : E)
  | op2 (o : Op2) (a b : E)
  | not (a : E) | and (a b : E) | or (a b : E) | ite (c a b : E)
  | chain (o1 o2 : Op2) (a b c : E)
  | slice (a : E) (lo hi : Option E)
  | rng3 (t : Bool) (a b c : E)
  | call (f : Nat) (args : List E)
  | sel (fs : List Nat) (ix : E) (args : List E)
  | callS (f : Nat) (e : E)
  | lend (i : Nat)
  | pop (i : Nat)
  | lenScr (i : Nat)
  | ixScr (i : Nat) (e : E)
  | move (i : Nat)
  | snap (e : E)
  | comp (elt : E) (t : Tgt) (it : I) (c : Option E)
  | sortedKeys (elt : E) (t : Tgt) (it : I) (c : Option E)
  | dcomp (k v : E) (t : Tgt) (it : I) (c : Option E)
  | flg (g i : Nat)
  | inG (neg : Bool) (g : Nat) (e : E)
  | ixG (g : Nat) (e : E)
  | cdct (kvs : List (Str × Int))
  | bad
/-- what is walked -/
inductive I where
  | seq (e : E) | scr (i : Nat) | range (e : E) | range2 (a b : E) | range3 (a b : E) (c : Int) | rangeE (a b c : E) | zip (a b : E) | enum (e : E) | items (e : E) | values (e : E)
end

inductive S where
  | asg (t : Tgt) (e : E)
  | asgO (i : Nat) (e : E)
  | par (is : List Nat) (own : List Bool) (es : List E)
  | frz (is : List Nat)
  | setIx (i : Nat) (ix e : E)
  | aug (i : Nat) (o : Op2) (e : E)
  | app (i : Nat) (e : E)
  | expr (e : E)
  | ifS (c : E) (a b : List S)
  | forS (t : Tgt) (it : I) (body : List S)
  | whileS (c : E) (body : List S)
  | ret (e : E)
  | retO (e : E)
  | brk | cont | pass
  | raise (c : Nat)
  | tryS (body : List S) (hs : List (Nat × Option Nat × List S))
  | bad

inductive Fl where
  | next | ret (o : O) | brk | cont

mutual
def tslots : Tgt → List Nat
  | .nm i => [i]
  | .tup ts => tslotss ts
def tslotss : List Tgt → List Nat
  | [] => []
  | t :: ts => tslots t ++ tslotss ts
end
mutual
/-- the slots that statements may set -/
def asgd : S → List Nat
  | .asg t _ => tslots t
  | .asgO i _ => [i]
  | .par is _ _ => is
  | .aug i _ _ => [i]
  | .ifS _ a b => asgds a ++ asgds b
  | .forS t _ b => tslots t ++ asgds b
  | .whileS _ b => asgds b
  | .tryS b hs => asgds b ++ asgdh hs
  | _ => []
def asgds : List S → List Nat
  | [] => []
  | s :: r => asgd s ++ asgds r
def asgdh : List (Nat × Option Nat × List S) → List Nat
  | [] => []
  | (_, none, b) :: r => asgds b ++ asgdh r
  | (_, some i, b) :: r => i :: (asgds b ++ asgdh r)
end

structure FDef where
  np : Nat
  ns : Nat
  body : List S

/-- the text: defs, constants, how errors stand to one another -/
structure Tab where
  fs : List FDef
  cs : List D
  sub : Nat → Nat → Bool
  nx : Nat
  fl : Nat → Nat → List Bool
  gd : List (List (Str × Int))

def big : Nat := 1200000
def bigD : Nat := 4000
def SmD (i : Int) : Prop := i.natAbs < 2 ^ bigD
def Sm (i : Int) : Prop := i.natAbs < 2 ^ big
theorem sm_le {i : Int} {m : Nat} (h : i.natAbs < m) (hm : m ≤ 2 ^ big) : Sm i := Nat.lt_of_lt_of_le h hm
theorem smD_le {i : Int} {m : Nat} (h : i.natAbs < m) (hm : m ≤ 2 ^ bigD) : SmD i := Nat.lt_of_lt_of_le h hm
theorem pow_k {k : Nat} (hk : 60 ≤ k) : 2 ^ 60 ≤ 2 ^ k := Nat.pow_le_pow_right (by decide) hk
theorem small60 {i : Int} (h1 : -1000000000000000 ≤ i) (h2 : i ≤ 1000000000000000) : i.natAbs < 2 ^ 60 := by omega
theorem Sm_of {i : Int} (h1 : -1000000000000000 ≤ i) (h2 : i ≤ 1000000000000000) : Sm i := sm_le (small60 h1 h2) (pow_k (k := big) (by decide))
theorem SmD_of {i : Int} (h1 : -1000000000000000 ≤ i) (h2 : i ≤ 1000000000000000) : SmD i := smD_le (small60 h1 h2) (pow_k (k := bigD) (by decide))
instance (i : Int) : Decidable (SmD i) := if h : i.natAbs < 2 ^ 60 then isTrue (smD_le h (pow_k (k := bigD) (by decide))) else inferInstanceAs (Decidable (_ < _))
instance (i : Int) : Decidable (Sm i) := if h : i.natAbs < 2 ^ 60 then isTrue (sm_le h (pow_k (k := big) (by decide))) else inferInstanceAs (Decidable (_ < _))
def most : Nat := 1000000

def ofO {α : Type} : Option α → Res α
  | some a => .ok a
  | none => .stuck

def atD (xs : List D) (i : Int) : Option D := L2.atI xs i

def ints? : List D → Option (List Int)
  | [] => some []
  | .int i :: r => (ints? r).map (i :: ·)
  | _ :: _ => none
def bools? : List D → Option (List Bool)
  | [] => some []
  | .bool b :: r => (bools? r).map (b :: ·)
  | _ :: _ => none

/-- the items of a list or a tuple -/
def seq? : D → Option (List D)
  | .list xs => some xs
  | .tuple xs => some xs
  | _ => none

def truth : D → Option Bool
  | .none => some false
  | .bool b => some b
  | .int i => some (i != 0)
  | .str s => if s.length ≤ most then some (s.length != 0) else none
  | .list xs => some (!xs.isEmpty)
  | .tuple xs => some (!xs.isEmpty)
  | .dict kvs => some (!kvs.isEmpty)

def isTy (t : Ty) : D → Bool
  | .none => false
  | .bool _ => t == .bool || t == .int
  | .int _ => t == .int
  | .str _ => t == .str
  | .list _ => t == .list
  | .tuple _ => t == .tuple
  | .dict _ => t == .dict

/-- insertion sort -/
def ins (le : D → D → Bool) (x : D) : List D → List D
  | [] => [x]
  | y :: r => if le x y then x :: y :: r else y :: ins le x r
def isort (le : D → D → Bool) : List D → List D
  | [] => []
  | x :: r => ins le x (isort le r)
def leD (x y : D) : Bool := !W.dataLt y x
def isNone : D → Bool
  | .none => true
  | _ => false
def alikeB : List D → Bool
  | [] => true
  | x :: r => r.all (fun y => W.alike x y && W.alike y x) && (W.alike x x && (x.plain && (!isNone x && (decide (x.depth ≤ 20) && alikeB r))))
def sortable : List D → Bool
  | [] => true
  | .tuple (_ :: _) :: r => r.all fun d => match d with | .tuple (_ :: _) => true | _ => false
  | .none :: _ => false
  | .tuple [] :: _ => false
  | _ :: r => r.all fun d => match d with | .tuple _ => false | .none => false | _ => true
def sortD (xs : List D) : Option (List D) := if alikeB xs && sortable xs then some (isort leD xs) else none
def dedup : List D → List D
  | [] => []
  | x :: r => if r.any (fun y => PyData.eqv y x) then dedup r else x :: dedup r
def allInt : List D → Bool
  | [] => true
  | .int _ :: r => allInt r
  | _ :: _ => false

/-- the whole numbers in order, each once -/
def insI (x : Int) : List Int → List Int
  | [] => [x]
  | y :: r => if x < y then x :: y :: r else if x = y then y :: r else y :: insI x r
def sortI : List Int → List Int
  | [] => []
  | x :: r => insI x (sortI r)
theorem mem_insI {x k : Int} : ∀ {l : List Int}, k ∈ insI x l ↔ k = x ∨ k ∈ l
  | [] => by simp [insI]
  | y :: r => by
    unfold insI
    split
    · rw [List.mem_cons]
    · split
      · rename_i h; subst h; rw [List.mem_cons]; constructor
        · exact fun q => .inr q
        · rintro (q | q)
          · exact .inl q
          · exact q
      · rw [List.mem_cons, mem_insI, List.mem_cons]
        constructor
        · rintro (q | q | q)
          · exact .inr (.inl q)
          · exact .inl q
          · exact .inr (.inr q)
        · rintro (q | q | q)
          · exact .inr (.inl q)
          · exact .inl q
          · exact .inr (.inr q)
theorem mem_sortI {k : Int} : ∀ {l : List Int}, k ∈ sortI l ↔ k ∈ l
  | [] => Iff.rfl
  | x :: r => by rw [sortI, mem_insI, mem_sortI, List.mem_cons]
theorem insI_pw {x : Int} : ∀ {l : List Int}, l.Pairwise (· < ·) → (insI x l).Pairwise (· < ·)
  | [], _ => by simp [insI]
  | y :: r, h => by
    obtain ⟨h1, h2⟩ := List.pairwise_cons.mp h
    unfold insI
    split
    · rename_i hx
      exact List.pairwise_cons.mpr ⟨fun z hz => by
        rcases List.mem_cons.mp hz with q | q
        · omega
        · have := h1 z q; omega, h⟩
    · split
      · exact h
      · exact List.pairwise_cons.mpr ⟨fun z hz => by
          rcases mem_insI.mp hz with q | q
          · omega
          · exact h1 z q, insI_pw h2⟩
theorem sortI_pw : ∀ {l : List Int}, (sortI l).Pairwise (· < ·)
  | [] => .nil
  | x :: r => insI_pw sortI_pw
theorem pw_uniq : ∀ {a b : List Int}, a.Pairwise (· < ·) → b.Pairwise (· < ·) → (∀ k, k ∈ a ↔ k ∈ b) → a = b
  | [], [], _, _, _ => rfl
  | [], y :: r, _, _, h => absurd ((h y).mpr List.mem_cons_self) (by simp)
  | x :: r, [], _, _, h => absurd ((h x).mp List.mem_cons_self) (by simp)
  | x :: r, y :: t, ha, hb, h => by
    obtain ⟨a1, a2⟩ := List.pairwise_cons.mp ha
    obtain ⟨b1, b2⟩ := List.pairwise_cons.mp hb
    have e : x = y := by
      rcases List.mem_cons.mp ((h x).mp List.mem_cons_self) with q | q
      · exact q
      · rcases List.mem_cons.mp ((h y).mpr List.mem_cons_self) with p | p
        · exact p.symm
        · have := b1 x q; have := a1 y p; omega
    subst e
    rw [pw_uniq a2 b2 fun k => ⟨fun q => by
      rcases List.mem_cons.mp ((h k).mp (List.mem_cons_of_mem _ q)) with p | p
      · have := a1 k q; omega
      · exact p, fun q => by
      rcases List.mem_cons.mp ((h k).mpr (List.mem_cons_of_mem _ q)) with p | p
      · have := b1 k q; omega
      · exact p⟩]
theorem sortI_eq {a l : List Int} (h : a.Pairwise (· < ·)) (m : ∀ k, k ∈ a ↔ k ∈ l) : a = sortI l := pw_uniq h sortI_pw fun k => (m k).trans mem_sortI.symm

def rangeD (lo hi : Int) : List D := (List.range (hi - lo).toNat).map fun (k : Nat) => .int (lo + (k : Int))
/-- how many i, i + c, .. lie below j -/
def stepN (i j c : Int) : Nat := if i < j then ((j - i - 1) / c + 1).toNat else 0
def rangeS (i j c : Int) : List D := (List.range (stepN i j c)).map fun (k : Nat) => .int (i + (k : Int) * c)
def okRange (i : Int) : Bool := decide (-4611686018427387904 ≤ i) && decide (i < 4611686018427387904)

/-- what repr may be asked of -/
def reprOk (d : D) : Bool := (match d with | .list _ => true | .tuple _ => true | _ => false) && (d.plain && (d.showable && (!d.hasDict && (decide (d.depth ≤ 50) && decide (d.shown.length ≤ 1000000)))))
def ev1 (o : Op1) (d : D) : Option O :=
  match o with
  | .len => (match d with
    | .list xs => some (.val (.int xs.length))
    | .tuple xs => some (.val (.int xs.length))
    | .str s => if s.length ≤ most then some (.val (.int s.length)) else none
    | .dict kvs => some (.val (.int kvs.length))
    | _ => none)
  | .all => (match d with | .list xs => (bools? xs).map fun bs => .val (.bool (bs.all id)) | _ => none)
  | .any => (match d with | .list xs => (bools? xs).map fun bs => .val (.bool (bs.any id)) | _ => none)
  | .sum => (match seq? d with | some xs => (ints? xs).map fun is => .val (.int is.sum) | _ => none)
  | .abs => (match d with | .int i => some (.val (.int (if i < 0 then -i else i))) | _ => none)
  | .int => (match d with | .int i => some (.val (.int i)) | .bool b => some (.val (.int (if b then 1 else 0))) | _ => none)
  | .str => none
  | .list => (match seq? d with | some xs => some (.lst (xs.map .val)) | none => none)
  | .tuple => (match seq? d with | some xs => some (.val (.tuple xs)) | none => none)
  | .sorted => (match d with | .list xs => (sortD xs).map fun ys => .lst (ys.map .val) | _ => none)
  | .min => (match d with
    | .list (x :: xs) => if alikeB (x :: xs) then some (.val (W.minD x xs)) else none
    | _ => none)
  | .max => (match d with
    | .list (x :: xs) => if alikeB (x :: xs) then some (.val (W.maxD x xs)) else none
    | _ => none)
  | .listRev => (match d with | .list xs => some (.lst (xs.reverse.map .val)) | _ => none)
  | .sortedSet => (match seq? d with | some xs => (ints? xs).bind fun ns => if ns.length < 64 then some (.lst ((sortI ns).map fun i => .val (.int i))) else none | none => none)
  | .lenSet => none
  | .isT t => some (.val (.bool (isTy t d)))
  | .rev => (match d with | .list xs => some (.lst (xs.reverse.map .val)) | .tuple xs => some (.val (.tuple xs.reverse)) | _ => none)
  | .neg => (match d with | .int i => some (.val (.int (-i))) | _ => none)
  | .values => none
  | .listRange => (match d with | .int j => if okRange j && decide (j ≤ most) then some (.lst ((rangeD 0 j).map .val)) else none | _ => none)
  | .sumRange => (match d with | .int j => if okRange j && decide (j ≤ most) then some (.val (.int ((List.range j.toNat).map (fun (k : Nat) => (k : Int))).sum)) else none | _ => none)
  | .repr => if reprOk d then some (.val (.str d.shown)) else none

def cmpI (o : Op2) (i j : Int) : Option Bool :=
  match o with
  | .lt => some (decide (i < j))
  | .le => some (decide (i ≤ j))
  | .gt => some (decide (j < i))
  | .ge => some (decide (j ≤ i))
  | _ => none

/-- a frozen dict's value at a text -/
def lookD : List (D × D) → Str → Option D
  | [], _ => none
  | (.str k, d) :: r, z => if k = z then some d else lookD r z
  | _ :: r, z => lookD r z
/-- what may be put in order -/
def ltOk (d e : D) : Bool := d.plain && (e.plain && (W.alike d e && (!isNone d && decide (d.depth ≤ 20))))
def ev2 (o : Op2) (d e : D) : Option O :=
  match o with
  | .add => (match d, e with
    | .int i, .int j => some (.val (.int (i + j)))
    | .list xs, .list ys => if xs.length + ys.length ≤ most then some (.lst ((xs ++ ys).map .val)) else none
    | .tuple xs, .tuple ys => if xs.length + ys.length ≤ most then some (.val (.tuple (xs ++ ys))) else none
    | _, _ => none)
  | .sub => (match d, e with | .int i, .int j => some (.val (.int (i - j))) | _, _ => none)
  | .mul => (match d, e with
    | .int i, .int j => if Sm i ∧ Sm j then some (.val (.int (i * j))) else none
    | .list xs, .int j => if (-1000000 ≤ j ∧ j ≤ 1000000) ∧ xs.length * j.toNat ≤ most then some (.lst (((List.replicate j.toNat xs).flatten).map .val)) else none
    | _, _ => none)
  | .fdiv => (match d, e with | .int i, .int j => if 0 < j ∧ SmD j then some (.val (.int (i / j))) else none | _, _ => none)
  | .mod => (match d, e with | .int i, .int j => if 0 < j then some (.val (.int (i % j))) else none | _, _ => none)
  | .pow => (match d, e with | .int i, .int j => if 0 ≤ j ∧ j ≤ 1000 ∧ i.natAbs < 1000 then some (.val (.int (i ^ j.toNat))) else none | _, _ => none)
  | .eq => if d.plain && e.plain && decide (d.depth ≤ 20) then some (.val (.bool (PyData.eqv d e))) else none
  | .ne => if d.plain && e.plain && decide (d.depth ≤ 20) then some (.val (.bool (!PyData.eqv d e))) else none
  | .lt => (match d, e with | .int i, .int j => some (.val (.bool (decide (i < j)))) | d, e => if ltOk d e then some (.val (.bool (W.dataLt d e))) else none)
  | .le => (match d, e with | .int i, .int j => some (.val (.bool (decide (i ≤ j)))) | d, e => if ltOk d e then some (.val (.bool (!W.dataLt e d))) else none)
  | .gt => (match d, e with | .int i, .int j => some (.val (.bool (decide (j < i)))) | d, e => if ltOk d e then some (.val (.bool (W.dataLt e d))) else none)
  | .ge => (match d, e with | .int i, .int j => some (.val (.bool (decide (j ≤ i)))) | d, e => if ltOk d e then some (.val (.bool (!W.dataLt d e))) else none)
  | .inn => (match seq? e with
    | some xs => if PyData.plainAll xs && d.plain && decide (d.depth ≤ 20) then some (.val (.bool (xs.any fun y => PyData.eqv y d))) else none
    | none => none)
  | .nin => (match seq? e with
    | some xs => if PyData.plainAll xs && d.plain && decide (d.depth ≤ 20) then some (.val (.bool (!xs.any fun y => PyData.eqv y d))) else none
    | none => none)
  | .is => (match d, e with
    | .bool b, .bool c => some (.val (.bool (b == c)))
    | .none, .bool _ => some (.val (.bool false))
    | d, .none => some (.val (.bool (isNone d)))
    | _, _ => none)
  | .isnt => (match d, e with
    | .bool b, .bool c => some (.val (.bool (!(b == c))))
    | .none, .bool _ => some (.val (.bool true))
    | d, .none => some (.val (.bool (!isNone d)))
    | _, _ => none)
  | .idx => (match d, e with
    | .list xs, .int i => (atD xs i).map .val
    | .tuple xs, .int i => (atD xs i).map .val
    | _, _ => none)
  | .min2 => (match d, e with | .int i, .int j => some (.val (.int (if j < i then j else i))) | _, _ => none)
  | .max2 => (match d, e with | .int i, .int j => some (.val (.int (if j > i then j else i))) | _, _ => none)
  | .index => none
  | .listRange2 => (match d, e with
    | .int i, .int j => if okRange i && okRange j && decide (j - i ≤ most) then some (.lst ((rangeD i j).map .val)) else none
    | _, _ => none)
  | .listRange3 c => (match d, e with
    | .int i, .int j => if okRange i && okRange j && decide (0 < c) && decide (c ≤ most) && decide (j - i ≤ most) then some (.lst ((rangeS i j c).map .val)) else none
    | _, _ => none)
  | .listZip => (match seq? d, seq? e with
    | some xs, some ys => some (.lst (List.zipWith (fun x y => .val (.tuple [x, y])) xs ys))
    | _, _ => none)
  | .inD => (match d, e with | .str z, .dict kvs => some (.val (.bool (lookD kvs z).isSome)) | _, _ => none)
  | .ninD => (match d, e with | .str z, .dict kvs => some (.val (.bool (!(lookD kvs z).isSome))) | _, _ => none)
  | .idxD => (match d, e with | .dict kvs, .str z => (lookD kvs z).map .val | _, _ => none)

/-- a part of a list -/
def cutD (xs : List D) (lo hi : Option Int) : List D :=
  (xs.drop (_root_.HT.sIx xs.length 0 lo)).take (_root_.HT.sIx xs.length xs.length hi - _root_.HT.sIx xs.length 0 lo)

def slice1 (d : D) (lo hi : Option Int) : Option O :=
  match d with
  | .list xs => some (.lst ((cutD xs lo hi).map .val))
  | .tuple xs => some (.val (.tuple (cutD xs lo hi)))
  | _ => none

def setO (env : Env) (i : Nat) (o : O) : Env := env.set i (some o)

mutual
def assignT : Tgt → D → Env → Option Env
  | .nm i, d, env => if i < env.length then some (setO env i (.val d)) else none
  | .tup ts, d, env => match d with
    | .tuple ds => assignTs ts ds env
    | .list ds => assignTs ts ds env
    | _ => none
def assignTs : List Tgt → List D → Env → Option Env
  | [], [], env => some env
  | t :: ts, d :: ds, env => match assignT t d env with
    | some env' => assignTs ts ds env'
    | none => none
  | _, _, _ => none
end
def wipeE (env : Env) : List Nat → Env
  | [] => env
  | v :: vs => (wipeE env vs).set v none
/-- the slots at vs as they were in env0 -/
def backE (env0 env : Env) : List Nat → Env
  | [] => env
  | v :: vs => (backE env0 env vs).set v (env0[v]?).join
def plainAt (env : Env) (v : Nat) : Bool := match (env[v]?).join with
  | none => true
  | some (.val _) => true
  | _ => false

section
variable (T : Tab) (ev : E → Env → Res (O × Env)) (exs : List S → Env → Res (Fl × Env))

/-- a value that is told, frozen -/
def evD (e : E) (env : Env) : Res (D × Env) := (ev e env).bind fun p => if p.1.tree then .ok (p.1.toD, p.2) else .stuck

def evDs : List E → Env → Res (List D × Env)
  | [], env => .ok ([], env)
  | .star e :: r, env => (evD ev e env).bind fun p => match seq? p.1 with
    | some xs => (evDs r p.2).bind fun q => .ok (xs ++ q.1, q.2)
    | none => .stuck
  | e :: r, env => (evD ev e env).bind fun p => (evDs r p.2).bind fun q => .ok (p.1 :: q.1, q.2)

/-- arguments: those that are lent stay where they are -/
def evArgs : List E → Env → Res (List (Option Nat × D) × Env)
  | [], env => .ok ([], env)
  | .lend i :: r, env => match (env[i]?).join with
    | some _ => (evArgs r env).bind fun q => .ok ((some i, .none) :: q.1, q.2)
    | none => .stuck
  | e :: r, env => (evD ev e env).bind fun p => (evArgs r p.2).bind fun q => .ok ((none, p.1) :: q.1, q.2)
def argO (env : Env) : Option Nat × D → Option O
  | (some i, _) => (env[i]?).join
  | (none, d) => some (.val d)
def argOs (env : Env) : List (Option Nat × D) → Option (List O)
  | [] => some []
  | a :: r => match argO env a, argOs env r with
    | some o, some os => some (o :: os)
    | _, _ => none
/-- what was lent comes back -/
def backs (env : Env) : List (Option Nat × D) → List (Option O) → Env
  | (some i, _) :: r, o :: os => backs (env.set i o) r os
  | (none, _) :: r, _ :: os => backs env r os
  | _, _ => env
def lent : List (Option Nat × D) → List Nat
  | [] => []
  | (some i, _) :: r => i :: lent r
  | (none, _) :: r => lent r

def callF (f : Nat) (os : List O) : Res (O × Env) :=
  match T.fs[f]? with
  | none => .stuck
  | some d => if os.length = d.np then
      (exs d.body (os.map some ++ List.replicate (d.ns - d.np) none)).bind fun p => match p.1 with
        | .next => .ok (.val .none, wipeE (p.2.take d.np) (asgds d.body))
        | .ret o => .ok (o, wipeE (p.2.take d.np) (asgds d.body))
        | _ => .stuck
    else .stuck

/-- no def sets a parameter that was lent to it -/
def lentOk (f : Nat) (as : List (Option Nat × D)) : Bool := match T.fs[f]? with
  | none => false
  | some d => (List.range as.length).all fun j => match as[j]? with
    | some (some _, _) => decide (j ∉ asgds d.body)
    | _ => true
def callA (f : Nat) (as : List (Option Nat × D)) (env : Env) : Res (O × Env) :=
  if (lent as).Nodup ∧ lentOk T f as = true then match argOs env as with
    | none => .stuck
    | some os => (callF T exs f os).bind fun p => .ok (p.1, backs env as p.2)
  else .stuck

def truthE (e : E) (env : Env) : Res (Bool × Env) := (evD ev e env).bind fun p => match truth p.1 with
  | some b => .ok (b, p.2)
  | none => .stuck

/-- the items that are walked, one behind the other -/
def items (it : I) (env : Env) : Res (List D × Env) :=
  match it with
  | .seq e => (evD ev e env).bind fun p => match p.1 with
    | .list xs => .ok (xs, p.2)
    | .tuple xs => .ok (xs, p.2)
    | _ => .stuck
  | .scr i => match (env[i]?).join with
    | some (.scr is) => .ok (is.map .int, env)
    | _ => .stuck
  | .range e => (evD ev e env).bind fun p => match p.1 with
    | .int j => if okRange j && decide (j ≤ most) then .ok (rangeD 0 j, p.2) else .stuck
    | _ => .stuck
  | .range2 a b => (evD ev a env).bind fun p => (evD ev b p.2).bind fun q => match p.1, q.1 with
    | .int i, .int j => if okRange i && okRange j && decide (j - i ≤ most) then .ok (rangeD i j, q.2) else .stuck
    | _, _ => .stuck
  | .range3 a b c => (evD ev a env).bind fun p => (evD ev b p.2).bind fun q => match p.1, q.1 with
    | .int i, .int j => if okRange i && okRange j && decide (0 < c) && decide (c ≤ most) && decide (j - i ≤ most) then .ok (rangeS i j c, q.2) else .stuck
    | _, _ => .stuck
  | .rangeE a b c => (evD ev a env).bind fun p => (evD ev b p.2).bind fun q => (evD ev c q.2).bind fun r => match p.1, q.1, r.1 with
    | .int i, .int j, .int k => if okRange i && okRange j && decide (0 < k) && decide (k ≤ most) && decide (j - i ≤ most) then .ok (rangeS i j k, r.2) else .stuck
    | _, _, _ => .stuck
  | .zip a b => (evD ev a env).bind fun p => (evD ev b p.2).bind fun q => match p.1, q.1 with
    | .list xs, .list ys => .ok (List.zipWith (fun x y => .tuple [x, y]) xs ys, q.2)
    | .tuple xs, .tuple ys => .ok (List.zipWith (fun x y => .tuple [x, y]) xs ys, q.2)
    | _, _ => .stuck
  | .enum e => (evD ev e env).bind fun p => match p.1 with
    | .list xs => .ok (xs.mapIdx fun i x => .tuple [.int i, x], p.2)
    | _ => .stuck
  | .items e => (evD ev e env).bind fun p => match p.1 with
    | .dict kvs => .ok (kvs.map fun q => .tuple [q.1, q.2], p.2)
    | _ => .stuck
  | .values e => (evD ev e env).bind fun p => match p.1 with
    | .dict kvs => .ok (kvs.map (·.2), p.2)
    | _ => .stuck

/-- a comprehension's turns: acc so far -/
def turns (elt : E) (t : Tgt) (c : Option E) (own : List Nat) : List D → Env → Res (List O × Env)
  | [], env => .ok ([], env)
  | d :: ds, env => match assignT t d (wipeE env own) with
    | none => .stuck
    | some env1 => (match c with
        | none => Res.ok (true, env1)
        | some c => truthE ev c env1).bind fun p =>
      if p.1 then (evD ev elt p.2).bind fun q => (turns elt t c own ds q.2).bind fun r => .ok (.val q.1 :: r.1, r.2)
      else turns elt t c own ds p.2

def optI (e : Option E) (env : Env) : Res (Option Int × Env) :=
  match e with
  | none => .ok (none, env)
  | some e => (evD ev e env).bind fun p => match p.1 with
    | .int i => .ok (some i, p.2)
    | _ => .stuck

/-- the slots' own things as if they were frozen -/
def frozen (env : Env) : Env := env.map fun o => match o with
  | some o => if o.tree then some (.val o.toD) else none
  | none => none
/-- what may be told of things that may change later -/
def looses : List O → Bool
  | [] => true
  | .val d :: r => flat d && looses r
  | _ :: _ => false
def loose : O → Bool
  | .val d => flat d
  | .lst xs => looses xs
  | _ => false

def stepE : E → Env → Res (O × Env)
  | .none, env => .ok (.val .none, env)
  | .bl b, env => .ok (.val (.bool b), env)
  | .int i, env => .ok (.val (.int i), env)
  | .str s, env => .ok (.val (.str s), env)
  | .var i, env => match (env[i]?).join with
    | some (.val d) => .ok (.val d, env)
    | some (.exc c) => .ok (.exc c, env)
    | _ => .stuck
  | .glb i, env => match T.cs[i]? with
    | some d => .ok (.val d, env)
    | none => .stuck
  | .tup es, env => (evDs ev es env).bind fun p => if p.1.length ≤ most then .ok (.val (.tuple p.1), p.2) else .stuck
  | .lst es, env => (evDs ev es env).bind fun p => if p.1.length ≤ most then .ok (.lst (p.1.map .val), p.2) else .stuck
  | .op1 o a, env => (evD ev a env).bind fun p => match ev1 o p.1 with
    | some r => .ok (r, p.2)
    | none => .stuck
  | .op2 o a b, env => (evD ev a env).bind fun p => (evD ev b p.2).bind fun q => match ev2 o p.1 q.1 with
    | some r => .ok (r, q.2)
    | none => .stuck
  | .not a, env => (truthE ev a env).bind fun p => .ok (.val (.bool (!p.1)), p.2)
  | .and a b, env => (evD ev a env).bind fun p => match p.1 with
    | .bool true => ev b p.2
    | .bool false => .ok (.val (.bool false), p.2)
    | _ => .stuck
  | .or a b, env => (evD ev a env).bind fun p => match p.1 with
    | .bool true => .ok (.val (.bool true), p.2)
    | .bool false => ev b p.2
    | _ => .stuck
  | .ite c a b, env => (truthE ev c env).bind fun p => if p.1 then ev a p.2 else ev b p.2
  | .chain o1 o2 a b c, env => (evD ev a env).bind fun p => (evD ev b p.2).bind fun q => match ev2 o1 p.1 q.1 with
    | some (.val (.bool true)) => (evD ev c q.2).bind fun r => match ev2 o2 q.1 r.1 with
      | some o => .ok (o, r.2)
      | none => .stuck
    | some (.val (.bool false)) => .ok (.val (.bool false), q.2)
    | _ => .stuck
  | .slice a lo hi, env => (evD ev a env).bind fun p => (optI ev lo p.2).bind fun q => (optI ev hi q.2).bind fun r => match slice1 p.1 q.1 r.1 with
    | some o => .ok (o, r.2)
    | none => .stuck
  | .rng3 t a b c, env => (evD ev a env).bind fun p => (evD ev b p.2).bind fun q => (evD ev c q.2).bind fun r => match p.1, q.1, r.1 with
    | .int i, .int j, .int k => if okRange i && okRange j && decide (0 < k) && decide (k ≤ most) && decide (j - i ≤ most) then .ok (if t then .val (.tuple (rangeS i j k)) else .lst ((rangeS i j k).map .val), r.2) else .stuck
    | _, _, _ => .stuck
  | .call f args, env => (evArgs ev args env).bind fun p => callA T exs f p.1 p.2
  | .callS f e, env => (evD ev e env).bind fun p => match seq? p.1 with
    | some ds => callA T exs f (ds.map fun d => (none, d)) p.2
    | none => .stuck
  | .sel fs ix args, env => (evD ev ix env).bind fun p => match p.1 with
    | .int i => if 0 ≤ i then match fs[i.toNat]? with
        | some f => (evArgs ev args p.2).bind fun q => callA T exs f q.1 q.2
        | none => .stuck
      else .stuck
    | _ => .stuck
  | .pop i, env => match (env[i]?).join with
    | some (.lst xs) => match xs.getLast? with
      | some (.val d) => .ok (.val d, setO env i (.lst xs.dropLast))
      | _ => .stuck
    | _ => .stuck
  | .lenScr i, env => match (env[i]?).join with
    | some (.scr is) => .ok (.val (.int is.length), env)
    | _ => .stuck
  | .ixScr i e, env => match (env[i]?).join with
    | some (.scr is) => (evD ev e env).bind fun p => match p.1 with
      | .int j => match L2.atI is j with
        | some k => .ok (.val (.int k), p.2)
        | none => .stuck
      | _ => .stuck
    | _ => .stuck
  | .move i, env => match (env[i]?).join with
    | some o => .ok (o, env.set i none)
    | none => .stuck
  | .snap e, env => (ev e (frozen env)).bind fun p => if loose p.1 then .ok (p.1, env) else .stuck
  | .comp elt t it c, env => (items ev it env).bind fun p => if p.1.length ≤ most ∧ (tslots t).all (plainAt p.2) = true then
      (noErr (turns ev elt t c (tslots t) p.1 p.2)).bind fun q => .ok (.lst q.1, backE p.2 q.2 (tslots t)) else .stuck
  | .sortedKeys elt t it c, env => (items ev it env).bind fun p => if p.1.length ≤ most ∧ (tslots t).all (plainAt p.2) = true then
      (noErr (turns ev elt t c (tslots t) p.1 p.2)).bind fun q => match ints? (O.toDs q.1) with
        | some ns => .ok (.lst ((sortI ns).map fun i => .val (.int i)), backE p.2 q.2 (tslots t))
        | none => .stuck
      else .stuck
  | .inG neg g e, env => (evD ev e env).bind fun p => match p.1, T.gd[g]? with
    | .str z, some t => .ok (.val (.bool (if neg then !(t.lookup z).isSome else (t.lookup z).isSome)), p.2)
    | _, _ => .stuck
  | .ixG g e, env => (evD ev e env).bind fun p => match p.1, T.gd[g]? with
    | .str z, some t => (match t.lookup z with | some i => .ok (.val (.int i), p.2) | none => .stuck)
    | _, _ => .stuck
  | .cdct kvs, env => .ok (.val (.dict (kvs.map fun p => (.str p.1, .int p.2))), env)
  | _, _ => .stuck

/-- the turns of a for -/
def loopF (body : Env → Res (Fl × Env)) (t : Tgt) : List D → Env → Res (Fl × Env)
  | [], env => .ok (.next, env)
  | d :: ds, env => match assignT t d env with
    | none => .stuck
    | some env1 => (body env1).bind fun p => match p.1 with
      | .next => loopF body t ds p.2
      | .cont => loopF body t ds p.2
      | .brk => .ok (.next, p.2)
      | .ret o => .ok (.ret o, p.2)
def loopW (c : Env → Res (Bool × Env)) (body : Env → Res (Fl × Env)) : Nat → Env → Res (Fl × Env)
  | 0, _ => .stuck
  | k + 1, env => (c env).bind fun p => if p.1 then (body p.2).bind fun q => match q.1 with
      | .next => loopW c body k q.2
      | .cont => loopW c body k q.2
      | .brk => .ok (.next, q.2)
      | .ret o => .ok (.ret o, q.2)
    else .ok (.next, p.2)

def allVal : List O → Bool
  | [] => true
  | .val _ :: r => allVal r
  | _ :: _ => false
def parAsg : List Nat → List O → Env → Option Env
  | [], [], env => some env
  | i :: is, o :: os, env => if i < env.length then parAsg is os (setO env i o) else none
  | _, _, _ => none
def evOs : List Bool → List E → Env → Res (List O × Env)
  | _, [], env => .ok ([], env)
  | [], _ :: _, _ => .stuck
  | b :: bs, e :: r, env => (if b then ev e env else (evD ev e env).bind fun p => .ok (.val p.1, p.2)).bind fun p => (evOs bs r p.2).bind fun q => .ok (p.1 :: q.1, q.2)
def freezeAt (env : Env) : List Nat → Env
  | [] => env
  | i :: is => match ((freezeAt env is)[i]?).join with
    | some o => if o.tree then setO (freezeAt env is) i (.val o.toD) else freezeAt env is
    | none => freezeAt env is

def augF : Op2 → Int → Int → Option Int
  | .add, k, j => some (k + j)
  | .sub, k, j => some (k - j)
  | _, _, _ => none
def ownFree (env : Env) : Env := env.map fun o => match o with
  | some (.val d) => some (.val d)
  | _ => none

/-- a value that needs nobody -/
def atomE : E → Option D
  | .none => some .none
  | .bl b => some (.bool b)
  | .int i => some (.int i)
  | .str s => some (.str s)
  | _ => none
def atomsE : List E → Option (List D)
  | [] => some []
  | e :: r => match atomE e, atomsE r with
    | some d, some ds => some (d :: ds)
    | _, _ => none
def cstE : E → Option D
  | .tup es => (atomsE es).map .tuple
  | e => atomE e
/-- the clauses, one behind the other -/
def handle (c : Nat) (env : Env) : List (Nat × Option Nat × List S) → Res (Fl × Env)
  | [] => .err c
  | (k, none, [.ret e]) :: r => if c < T.nx ∧ k < T.nx then
      if T.sub c k then match cstE e with
        | some d => .ok (.ret (.val d), ownFree env)
        | none => .stuck
      else handle c env r
    else .stuck
  | (k, some i, [.ret (.flg g j)]) :: r => if (c < T.nx ∧ k < T.nx) ∧ i = j then
      if T.sub c k then .ok (.ret (.val (.list ((T.fl g c).map .bool))), ownFree env)
      else handle c env r
    else .stuck
  | _ :: _ => .stuck

def one : S → Env → Res (Fl × Env)
  | .asg t e, env => (evD ev e env).bind fun p => match assignT t p.1 p.2 with
    | some env' => .ok (.next, env')
    | none => .stuck
  | .asgO i e, env => (ev e env).bind fun p => if i < p.2.length then .ok (.next, setO p.2 i p.1) else .stuck
  | .frz is, env => .ok (.next, freezeAt env is)
  | .par is own es, env => (evOs ev own es env).bind fun p => match parAsg is p.1 p.2 with
    | some env' => .ok (.next, env')
    | none => .stuck
  | .setIx i ix e, env => (evD ev e env).bind fun p => match (p.2[i]?).join with
    | some _ => (evD ev ix p.2).bind fun q => match (q.2[i]?).join, q.1 with
      | some (.lst xs), .int k => if 0 ≤ k ∧ k < xs.length ∧ allVal xs = true then .ok (.next, setO q.2 i (.lst (xs.set k.toNat (.val p.1)))) else .stuck
      | _, _ => .stuck
    | none => .stuck
  | .aug i o e, env => match (env[i]?).join with
    | some (.val (.int k)) => (evD ev e env).bind fun z => match z.1 with
      | .int j => match augF o k j with
        | some r => .ok (.next, setO z.2 i (.val (.int r)))
        | none => .stuck
      | _ => .stuck
    | _ => .stuck
  | .app i e, env => match (env[i]?).join with
    | some (.lst _) => (evD ev e env).bind fun p => match (p.2[i]?).join with
      | some (.lst xs) => if xs.length < most then .ok (.next, setO p.2 i (.lst (xs ++ [.val p.1]))) else .stuck
      | _ => .stuck
    | _ => .stuck
  | .expr e, env => (ev e env).bind fun p => .ok (.next, p.2)
  | .ifS c a b, env => (truthE ev c env).bind fun p => if p.1 then exs a p.2 else exs b p.2
  | .forS t it body, env => (items ev it env).bind fun p => loopF (exs body) t p.1 p.2
  | .whileS c body, env => loopW (truthE ev c) (exs body) 100000 env
  | .ret e, env => (evD ev e env).bind fun p => .ok (.ret (.val p.1), p.2)
  | .retO e, env => (ev e env).bind fun p => .ok (.ret p.1, p.2)
  | .brk, env => .ok (.brk, env)
  | .cont, env => .ok (.cont, env)
  | .pass, env => .ok (.next, env)
  | .raise c, _ => if c < T.nx then .err c else .stuck
  | .tryS body hs, env => if asgds body = [] then match exs body env with
    | .ok p => .ok p
    | .stuck => .stuck
    | .err c => handle T c env hs
    else .stuck
  | .bad, _ => .stuck
end

section
variable (T : Tab) (ev : E → Env → Res (O × Env)) (exs : List S → Env → Res (Fl × Env)) (env : Env)
theorem stepE_none  : stepE T ev exs (.none) env = (.ok (.val .none, env)) := rfl
theorem stepE_bl (b : Bool) : stepE T ev exs (.bl b) env = (.ok (.val (.bool b), env)) := rfl
theorem stepE_int (i : Int) : stepE T ev exs (.int i) env = (.ok (.val (.int i), env)) := rfl
theorem stepE_str (s : Str) : stepE T ev exs (.str s) env = (.ok (.val (.str s), env)) := rfl
theorem stepE_var (i : Nat) : stepE T ev exs (.var i) env = (match (env[i]?).join with
    | some (.val d) => .ok (.val d, env)
    | some (.exc c) => .ok (.exc c, env)
    | _ => .stuck) := rfl
theorem stepE_glb (i : Nat) : stepE T ev exs (.glb i) env = (match T.cs[i]? with
    | some d => .ok (.val d, env)
    | none => .stuck) := rfl
theorem stepE_tup (es : List E) : stepE T ev exs (.tup es) env = ((evDs ev es env).bind fun p => if p.1.length ≤ most then .ok (.val (.tuple p.1), p.2) else .stuck) := rfl
theorem stepE_lst (es : List E) : stepE T ev exs (.lst es) env = ((evDs ev es env).bind fun p => if p.1.length ≤ most then .ok (.lst (p.1.map .val), p.2) else .stuck) := rfl
theorem stepE_op1 (o : Op1) (a : E) : stepE T ev exs (.op1 o a) env = ((evD ev a env).bind fun p => match ev1 o p.1 with
    | some r => .ok (r, p.2)
    | none => .stuck) := rfl
theorem stepE_op2 (o : Op2) (a b : E) : stepE T ev exs (.op2 o a b) env = ((evD ev a env).bind fun p => (evD ev b p.2).bind fun q => match ev2 o p.1 q.1 with
    | some r => .ok (r, q.2)
    | none => .stuck) := rfl
theorem stepE_not (a : E) : stepE T ev exs (.not a) env = ((truthE ev a env).bind fun p => .ok (.val (.bool (!p.1)), p.2)) := rfl
theorem stepE_and (a b : E) : stepE T ev exs (.and a b) env = ((evD ev a env).bind fun p => match p.1 with
    | .bool true => ev b p.2
    | .bool false => .ok (.val (.bool false), p.2)
    | _ => .stuck) := rfl
theorem stepE_or (a b : E) : stepE T ev exs (.or a b) env = ((evD ev a env).bind fun p => match p.1 with
    | .bool true => .ok (.val (.bool true), p.2)
    | .bool false => ev b p.2
    | _ => .stuck) := rfl
theorem stepE_ite (c a b : E) : stepE T ev exs (.ite c a b) env = ((truthE ev c env).bind fun p => if p.1 then ev a p.2 else ev b p.2) := rfl
theorem stepE_chain (o1 o2 : Op2) (a b c : E) : stepE T ev exs (.chain o1 o2 a b c) env = ((evD ev a env).bind fun p => (evD ev b p.2).bind fun q => match ev2 o1 p.1 q.1 with
    | some (.val (.bool true)) => (evD ev c q.2).bind fun r => match ev2 o2 q.1 r.1 with
      | some o => .ok (o, r.2)
      | none => .stuck
    | some (.val (.bool false)) => .ok (.val (.bool false), q.2)
    | _ => .stuck) := rfl
theorem stepE_slice (a : E) (lo hi : Option E) : stepE T ev exs (.slice a lo hi) env = ((evD ev a env).bind fun p => (optI ev lo p.2).bind fun q => (optI ev hi q.2).bind fun r => match slice1 p.1 q.1 r.1 with
    | some o => .ok (o, r.2)
    | none => .stuck) := rfl
theorem stepE_rng3 (t : Bool) (a b c : E) : stepE T ev exs (.rng3 t a b c) env = ((evD ev a env).bind fun p => (evD ev b p.2).bind fun q => (evD ev c q.2).bind fun r => match p.1, q.1, r.1 with
    | .int i, .int j, .int k => if okRange i && okRange j && decide (0 < k) && decide (k ≤ most) && decide (j - i ≤ most) then .ok (if t then .val (.tuple (rangeS i j k)) else .lst ((rangeS i j k).map .val), r.2) else .stuck
    | _, _, _ => .stuck) := rfl
theorem stepE_callS (f : Nat) (e : E) : stepE T ev exs (.callS f e) env = ((evD ev e env).bind fun p => match seq? p.1 with
    | some ds => callA T exs f (ds.map fun d => (none, d)) p.2
    | none => .stuck) := rfl
theorem stepE_call (f : Nat) (args : List E) : stepE T ev exs (.call f args) env = ((evArgs ev args env).bind fun p => callA T exs f p.1 p.2) := rfl
theorem stepE_sel (fs : List Nat) (ix : E) (args : List E) : stepE T ev exs (.sel fs ix args) env = ((evD ev ix env).bind fun p => match p.1 with
    | .int i => if 0 ≤ i then match fs[i.toNat]? with
        | some f => (evArgs ev args p.2).bind fun q => callA T exs f q.1 q.2
        | none => .stuck
      else .stuck
    | _ => .stuck) := rfl
theorem stepE_pop (i : Nat) : stepE T ev exs (.pop i) env = (match (env[i]?).join with
    | some (.lst xs) => match xs.getLast? with
      | some (.val d) => .ok (.val d, setO env i (.lst xs.dropLast))
      | _ => .stuck
    | _ => .stuck) := rfl
theorem stepE_lenScr (i : Nat) : stepE T ev exs (.lenScr i) env = (match (env[i]?).join with
    | some (.scr is) => .ok (.val (.int is.length), env)
    | _ => .stuck) := rfl
theorem stepE_ixScr (i : Nat) (e : E) : stepE T ev exs (.ixScr i e) env = (match (env[i]?).join with
    | some (.scr is) => (evD ev e env).bind fun p => match p.1 with
      | .int j => match L2.atI is j with
        | some k => .ok (.val (.int k), p.2)
        | none => .stuck
      | _ => .stuck
    | _ => .stuck) := rfl
theorem stepE_move (i : Nat) : stepE T ev exs (.move i) env = (match (env[i]?).join with
    | some o => .ok (o, env.set i none)
    | none => .stuck) := rfl
theorem stepE_inG (neg : Bool) (g : Nat) (e : E) : stepE T ev exs (.inG neg g e) env = ((evD ev e env).bind fun p => match p.1, T.gd[g]? with
    | .str z, some t => .ok (.val (.bool (if neg then !(t.lookup z).isSome else (t.lookup z).isSome)), p.2)
    | _, _ => .stuck) := rfl
theorem stepE_ixG (g : Nat) (e : E) : stepE T ev exs (.ixG g e) env = ((evD ev e env).bind fun p => match p.1, T.gd[g]? with
    | .str z, some t => (match t.lookup z with | some i => .ok (.val (.int i), p.2) | none => .stuck)
    | _, _ => .stuck) := rfl
theorem stepE_cdct (kvs : List (Str × Int)) : stepE T ev exs (.cdct kvs) env = .ok (.val (.dict (kvs.map fun p => (.str p.1, .int p.2))), env) := rfl
theorem stepE_snap (e : E) : stepE T ev exs (.snap e) env = ((ev e (frozen env)).bind fun p => if loose p.1 then .ok (p.1, env) else .stuck) := rfl
theorem stepE_comp (elt : E) (t : Tgt) (it : I) (c : Option E) : stepE T ev exs (.comp elt t it c) env = ((items ev it env).bind fun p => if p.1.length ≤ most ∧ (tslots t).all (plainAt p.2) = true then
      (noErr (turns ev elt t c (tslots t) p.1 p.2)).bind fun q => .ok (.lst q.1, backE p.2 q.2 (tslots t)) else .stuck) := rfl
end

def seqS (f : S → Env → Res (Fl × Env)) : List S → Env → Res (Fl × Env)
  | [], env => .ok (.next, env)
  | s :: r, env => (f s env).bind fun p => match p.1 with
    | .next => seqS f r p.2
    | o => .ok (o, p.2)

mutual
def evN (T : Tab) : Nat → E → Env → Res (O × Env)
  | 0, _, _ => .stuck
  | n + 1, e, env => stepE T (evN T n) (exN T n) e env
def exN (T : Tab) : Nat → List S → Env → Res (Fl × Env)
  | 0, _, _ => .stuck
  | n + 1, ss, env => seqS (one T (evN T n) (exN T n)) ss env
end
end Ev

end
section
set_option autoImplicit false
set_option linter.all false
set_option maxRecDepth 100000
/-! How the evaluator's trees stand in the abstract heap. -/
namespace Ev
open PySem L2

def keyD : Key → D
  | .inl i => .int i
  | .inr s => .str s

mutual
inductive Rep (K : PySem.W.Frag) (F : Hp) : V → D → Prop
  | non : Rep K F .non .none
  | bl (b : Bool) : Rep K F (.bl b) (.bool b)
  | int (i : Int) : Rep K F (.int i) (.int i)
  | str (x : Str) : Rep K F (.str x) (.str x)
  | lst {a : Addr} {xs : List V} {ds : List D} : F a = some (.lst xs) → RepAll K F xs ds → Rep K F (.ref a) (.list ds)
  | tup {a : Addr} {xs : List V} {ds : List D} : SqT K F a xs → RepAll K F xs ds → Rep K F (.ref a) (.tuple ds)
  | dK {a : Addr} {kvs : List (Key × V)} {ds : List (D × D)} : F a = some (.dK kvs) → RepKV K F kvs ds → Rep K F (.ref a) (.dict ds)
inductive RepAll (K : PySem.W.Frag) (F : Hp) : List V → List D → Prop
  | nil : RepAll K F [] []
  | cons {v : V} {vs : List V} {d : D} {ds : List D} : Rep K F v d → RepAll K F vs ds → RepAll K F (v :: vs) (d :: ds)
inductive RepKV (K : PySem.W.Frag) (F : Hp) : List (Key × V) → List (D × D) → Prop
  | nil : RepKV K F [] []
  | cons {k : Key} {v : V} {r : List (Key × V)} {d : D} {s : List (D × D)} : Rep K F v d → RepKV K F r s → RepKV K F ((k, v) :: r) ((keyD k, d) :: s)
end

mutual
inductive RO (K : PySem.W.Frag) (F H : Hp) : V → O → List Addr → Prop
  | val {v : V} {d : D} : Rep K F v d → RO K F H v (.val d) []
  | lst {a : Addr} {xs : List V} {os : List O} {C : List Addr} : H a = some (.lst xs) → ROs K F H xs os C → RO K F H (.ref a) (.lst os) (a :: C)
  | scr {a : Addr} {is : List Int} : SqL K F a (is.map V.int) → RO K F H (.ref a) (.scr is) []
  | dct {a : Addr} {kvs : List (Key × V)} {os : List O} {C : List Addr} : H a = some (.dK kvs) → ROs K F H (kvs.map (·.2)) os C → RO K F H (.ref a) (.dct (kvs.map fun q => keyD q.1) os) (a :: C)
inductive ROs (K : PySem.W.Frag) (F H : Hp) : List V → List O → List Addr → Prop
  | nil : ROs K F H [] [] []
  | cons {v : V} {vs : List V} {o : O} {os : List O} {C C' : List Addr} : RO K F H v o C → ROs K F H vs os C' → ROs K F H (v :: vs) (o :: os) (C ++ C')
end

abbrev Ex (H H' : Hp) : Prop := ∀ a o, H a = some o → H' a = some o
theorem Ex.refl (H : Hp) : Ex H H := fun _ _ h => h
theorem Ex.trans {H H1 H2 : Hp} (a : Ex H H1) (b : Ex H1 H2) : Ex H H2 := fun x o h => b x o (a x o h)
theorem Ex.new {H : Hp} {p : Addr} {o : HO} (h : H p = none) : Ex H (upd H p o) := fun a u e => by
  rw [upd_ne (ne_of_none e h)]; exact e
theorem ex_rd {H H' : Hp} {a : Addr} {u : HO} (e : Ex H H') (h : Rd H a u) : Rd H' a u := by
  rcases h with h | ⟨o, h⟩
  · exact Or.inl (e a _ h)
  · exact Or.inr ⟨o, e a _ h⟩
section
variable {K : PySem.W.Frag} {F F' H H' : Hp} {a : Addr} {xs : List V}
theorem ex_l (e : Ex H H') (h : SqL K H a xs) : SqL K H' a xs := h.imp (ex_rd e) id
theorem ex_t (e : Ex H H') (h : SqT K H a xs) : SqT K H' a xs := h.imp (ex_rd e) id

mutual
theorem Rep.mono (e : Ex F F') : ∀ {v : V} {d : D}, Rep K F v d → Rep K F' v d
  | _, _, .non => .non
  | _, _, .bl b => .bl b
  | _, _, .int i => .int i
  | _, _, .str x => .str x
  | _, _, .lst h r => .lst (e _ _ h) (RepAll.mono e r)
  | _, _, .tup h r => .tup (ex_t e h) (RepAll.mono e r)
  | _, _, .dK h r => .dK (e _ _ h) (RepKV.mono e r)
theorem RepAll.mono (e : Ex F F') : ∀ {vs : List V} {ds : List D}, RepAll K F vs ds → RepAll K F' vs ds
  | _, _, .nil => .nil
  | _, _, .cons h r => .cons (Rep.mono e h) (RepAll.mono e r)
theorem RepKV.mono (e : Ex F F') : ∀ {vs : List (Key × V)} {ds : List (D × D)}, RepKV K F vs ds → RepKV K F' vs ds
  | _, _, .nil => .nil
  | _, _, .cons h r => .cons (Rep.mono e h) (RepKV.mono e r)
end
theorem RepAll.length : ∀ {vs : List V} {ds : List D}, RepAll K F vs ds → vs.length = ds.length
  | _, _, .nil => rfl
  | _, _, .cons _ r => by rw [List.length_cons, List.length_cons, RepAll.length r]
theorem RepAll.append : ∀ {vs ws : List V} {ds es : List D}, RepAll K F vs ds → RepAll K F ws es → RepAll K F (vs ++ ws) (ds ++ es)
  | _, _, _, _, .nil, h => h
  | _, _, _, _, .cons h r, q => .cons h (RepAll.append r q)
theorem RepAll.at : ∀ {vs : List V} {ds : List D} {i : Nat} {d : D}, RepAll K F vs ds → ds[i]? = some d → ∃ v, vs[i]? = some v ∧ Rep K F v d
  | _, _, _, _, .nil, e => by simp at e
  | _, _, 0, _, .cons h _, e => by simp at e; subst e; exact ⟨_, rfl, h⟩
  | _, _, i + 1, _, .cons _ r, e => by
    obtain ⟨v, h1, h2⟩ := RepAll.at (i := i) r (by simpa using e)
    exact ⟨v, by simpa using h1, h2⟩
theorem RepAll.atV : ∀ {vs : List V} {ds : List D} {i : Nat} {v : V}, RepAll K F vs ds → vs[i]? = some v → ∃ d, ds[i]? = some d ∧ Rep K F v d
  | _, _, _, _, .nil, e => by simp at e
  | _, _, 0, _, .cons h _, e => by simp at e; subst e; exact ⟨_, rfl, h⟩
  | _, _, i + 1, _, .cons _ r, e => by
    obtain ⟨v, h1, h2⟩ := RepAll.atV (i := i) r (by simpa using e)
    exact ⟨v, by simpa using h1, h2⟩
theorem RepAll.take : ∀ {vs : List V} {ds : List D} (n : Nat), RepAll K F vs ds → RepAll K F (vs.take n) (ds.take n)
  | _, _, 0, _ => .nil
  | _, _, _ + 1, .nil => .nil
  | _, _, n + 1, .cons h r => .cons h (RepAll.take n r)
theorem RepAll.drop : ∀ {vs : List V} {ds : List D} (n : Nat), RepAll K F vs ds → RepAll K F (vs.drop n) (ds.drop n)
  | _, _, 0, h => h
  | _, _, _ + 1, .nil => .nil
  | _, _, n + 1, .cons _ r => RepAll.drop n r
theorem RepAll.reverse : ∀ {vs : List V} {ds : List D}, RepAll K F vs ds → RepAll K F vs.reverse ds.reverse
  | _, _, .nil => .nil
  | _, _, .cons h r => by rw [List.reverse_cons, List.reverse_cons]; exact (RepAll.reverse r).append (.cons h .nil)

mutual
theorem RO.mono (e : Ex F F') : ∀ {v : V} {o : O} {C : List Addr}, (∀ a ∈ C, H' a = H a) → RO K F H v o C → RO K F' H' v o C
  | _, _, _, _, .val h => .val (h.mono e)
  | _, _, _, _, .scr h => .scr (ex_l e h)
  | _, _, _, k, .lst h r => .lst ((k _ List.mem_cons_self).trans h) (ROs.mono e (fun a ha => k a (List.mem_cons_of_mem _ ha)) r)
  | _, _, _, k, .dct h r => .dct ((k _ List.mem_cons_self).trans h) (ROs.mono e (fun a ha => k a (List.mem_cons_of_mem _ ha)) r)
theorem ROs.mono (e : Ex F F') : ∀ {vs : List V} {os : List O} {C : List Addr}, (∀ a ∈ C, H' a = H a) → ROs K F H vs os C → ROs K F' H' vs os C
  | _, _, _, _, .nil => .nil
  | _, _, _, k, .cons h r => .cons (RO.mono e (fun a ha => k a (List.mem_append_left _ ha)) h) (ROs.mono e (fun a ha => k a (List.mem_append_right _ ha)) r)
end
mutual
theorem RO.there : ∀ {v : V} {o : O} {C : List Addr}, RO K F H v o C → ∀ a ∈ C, (∃ xs, H a = some (.lst xs)) ∨ ∃ kvs, H a = some (.dK kvs)
  | _, _, _, .val _, a, ha => by cases ha
  | _, _, _, .scr _, a, ha => by cases ha
  | _, _, _, .lst h r, b, hb => by
    rcases List.mem_cons.mp hb with rfl | hb
    · exact .inl ⟨_, h⟩
    · exact ROs.there r b hb
  | _, _, _, .dct h r, b, hb => by
    rcases List.mem_cons.mp hb with rfl | hb
    · exact .inr ⟨_, h⟩
    · exact ROs.there r b hb
theorem ROs.there : ∀ {vs : List V} {os : List O} {C : List Addr}, ROs K F H vs os C → ∀ a ∈ C, (∃ xs, H a = some (.lst xs)) ∨ ∃ kvs, H a = some (.dK kvs)
  | _, _, _, .nil, a, ha => by cases ha
  | _, _, _, .cons h r, a, ha => by
    rcases List.mem_append.mp ha with ha | ha
    · exact RO.there h a ha
    · exact ROs.there r a ha
end

/-- F with what stands at C -/
def fz (F H : Hp) (C : List Addr) : Hp := fun a => if a ∈ C then H a else F a
theorem fz_ex {C : List Addr} (un : ∀ a ∈ C, F a = none) : Ex F (fz F H C) := fun a o e => by
  unfold fz
  rw [if_neg]; exact e
  intro ha; rw [un a ha] at e; cases e
theorem fz_le {C : List Addr} (ex : Ex F H) : Ex (fz F H C) H := fun a o e => by
  unfold fz at e
  split at e
  · exact e
  · exact ex a o e
theorem fz_at {C : List Addr} {b : Addr} (h : b ∈ C) : fz F H C b = H b := if_pos h

mutual
/-- what is owned is frozen -/
theorem RO.freeze {G : Hp} (e : Ex F G) : ∀ {v : V} {o : O} {C : List Addr}, (∀ a ∈ C, G a = H a) → RO K F H v o C → o.tree = true → Rep K G v o.toD
  | _, _, _, _, .val h, _ => by unfold O.toD; exact h.mono e
  | _, _, _, _, .scr h, t => by cases t
  | _, _, _, k, .lst (os := os) h r, t => by
    unfold O.tree at t
    unfold O.toD
    exact .lst ((k _ List.mem_cons_self).trans h) (ROs.freeze e (fun a ha => k a (List.mem_cons_of_mem _ ha)) r t)
  | _, _, _, k, .dct h r, t => by
    unfold O.tree at t
    unfold O.toD
    refine .dK ((k _ List.mem_cons_self).trans h) ?_
    have q := ROs.freeze e (fun a ha => k a (List.mem_cons_of_mem _ ha)) r t
    exact repKV_of q
theorem ROs.freeze {G : Hp} (e : Ex F G) : ∀ {vs : List V} {os : List O} {C : List Addr}, (∀ a ∈ C, G a = H a) → ROs K F H vs os C → O.trees os = true → RepAll K G vs (O.toDs os)
  | _, _, _, _, .nil, _ => by unfold O.toDs; exact .nil
  | _, _, _, k, .cons h r, t => by
    unfold O.trees at t
    rw [Bool.and_eq_true] at t
    unfold O.toDs
    exact .cons (RO.freeze e (fun a ha => k a (List.mem_append_left _ ha)) h t.1) (ROs.freeze e (fun a ha => k a (List.mem_append_right _ ha)) r t.2)
theorem repKV_of {G : Hp} : ∀ {kvs : List (Key × V)} {ds : List D}, RepAll K G (kvs.map (·.2)) ds → RepKV K G kvs ((kvs.map fun q => keyD q.1).zip ds)
  | [], [], _ => .nil
  | [], _ :: _, h => by cases h
  | _ :: _, [], h => by cases h
  | (k, v) :: r, d :: ds, h => by
    cases h with
    | cons h1 h2 => exact .cons h1 (repKV_of h2)
end

/-- the state and the slots: F is what nobody changes, Af what the slots own -/
structure SR (K : PySem.W.Frag) (F H : Hp) (σ : St) (env : Env) (Af : Nat → List Addr) : Prop where
  ex : Ex F H
  len : σ.length = env.length
  at_ : ∀ i o, env[i]? = some (some o) → ∃ v, σ[i]? = some (some v) ∧ RO K F H v o (Af i)
  nd : ∀ i, (Af i).Nodup
  dj : ∀ i j a, a ∈ Af i → a ∈ Af j → i = j
  un : ∀ i a, a ∈ Af i → F a = none
  th : ∀ i a, a ∈ Af i → H a ≠ none

def Own (Af : Nat → List Addr) (a : Addr) : Prop := ∃ i, a ∈ Af i

/-- from (F, H, Af) on to (F', H', Af'), with something new that owns C -/
structure Stp (F H : Hp) (Af : Nat → List Addr) (F' H' : Hp) (Af' : Nat → List Addr) (C : List Addr) : Prop where
  ex : Ex F F'
  frame : ∀ a o, H a = some o → ¬ Own Af a → H' a = some o
  dom : ∀ a, H a ≠ none → H' a ≠ none
  prF : ∀ a, F' a ≠ none → F a ≠ none ∨ H a = none ∨ Own Af a
  prA : ∀ a, Own Af' a → Own Af a ∨ H a = none
  prC : ∀ a ∈ C, Own Af a ∨ H a = none
theorem Stp.refl {F H : Hp} {Af : Nat → List Addr} : Stp F H Af F H Af [] :=
  ⟨Ex.refl _, fun _ _ h _ => h, fun _ h => h, fun _ h => .inl h, fun _ h => .inl h, fun _ h => nomatch h⟩
theorem Stp.trans {F H F1 H1 F2 H2 : Hp} {Af Af1 Af2 : Nat → List Addr} {C1 C : List Addr} (s : Stp F H Af F1 H1 Af1 C1) (t : Stp F1 H1 Af1 F2 H2 Af2 C) : Stp F H Af F2 H2 Af2 C := by
  have fr : ∀ a, H1 a = none → H a = none := fun a h => Classical.byContradiction fun q => s.dom a q h
  have ow : ∀ a, Own Af1 a → Own Af a ∨ H a = none := s.prA
  refine ⟨s.ex.trans t.ex, fun a o h n => ?_, fun a h => t.dom a (s.dom a h), fun a h => ?_, fun a h => ?_, fun a h => ?_⟩
  · have h1 := s.frame a o h n
    refine t.frame a o h1 fun q => ?_
    rcases ow a q with q | q
    · exact n q
    · rw [h] at q; cases q
  · rcases t.prF a h with q | q | q
    · exact s.prF a q
    · exact .inr (.inl (fr a q))
    · rcases ow a q with q | q
      · exact .inr (.inr q)
      · exact .inr (.inl q)
  · rcases t.prA a h with q | q
    · exact ow a q
    · exact .inr (fr a q)
  · rcases t.prC a h with q | q
    · exact ow a q
    · exact .inr (fr a q)
theorem Stp.drop {F H F' H' : Hp} {Af Af' : Nat → List Addr} {C : List Addr} (s : Stp F H Af F' H' Af' C) : Stp F H Af F' H' Af' [] :=
  ⟨s.ex, s.frame, s.dom, s.prF, s.prA, fun _ h => nomatch h⟩
end
end Ev

end
section
set_option autoImplicit false
set_option linter.all false
set_option maxRecDepth 100000
/-! Readings (TE, TT, TA) that the evaluator gives. -/
namespace Ev
open PySem L2

theorem _root_.L2.PE.mono {X : Cx} {e : Expr} {t t' : TE} (h : PE X e t) (m : ∀ σ H Q, t' σ H Q → t σ H Q) : PE X e t' := ⟨fun pins s σ H Q I q => h.run pins s σ H Q I (m σ H Q q)⟩
theorem _root_.L2.PT.mono {X : Cx} {e : Expr} {t t' : TT} (h : PT X e t) (m : ∀ σ H Q, t' σ H Q → t σ H Q) : PT X e t' := ⟨fun pins s σ H Q I q => h.run pins s σ H Q I (m σ H Q q)⟩
theorem _root_.L2.PW.mono {X : Cx} {e : Expr} {t t' : TT} (h : PW X e t) (m : ∀ σ H Q, t' σ H Q → t σ H Q) : PW X e t' := ⟨fun wh pins s σ H Q I q => h.run wh pins s σ H Q I (m σ H Q q)⟩
theorem _root_.L2.PA.mono {X : Cx} {es : List Expr} {t t' : TA} (h : PA X es t) (m : ∀ σ H Q, t' σ H Q → t σ H Q) : PA X es t' := ⟨fun pos pins s σ H Q I q => h.run pos pins s σ H Q I (m σ H Q q)⟩
theorem _root_.L2.PS.mono {X : Cx} {st : Stmt} {t t' : TS} (h : PS X st t) (m : ∀ D σ H, t' D σ H → t D σ H) : PS X st t' := ⟨fun pins s σ H D I q => h.run pins s σ H D I (m D σ H q)⟩
theorem _root_.L2.PSs.mono {X : Cx} {st : List Stmt} {t t' : TS} (h : PSs X st t) (m : ∀ D σ H, t' D σ H → t D σ H) : PSs X st t' := ⟨fun pins s σ H D I q => h.run pins s σ H D I (m D σ H q)⟩

section
variable {K : PySem.W.Frag} {F F' H H' : Hp} {σ : L2.St} {env env' : Env} {Af Af' : Nat → List Addr}
theorem RO.val_inv {v : V} {d : D} {C : List Addr} (h : RO K F H v (.val d) C) : Rep K F v d ∧ C = [] := by
  cases h with
  | val h => exact ⟨h, rfl⟩
theorem RO.scr_inv {v : V} {is : List Int} {C : List Addr} (h : RO K F H v (.scr is) C) : ∃ a, v = .ref a ∧ SqL K F a (is.map V.int) := by
  cases h with
  | scr h => exact ⟨_, rfl, h⟩
theorem join_some {i : Nat} {o : O} (e : (env[i]?).join = some o) : env[i]? = some (some o) := by
  cases q : env[i]? with
  | none => rw [q] at e; cases e
  | some u => rw [q] at e; cases u with
    | none => cases e
    | some u => cases e; rfl
theorem SR.rep (s : SR K F H σ env Af) {i : Nat} {d : D} (e : (env[i]?).join = some (.val d)) : ∃ v, σ[i]? = some (some v) ∧ Rep K F v d := by
  obtain ⟨v, h1, h2⟩ := s.at_ i _ (join_some e)
  exact ⟨v, h1, h2.val_inv.1⟩
theorem SR.own_th (s : SR K F H σ env Af) {a : Addr} (h : Own Af a) : H a ≠ none ∧ F a = none := by
  obtain ⟨i, h⟩ := h; exact ⟨s.th i a h, s.un i a h⟩
end

/-- how a thing of the evaluator stands for one of the machine: F, H, the one, the other, what is owned -/
abbrev Rp (α β : Type) := Hp → Hp → β → α → List Addr → Prop

section
variable (K : PySem.W.Frag) (cA : Nat → Addr) (W : WX)
def ErrW (σ : L2.St) (F H : Hp) (Af : Nat → List Addr) (c : Nat) : Prop := ∀ F' H' : Hp, Ex F F' → Ex F' H' → (∀ a o, H a = some o → ¬ Own Af a → H' a = some o) → (∀ a, H a ≠ none → H' a ≠ none) → W (.ref (cA c)) none σ H'
def PG {α β : Type} (rep : Rp α β) (σ : L2.St) (F H : Hp) (Af : Nat → List Addr) (R : Res (α × Env)) (Q : β → Hp → Prop) : Prop :=
  match R with
  | .ok (a, env') => ∀ (b : β) (F' H' : Hp) (Af' : Nat → List Addr) (C : List Addr), SR K F' H' σ env' Af' → Stp F H Af F' H' Af' C → rep F' H' b a C →
      C.Nodup → (∀ x ∈ C, F' x = none ∧ ¬ Own Af' x) → Q b H'
  | .err c => ErrW cA W σ F H Af c
  | .stuck => False
def TG {α β : Type} (rep : Rp α β) (r : Env → Res (α × Env)) : L2.St → Hp → (β → Hp → Prop) → Prop := fun σ H Q => ∃ F Af env, SR K F H σ env Af ∧ PG K cA W rep σ F H Af (r env) Q
end
def rD (K : PySem.W.Frag) : Rp D V := fun F _ v d C => C = [] ∧ Rep K F v d
def rO (K : PySem.W.Frag) : Rp O V := fun F H v o C => RO K F H v o C
def rB : Rp Bool Bool := fun _ _ x y C => C = [] ∧ x = y
def rL (K : PySem.W.Frag) : Rp (List D) (List V) := fun F _ vs ds C => C = [] ∧ RepAll K F vs ds

section
variable {K : PySem.W.Frag} {cA : Nat → Addr} {W : WX} {F F' H H' : Hp} {σ : L2.St} {env env' : Env} {Af Af' : Nat → List Addr} {α β α' β' : Type} {rep : Rp α β} {rep' : Rp α' β'}

theorem ErrW.step {F1 H1 : Hp} {Af1 : Nat → List Addr} {c : Nat} {C : List Addr} (t : Stp F H Af F1 H1 Af1 C) (h : ErrW cA W σ F H Af c) : ErrW cA W σ F1 H1 Af1 c := fun F' H' e1 e2 fr dm =>
  h F' H' (t.ex.trans e1) e2 (fun a o e n => by
    refine fr a o (t.frame a o e n) fun q => ?_
    rcases t.prA a q with q | q
    · exact n q
    · rw [e] at q; cases q) fun a ha => dm a (t.dom a ha)
theorem PG.step {R : Res (α × Env)} {Q : β → Hp → Prop} {F1 H1 : Hp} {Af1 : Nat → List Addr} {C : List Addr} (t : Stp F H Af F1 H1 Af1 C) (h : PG K cA W rep σ F H Af R Q) : PG K cA W rep σ F1 H1 Af1 R Q := by
  cases R with
  | stuck => exact h
  | err c => exact ErrW.step t h
  | ok p => exact fun b F2 H2 Af2 C2 s t2 r nd un => h b F2 H2 Af2 C2 s (t.trans t2) r nd un
/-- one behind the other -/
theorem PG.bind {R : Res (α × Env)} {k : α → Env → Res (α' × Env)} {Q : β' → Hp → Prop} {Q1 : β → Hp → Prop}
    (h : PG K cA W rep' σ F H Af (R.bind fun p => k p.1 p.2) Q)
    (hQ : ∀ (a : α) (env1 : Env) (b : β) (F1 H1 : Hp) (Af1 : Nat → List Addr) (C : List Addr), R = .ok (a, env1) → SR K F1 H1 σ env1 Af1 → Stp F H Af F1 H1 Af1 C → rep F1 H1 b a C → C.Nodup → (∀ x ∈ C, F1 x = none ∧ ¬ Own Af1 x) →
      PG K cA W rep' σ F1 H1 Af1 (k a env1) Q → Q1 b H1) :
    PG K cA W rep σ F H Af R Q1 := by
  cases R with
  | stuck => exact h
  | err c => exact h
  | ok p => exact fun b F1 H1 Af1 C s t r nd un => hQ p.1 p.2 b F1 H1 Af1 C rfl s t r nd un (PG.step t h)
theorem TG.bind {r : Env → Res (α × Env)} {k : α → Env → Res (α' × Env)} {Q : β' → Hp → Prop} {Q1 : β → Hp → Prop}
    (h : TG K cA W rep' (fun env => (r env).bind fun p => k p.1 p.2) σ H Q)
    (hQ : ∀ (a : α) (env1 : Env) (b : β) (F1 H1 : Hp) (Af1 : Nat → List Addr) (C : List Addr), SR K F1 H1 σ env1 Af1 → rep F1 H1 b a C → C.Nodup → (∀ x ∈ C, F1 x = none ∧ ¬ Own Af1 x) →
      PG K cA W rep' σ F1 H1 Af1 (k a env1) Q → Q1 b H1) : TG K cA W rep r σ H Q1 := by
  obtain ⟨F, Af, env, s, p⟩ := h
  exact ⟨F, Af, env, s, p.bind fun a env1 b F1 H1 Af1 C _ s1 _ r1 nd un q => hQ a env1 b F1 H1 Af1 C s1 r1 nd un q⟩
theorem PG.imp {R : Res (α × Env)} {Q Q' : β → Hp → Prop} (h : PG K cA W rep σ F H Af R Q) (m : ∀ b H', Q b H' → Q' b H') : PG K cA W rep σ F H Af R Q' := by
  cases R with
  | stuck => exact h
  | err c => exact h
  | ok p => exact fun b F' H' Af' C s t r nd un => m _ _ (h b F' H' Af' C s t r nd un)
theorem TG.imp {r : Env → Res (α × Env)} {Q Q' : β → Hp → Prop} (h : TG K cA W rep r σ H Q) (m : ∀ b H', Q b H' → Q' b H') : TG K cA W rep r σ H Q' := by
  obtain ⟨F, Af, env, s, p⟩ := h
  exact ⟨F, Af, env, s, p.imp m⟩
theorem PG.tg {r : Env → Res (α × Env)} {Q : β → Hp → Prop} (s : SR K F H σ env Af) (h : PG K cA W rep σ F H Af (r env) Q) : TG K cA W rep r σ H Q := ⟨F, Af, env, s, h⟩
/-- the end: a value as it stands -/
theorem PG.ok_ {a : α} {Q : β → Hp → Prop} (h : PG K cA W rep σ F H Af (.ok (a, env')) Q) {b : β} {F' H' : Hp} {Af' : Nat → List Addr} {C : List Addr} (s : SR K F' H' σ env' Af') (t : Stp F H Af F' H' Af' C) (r : rep F' H' b a C)
    (nd : C.Nodup) (un : ∀ x ∈ C, F' x = none ∧ ¬ Own Af' x) : Q b H' := h b F' H' Af' C s t r nd un
/-- .. with nothing new -/
theorem PG.now {a : α} {Q : β → Hp → Prop} (h : PG K cA W rep σ F H Af (.ok (a, env)) Q) (s : SR K F H σ env Af) {b : β} (r : rep F H b a []) : Q b H :=
  h b F H Af [] s Stp.refl r .nil fun _ z => nomatch z

/-- frozen -/
def fzD (p : O × Env) : Res (D × Env) := if p.1.tree then .ok (p.1.toD, p.2) else .stuck
theorem evD_eq (ev : E → Env → Res (O × Env)) (e : E) (env : Env) : evD ev e env = (ev e env).bind fzD := rfl
theorem SR.fz {C : List Addr} (s : SR K F H σ env Af) (un : ∀ x ∈ C, F x = none ∧ ¬ Own Af x) : SR K (fz F H C) H σ env Af :=
  ⟨fz_le s.ex, s.len, fun i o e => by
    obtain ⟨v, e1, e2⟩ := s.at_ i o e
    exact ⟨v, e1, e2.mono (fz_ex fun a ha => (un a ha).1) fun _ _ => rfl⟩, s.nd, s.dj, fun i a ha => by
    have hn : a ∉ C := fun hc => (un a hc).2 ⟨i, ha⟩
    unfold Ev.fz; rw [if_neg hn]; exact s.un i a ha, s.th⟩
theorem Stp.fz {C : List Addr} (t : Stp F H Af F' H' Af' C) (un : ∀ x ∈ C, F' x = none) : Stp F H Af (fz F' H' C) H' Af' [] :=
  ⟨t.ex.trans (fz_ex un), t.frame, t.dom, fun a ha => by
    unfold Ev.fz at ha
    split at ha
    · rename_i hc
      exact (t.prC a hc).elim (fun q => .inr (.inr q)) fun q => .inr (.inl q)
    · exact t.prF a ha, t.prA, fun _ z => nomatch z⟩
theorem PG.freeze {R : Res (O × Env)} {Q : VK} (h : PG K cA W (rD K) σ F H Af (R.bind fzD) Q) : PG K cA W (rO K) σ F H Af R Q := by
  cases R with
  | stuck => exact h
  | err c => exact h
  | ok p =>
    obtain ⟨o, env'⟩ := p
    intro v F' H' Af' C s t r nd un
    have r : RO K F' H' v o C := r
    have h1 : PG K cA W (rD K) σ F H Af (fzD (o, env')) Q := h
    unfold fzD at h1
    split at h1
    · rename_i ht
      exact h1 v (Ev.fz F' H' C) H' Af' [] (s.fz un) (t.fz fun x hx => (un x hx).1) ⟨rfl, r.freeze (fz_ex fun a ha => (un a ha).1) (fun a ha => fz_at ha) ht⟩ .nil fun _ z => nomatch z
    · exact h1.elim
theorem TG.freeze {r : Env → Res (O × Env)} {Q : VK} (h : TG K cA W (rD K) (fun env => (r env).bind fzD) σ H Q) : TG K cA W (rO K) r σ H Q := by
  obtain ⟨F, Af, env, s, p⟩ := h
  exact ⟨F, Af, env, s, p.freeze⟩
/-- a tree is a thing -/
theorem PG.ofD {R : Res (D × Env)} {Q : VK} (h : PG K cA W (rO K) σ F H Af (R.bind fun p => .ok (.val p.1, p.2)) Q) : PG K cA W (rD K) σ F H Af R Q := by
  cases R with
  | stuck => exact h
  | err c => exact h
  | ok p => exact fun v F' H' Af' C s t r nd un => h v F' H' Af' [] s t.drop (.val r.2) .nil fun _ z => nomatch z
end
end Ev

end
section
set_option autoImplicit false
set_option linter.all false
set_option maxRecDepth 100000
/-! Operations on values: what the evaluator says of them, and the machine. One argument. -/
namespace Ev
open PySem L2 PyProof.Rows

theorem CallR.mono {X : Cx} {f : Value} {r r' : List V → Hp → VK → Prop} (h : CallR X f r) (m : ∀ xs H Q, r' xs H Q → r xs H Q) : CallR X f r' := fun pins s σ H xs us Q I rv q => h pins s σ H xs us Q I rv (m xs H Q q)
theorem OpR.mono {X : Cx} {f : Value → Value → Sem Value} {r r' : R2} (h : OpR X f r) (m : ∀ x y H Q, r' x y H Q → r x y H Q) : OpR X f r' := fun pins s σ H x y v u Q I rx ry q => h pins s σ H x y v u Q I rx ry (m x y H Q q)
theorem UnR.mono {X : Cx} {f : Value → Sem Value} {r r' : V → Hp → VK → Prop} (h : UnR X f r) (m : ∀ x H Q, r' x H Q → r x H Q) : UnR X f r' := fun pins s σ H x v Q I rx q => h pins s σ H x v Q I rx (m x H Q q)

/-- the evaluator's answer to an operation, as a result -/
def resO (o : Option O) (env : Env) : Res (O × Env) := match o with
  | some r => .ok (r, env)
  | none => .stuck
section
variable (K : PySem.W.Frag) (cA : Nat → Addr) (W : WX)
def R1 (o : Op1) : V → Hp → VK → Prop := fun x H Q => ∃ (σ : L2.St) (F : Hp) (Af : Nat → List Addr) (env : Env) (d : D), SR K F H σ env Af ∧ Rep K F x d ∧ PG K cA W (rO K) σ F H Af (resO (ev1 o d) env) Q
def R1c (o : Op1) : List V → Hp → VK → Prop := fun xs H Q => ∃ x, xs = [x] ∧ R1 K cA W o x H Q
def R2e (o : Op2) : R2 := fun x y H Q => ∃ (σ : L2.St) (F : Hp) (Af : Nat → List Addr) (env : Env) (d e : D), SR K F H σ env Af ∧ Rep K F x d ∧ Rep K F y e ∧ PG K cA W (rO K) σ F H Af (resO (ev2 o d e) env) Q
def R2c (o : Op2) : List V → Hp → VK → Prop := fun xs H Q => ∃ x y, xs = [x, y] ∧ R2e K cA W o x y H Q
end

section
variable {K : PySem.W.Frag} {cA : Nat → Addr} {W : WX} {F F' H H' : Hp} {σ : L2.St} {env env' : Env} {Af Af' : Nat → List Addr}

theorem fresh_own (s : SR K F H σ env Af) {p : Addr} (hp : H p = none) : ¬ Own Af p ∧ F p = none := by
  refine ⟨fun ⟨i, h⟩ => s.th i p h hp, ?_⟩
  cases e : F p with
  | none => rfl
  | some o => rw [s.ex p o e] at hp; cases hp
theorem SR.newO (s : SR K F H σ env Af) {p : Addr} {o : HO} (hp : H p = none) : SR K F (upd H p o) σ env Af := by
  have ne : ∀ i a, a ∈ Af i → a ≠ p := fun i a h z => by subst z; exact s.th i a h hp
  refine ⟨s.ex.trans (Ex.new hp), s.len, fun i u e => ?_, s.nd, s.dj, s.un, fun i a h => ?_⟩
  · obtain ⟨v, e1, e2⟩ := s.at_ i u e
    exact ⟨v, e1, e2.mono (Ex.refl _) fun a ha => upd_ne (ne i a ha)⟩
  · rw [upd_ne (ne i a h)]; exact s.th i a h
theorem SR.newF (s : SR K F H σ env Af) {p : Addr} {o : HO} (hp : H p = none) : SR K (upd F p o) (upd H p o) σ env Af := by
  have ne : ∀ i a, a ∈ Af i → a ≠ p := fun i a h z => by subst z; exact s.th i a h hp
  have hf := (fresh_own s hp).2
  refine ⟨fun a u e => ?_, s.len, fun i u e => ?_, s.nd, s.dj, fun i a h => ?_, fun i a h => ?_⟩
  · by_cases h : a = p
    · subst h; rw [upd_same] at e; rw [upd_same]; exact e
    · rw [upd_ne h] at e; rw [upd_ne h]; exact s.ex a u e
  · obtain ⟨v, e1, e2⟩ := s.at_ i u e
    exact ⟨v, e1, e2.mono (Ex.new hf) fun a ha => upd_ne (ne i a ha)⟩
  · rw [upd_ne (ne i a h)]; exact s.un i a h
  · rw [upd_ne (ne i a h)]; exact s.th i a h
theorem Stp.newO {p : Addr} {o : HO} (hp : H p = none) : Stp F H Af F (upd H p o) Af [p] :=
  ⟨Ex.refl _, fun a u e _ => by rw [upd_ne (ne_of_none e hp)]; exact e, fun a h => by
    by_cases q : a = p
    · subst q; exact absurd hp h
    · rw [upd_ne q]; exact h, fun _ h => .inl h, fun _ h => .inl h, fun x hx => by
    rw [List.mem_singleton] at hx; subst hx; exact .inr hp⟩
theorem Stp.newF {p : Addr} {o : HO} (hp : H p = none) (hf : F p = none) : Stp F H Af (upd F p o) (upd H p o) Af [] :=
  ⟨Ex.new hf, fun a u e _ => by rw [upd_ne (ne_of_none e hp)]; exact e, fun a h => by
    by_cases q : a = p
    · subst q; exact absurd hp h
    · rw [upd_ne q]; exact h, fun a h => by
    by_cases q : a = p
    · subst q; exact .inr (.inl hp)
    · rw [upd_ne q] at h; exact .inl h, fun _ h => .inl h, fun _ z => nomatch z⟩
theorem ROs.vals {vs : List V} {ds : List D} (h : RepAll K F vs ds) : ROs K F H vs (ds.map .val) [] := by
  induction ds generalizing vs with
  | nil => cases h; exact .nil
  | cons d ds ih =>
    cases h with
    | cons h1 h2 => exact .cons (C := []) (.val h1) (ih h2)
theorem PG.newL {vs : List V} {ds : List D} {Q : VK} (h : PG K cA W (rO K) σ F H Af (.ok (.lst (ds.map .val), env)) Q) (s : SR K F H σ env Af) (r : RepAll K F vs ds) {p : Addr} (hp : H p = none) : Q (.ref p) (upd H p (.lst vs)) := by
  have hf := fresh_own s hp
  refine h (.ref p) F (upd H p (.lst vs)) Af [p] (s.newO hp) (Stp.newO hp) (RO.lst upd_same (ROs.vals r)) (by simp) fun x hx => ?_
  rw [List.mem_singleton] at hx; subst hx; exact ⟨hf.2, hf.1⟩
theorem PG.newT {vs : List V} {ds : List D} {Q : VK} (h : PG K cA W (rO K) σ F H Af (.ok (.val (.tuple ds), env)) Q) (s : SR K F H σ env Af) (r : RepAll K F vs ds) {p : Addr} (hp : H p = none) : Q (.ref p) (upd H p (.tup vs)) := by
  have hf := fresh_own s hp
  exact h (.ref p) (upd F p (.tup vs)) (upd H p (.tup vs)) Af [] (s.newF hp) (Stp.newF hp hf.2) (RO.val (.tup (.inl (.inl upd_same)) (r.mono (Ex.new hf.2)))) .nil fun _ z => nomatch z
theorem PG.nowV {d : D} {Q : VK} (h : PG K cA W (rO K) σ F H Af (.ok (.val d, env)) Q) (s : SR K F H σ env Af) {v : V} (r : Rep K F v d) : Q v H := PG.now h s (RO.val r)

theorem Rep.int_inv {v : V} {i : Int} (h : Rep K F v (.int i)) : v = .int i := by cases h; rfl
theorem Rep.bl_inv {v : V} {b : Bool} (h : Rep K F v (.bool b)) : v = .bl b := by cases h; rfl
theorem Rep.str_inv {v : V} {x : Str} (h : Rep K F v (.str x)) : v = .str x := by cases h; rfl
theorem Rep.non_inv {v : V} (h : Rep K F v .none) : v = .non := by cases h; rfl
theorem Rep.lst_inv {v : V} {ds : List D} (h : Rep K F v (.list ds)) : ∃ a xs, v = .ref a ∧ F a = some (.lst xs) ∧ RepAll K F xs ds := by cases h; exact ⟨_, _, rfl, ‹_›, ‹_›⟩
theorem Rep.tup_inv {v : V} {ds : List D} (h : Rep K F v (.tuple ds)) : ∃ a xs, v = .ref a ∧ SqT K F a xs ∧ RepAll K F xs ds := by cases h; exact ⟨_, _, rfl, ‹_›, ‹_›⟩
theorem Rep.dict_inv {v : V} {ds : List (D × D)} (h : Rep K F v (.dict ds)) : ∃ a kvs, v = .ref a ∧ F a = some (.dK kvs) ∧ RepKV K F kvs ds := by cases h; exact ⟨_, _, rfl, ‹_›, ‹_›⟩
theorem RepAll.ints : ∀ {vs : List V} {ds : List D} {is : List Int}, RepAll K F vs ds → ints? ds = some is → vs = is.map V.int
  | _, [], is, .nil, e => by cases e; rfl
  | _, .int i :: ds, is, .cons h r, e => by
    cases h.int_inv
    unfold ints? at e
    cases q : ints? ds with
    | none => rw [q] at e; cases e
    | some js => rw [q] at e; cases e; rw [RepAll.ints r q]; rfl
  | _, .none :: _, _, _, e => nomatch e
  | _, .bool _ :: _, _, _, e => nomatch e
  | _, .str _ :: _, _, _, e => nomatch e
  | _, .list _ :: _, _, _, e => nomatch e
  | _, .tuple _ :: _, _, _, e => nomatch e
  | _, .dict _ :: _, _, _, e => nomatch e
theorem RepAll.bools : ∀ {vs : List V} {ds : List D} {is : List Bool}, RepAll K F vs ds → bools? ds = some is → vs = is.map V.bl
  | _, [], is, .nil, e => by cases e; rfl
  | _, .bool i :: ds, is, .cons h r, e => by
    cases h.bl_inv
    unfold bools? at e
    cases q : bools? ds with
    | none => rw [q] at e; cases e
    | some js => rw [q] at e; cases e; rw [RepAll.bools r q]; rfl
  | _, .none :: _, _, _, e => nomatch e
  | _, .int _ :: _, _, _, e => nomatch e
  | _, .str _ :: _, _, _, e => nomatch e
  | _, .list _ :: _, _, _, e => nomatch e
  | _, .tuple _ :: _, _, _, e => nomatch e
  | _, .dict _ :: _, _, _, e => nomatch e
theorem Rep.ofInts {is : List Int} : RepAll K F (is.map V.int) (is.map PyData.int) := by
  induction is with
  | nil => exact .nil
  | cons i r ih => exact .cons (.int i) ih
/-! as the library's own data -/
mutual
theorem Rep.dp : ∀ {v : V} {d : D}, Rep K F v d → d.plain = true → Dp K F v d
  | _, _, .non, _ => .non
  | _, _, .bl b, _ => .bl b
  | _, _, .int i, _ => .int i
  | _, _, .str x, _ => .str x
  | _, _, .lst h r, e => .lst (.inl (.inl h)) (RepAll.dp r (by simpa [PyData.plain] using e))
  | _, _, .tup h r, e => .tup h (RepAll.dp r (by simpa [PyData.plain] using e))
  | _, _, .dK _ _, e => by simp [PyData.plain] at e
theorem RepAll.dp : ∀ {vs : List V} {ds : List D}, RepAll K F vs ds → PyData.plainAll ds = true → DpAll K F vs ds
  | _, _, .nil, _ => .nil
  | _, _, .cons h r, e => by
    rw [PyData.plainAll, Bool.and_eq_true] at e
    exact .cons (Rep.dp h e.1) (RepAll.dp r e.2)
end
end

section
variable {X : Cx} {cA : Nat → Addr} {W : WX}

theorem most_line : most ≤ sizeLine := by decide
theorem c_len : CallR X (.builtin "len") (R1c X.K cA W .len) := by
  intro pins s σ H xs us Q I rv ⟨x, ex, σ', F, Af, env, d, S, r, p⟩
  subst ex
  cases r with
  | non => exact p.elim
  | bl => exact p.elim
  | int => exact p.elim
  | str z =>
    by_cases hz : z.length ≤ most
    · simp only [ev1, if_pos hz] at p
      exact call_len pins s σ H _ us Q I rv ⟨_, _, rfl, ⟨Nat.le_trans hz most_line, rfl⟩, p.nowV S (.int _)⟩
    · simp only [ev1, if_neg hz] at p
      exact p.elim
  | lst h r => exact call_len pins s σ H _ us Q I rv ⟨_, _, rfl, .inl ⟨_, SqL.of (S.ex _ _ h), rfl⟩, by rw [r.length]; exact p.nowV S (.int _)⟩
  | tup h r => exact call_len pins s σ H _ us Q I rv ⟨_, _, rfl, .inr ⟨_, ex_t S.ex h, rfl⟩, by rw [r.length]; exact p.nowV S (.int _)⟩
  | dK h r =>
    have e : ∀ {kvs : List (Key × V)} {ds : List (D × D)}, RepKV X.K F kvs ds → kvs.length = ds.length := by
      intro kvs ds r
      induction ds generalizing kvs with
      | nil => cases r; rfl
      | cons d ds ih => cases r with | cons _ r => rw [List.length_cons, List.length_cons, ih r]
    exact call_lenD pins s σ H _ us Q I rv ⟨_, _, rfl, S.ex _ _ h, by rw [e r]; exact p.nowV S (.int _)⟩
theorem PG.res_none {K : PySem.W.Frag} {F H : Hp} {σ : L2.St} {env : Env} {Af : Nat → List Addr} {Q : VK} {o : Option O} (p : PG K cA W (rO K) σ F H Af (resO o env) Q) : ∃ r, o = some r ∧ PG K cA W (rO K) σ F H Af (.ok (r, env)) Q := by
  cases o with
  | none => exact p.elim
  | some r => exact ⟨r, rfl, p⟩
theorem c_all (hc : X.calm = true) : CallR X (.builtin "all") (R1c X.K cA W .all) := by
  intro pins s σ H xs us Q I rv ⟨x, ex, σ', F, Af, env, d, S, r, p⟩
  subst ex
  obtain ⟨o, eo, p⟩ := p.res_none
  cases d with
  | list ds =>
    simp only [ev1, Option.map_eq_some_iff] at eo
    obtain ⟨bs, e, rfl⟩ := eo
    obtain ⟨a, xs, rfl, h, r⟩ := r.lst_inv
    cases r.bools e
    exact cr_all hc pins s σ H _ us Q I rv ⟨_, bs, rfl, SqL.of (S.ex _ _ h), p.nowV S (.bl _)⟩
  | _ => cases eo
theorem c_any (hc : X.calm = true) : CallR X (.builtin "any") (R1c X.K cA W .any) := by
  intro pins s σ H xs us Q I rv ⟨x, ex, σ', F, Af, env, d, S, r, p⟩
  subst ex
  obtain ⟨o, eo, p⟩ := p.res_none
  cases d with
  | list ds =>
    simp only [ev1, Option.map_eq_some_iff] at eo
    obtain ⟨bs, e, rfl⟩ := eo
    obtain ⟨a, xs, rfl, h, r⟩ := r.lst_inv
    cases r.bools e
    exact cr_any hc pins s σ H _ us Q I rv ⟨_, bs, rfl, SqL.of (S.ex _ _ h), p.nowV S (.bl _)⟩
  | _ => cases eo
theorem sum_tup {prog : Program} {w : World} {A : Around} {E : Value → Shared → Prop} {s : Shared} {t : Addr} {its : List Value} {ns : List Int} {Q : Value → Shared → Prop} (hh : A.handled = none) (ht : IsTup s.heap t its.toArray) (hi : IntsAre its ns)
    (h : ∀ h' tk t', (∀ b o, s.heap.get? b = some o → h'.get? b = some o) → Q (.int ns.sum t') { s with heap := h', toks := tk }) : wpAny (model prog w) A (call (.builtin "sum") [.ref t]) Q E s := by
  obtain ⟨xs, e⟩ := hi.allInts.items
  have hn : numsOf (intItems xs).toList = ns := by rw [← e]; exact hi.numsOf
  rw [nums_intItems] at hn
  rw [e] at ht
  refine PySem.W.ktm_sumG hh ht fun h' tk t' hk => ?_
  have := h h' tk t' hk
  rw [preSum_eq, List.take_of_length_le (by simp), hn]; exact this
theorem c_sum (hc : X.calm = true) : CallR X (.builtin "sum") (R1c X.K cA W .sum) := by
  intro pins s σ H xs us Q I rv ⟨x, ex, σ', F, Af, env, d, S, r, p⟩
  subst ex
  obtain ⟨o, eo, p⟩ := p.res_none
  cases d with
  | list ds =>
    simp only [ev1, seq?, Option.map_eq_some_iff] at eo
    obtain ⟨bs, e, rfl⟩ := eo
    obtain ⟨a, xs, rfl, h, r⟩ := r.lst_inv
    cases r.ints e
    exact cr_sum hc pins s σ H _ us Q I rv ⟨_, bs, rfl, SqL.of (S.ex _ _ h), p.nowV S (.int _)⟩
  | tuple ds =>
    simp only [ev1, seq?, Option.map_eq_some_iff] at eo
    obtain ⟨bs, e, rfl⟩ := eo
    obtain ⟨a, xs, rfl, h, r⟩ := r.tup_inv
    cases r.ints e
    obtain ⟨its, rv', hl, _⟩ := I.tuple (ex_t S.ex h)
    rw [Vals.ref1 rv]
    exact sum_tup (I.ok.hd hc) hl rv'.ints fun h' tk t' hk => ⟨.int _, H, I.kept hk, ⟨_, rfl⟩, p.nowV S (.int _)⟩
  | _ => cases eo
theorem c_abs : CallR X (.builtin "abs") (R1c X.K cA W .abs) := by
  intro pins s σ H xs us Q I rv ⟨x, ex, σ', F, Af, env, d, S, r, p⟩
  subst ex
  obtain ⟨o, eo, p⟩ := p.res_none
  cases d with
  | int i =>
    cases eo
    cases r.int_inv
    exact call_abs pins s σ H _ us Q I rv ⟨i, rfl, p.nowV S (.int _)⟩
  | _ => cases eo
theorem c_int : CallR X (.type "int") (R1c X.K cA W .int) := by
  intro pins s σ H xs us Q I rv ⟨x, ex, σ', F, Af, env, d, S, r, p⟩
  subst ex
  obtain ⟨o, eo, p⟩ := p.res_none
  cases d with
  | int i =>
    cases eo
    cases r.int_inv
    exact call_int1 pins s σ H _ us Q I rv (.inl ⟨i, rfl, p.nowV S (.int _)⟩)
  | bool b =>
    cases eo
    cases r.bl_inv
    exact call_int1 pins s σ H _ us Q I rv (.inr ⟨b, rfl, p.nowV S (.int _)⟩)
  | _ => cases eo
theorem c_list : CallR X (.type "list") (R1c X.K cA W .list) := by
  intro pins s σ H xs us Q I rv ⟨x, ex, σ', F, Af, env, d, S, r, p⟩
  subst ex
  obtain ⟨o, eo, p⟩ := p.res_none
  cases d with
  | list ds =>
    cases eo
    obtain ⟨a, xs, rfl, h, r⟩ := r.lst_inv
    exact call_list_of pins s σ H _ us Q I rv ⟨a, xs, rfl, .inl (SqL.of (S.ex _ _ h)), fun l hl => p.newL S r hl⟩
  | tuple ds =>
    cases eo
    obtain ⟨a, xs, rfl, h, r⟩ := r.tup_inv
    exact call_list_of pins s σ H _ us Q I rv ⟨a, xs, rfl, .inr (ex_t S.ex h), fun l hl => p.newL S r hl⟩
  | _ => cases eo
theorem c_tuple : CallR X (.type "tuple") (R1c X.K cA W .tuple) := by
  intro pins s σ H xs us Q I rv ⟨x, ex, σ', F, Af, env, d, S, r, p⟩
  subst ex
  obtain ⟨o, eo, p⟩ := p.res_none
  cases d with
  | list ds =>
    cases eo
    obtain ⟨a, xs, rfl, h, r⟩ := r.lst_inv
    exact call_tuple_of pins s σ H _ us Q I rv ⟨a, xs, rfl, .inl ⟨SqL.of (S.ex _ _ h), fun l hl => p.newT S r hl⟩⟩
  | tuple ds =>
    cases eo
    have r0 := r
    obtain ⟨a, xs, rfl, h, r⟩ := r.tup_inv
    exact call_tuple_of pins s σ H _ us Q I rv ⟨a, xs, rfl, .inr ⟨ex_t S.ex h, p.nowV S r0⟩⟩
  | _ => cases eo

/-! repr of a list, of a tuple -/
theorem c_repr (hg : X.A.guards = some []) (hu : X.A.units + 64 < cLine) : CallR X (.builtin "repr") (R1c X.K cA W .repr) := by
  intro pins s σ H xs us Q I rv ⟨x, ex, σ', F, Af, env, d, S, r, p⟩
  subst ex
  obtain ⟨o, eo, p⟩ := p.res_none
  have eo : (if reprOk d then some (O.val (.str d.shown)) else none) = some o := eo
  by_cases hk : reprOk d = true
  · rw [if_pos hk] at eo
    cases eo
    unfold reprOk at hk
    simp only [Bool.and_eq_true, decide_eq_true_eq, Bool.not_eq_true'] at hk
    obtain ⟨h0, h1, h2, h3, h4, h5⟩ := hk
    obtain ⟨u, rfl, rx⟩ := vals1 rv
    obtain ⟨as, rd⟩ := ((r.mono S.ex).dp h1).reads I d x u rx
    have hz : d.shown.length ≤ sizeLine := Nat.le_trans h5 (by decide)
    have fin : ∀ a, u = .ref a → wpAny (model X.prog X.w) X.A (call (.builtin "repr") [u]) (EP X pins σ Q) X.xe s := fun a ha => by
      subst ha
      exact repr_of_reads' (h₀ := s.heap) rd h2 (PyData.noDict_hsm h3) hg (by omega) (fun _ _ e => e) (fun h' t tk kp => ⟨.str d.shown, H, I.kept kp, ⟨t, rfl⟩, p.nowV S (.str _)⟩) hz
    cases d with
    | list ds => cases rd with | list q1 q2 q3 q4 => exact fin _ rfl
    | tuple ds => cases rd with | tuple q1 q2 q3 q4 => exact fin _ rfl
    | _ => cases h0
  · rw [if_neg hk] at eo; cases eo
/-! isinstance of a built-in class -/
def tyName : Ty → String
  | .int => "int" | .bool => "bool" | .str => "str" | .tuple => "tuple" | .list => "list" | .dict => "dict"
theorem Rep.ty {K : PySem.W.Frag} {F : Hp} {x : V} {d : D} (r : Rep K F x d) : ∃ n, TyX K F x (.type n) ∧ ∀ t, PySem.W.kitOne K (.type n) (.type (tyName t)) = some (isTy t d) := by
  cases r with
  | non => exact ⟨_, .base .non, fun t => by cases t <;> rfl⟩
  | bl b => exact ⟨_, .base (.bl b), fun t => by cases t <;> rfl⟩
  | int i => exact ⟨_, .base (.int i), fun t => by cases t <;> rfl⟩
  | str z => exact ⟨_, .base (.str z), fun t => by cases t <;> rfl⟩
  | lst h r => exact ⟨_, .base (.lst h), fun t => by cases t <;> rfl⟩
  | tup h r =>
    rcases h with (h | ⟨o, h⟩) | ⟨o, its, n, h1, h2, _⟩
    · exact ⟨_, .base (.tup h), fun t => by cases t <;> rfl⟩
    · exact ⟨_, .fTuple h, fun t => by cases t <;> rfl⟩
    · exact ⟨_, .kTuple h1 h2, fun t => by cases t <;> rfl⟩
  | dK h r => exact ⟨_, .base (.dK h), fun t => by cases t <;> rfl⟩
theorem c_isT (t : Ty) : CallR X (.builtin "isinstance") (fun xs H Q => ∃ x, xs = [x, .ty (tyName t)] ∧ R1 X.K cA W (.isT t) x H Q) := by
  intro pins s σ H xs us Q I rv ⟨x, ex, σ', F, Af, env, d, S, r, p⟩
  subst ex
  obtain ⟨n, ht, hk⟩ := (r.mono S.ex).ty
  exact call_isi pins s σ H _ us Q I rv ⟨x, _, _, _, _, rfl, .ty _, ht, hk t, p.nowV S (.bl _)⟩
end
end Ev

end
section
set_option autoImplicit false
set_option linter.all false
set_option maxRecDepth 100000
/-! Sorted, least, greatest. -/
namespace Ev
open PySem L2 PyProof.Rows

section
variable {le : D → D → Bool}
theorem ins_perm (x : D) : ∀ l : List D, (ins le x l).Perm (x :: l)
  | [] => .refl _
  | y :: r => by
    unfold ins; split
    · exact .refl _
    · exact ((ins_perm x r).cons y).trans (.swap x y r)
theorem isort_perm : ∀ l : List D, (isort le l).Perm l
  | [] => .refl _
  | x :: r => (ins_perm x _).trans ((isort_perm r).cons x)
theorem ins_pw (h : W.TotalLe le) (x : D) : ∀ l : List D, l.Pairwise (fun a b => le a b = true) → (ins le x l).Pairwise (fun a b => le a b = true)
  | [], _ => by simp [ins]
  | y :: r, p => by
    rw [List.pairwise_cons] at p
    unfold ins; split
    · rename_i hxy
      refine List.pairwise_cons.mpr ⟨fun z hz => ?_, List.pairwise_cons.mpr p⟩
      rcases List.mem_cons.mp hz with rfl | hz
      · exact hxy
      · exact h.trans _ _ _ hxy (p.1 z hz)
    · rename_i hxy
      refine List.pairwise_cons.mpr ⟨fun z hz => ?_, ins_pw h x r p.2⟩
      rcases List.mem_cons.mp ((ins_perm x r).mem_iff.mp hz) with rfl | hz
      · exact (h.total _ _).resolve_left hxy
      · exact p.1 z hz
theorem isort_pw (h : W.TotalLe le) : ∀ l : List D, (isort le l).Pairwise (fun a b => le a b = true)
  | [] => .nil
  | x :: r => ins_pw h x _ (isort_pw h r)
theorem ins_filter (h : W.TotalLe le) (c x : D) : ∀ l : List D, (ins le x l).filter (W.sameRank le c) = (x :: l).filter (W.sameRank le c)
  | [] => rfl
  | y :: r => by
    unfold ins; split
    · rfl
    · rename_i hxy
      rw [List.filter_cons, ins_filter h c x r, List.filter_cons, List.filter_cons, List.filter_cons]
      by_cases h1 : W.sameRank le c x = true
      · by_cases h2 : W.sameRank le c y = true
        · refine absurd ?_ hxy
          unfold W.sameRank at h1 h2
          rw [Bool.and_eq_true] at h1 h2
          exact h.trans _ _ _ h1.2 h2.1
        · simp [h1, h2]
      · simp [h1]
theorem isort_filter (h : W.TotalLe le) (c : D) : ∀ l : List D, (isort le l).filter (W.sameRank le c) = l.filter (W.sameRank le c)
  | [] => rfl
  | x :: r => by
    show (ins le x (isort le r)).filter _ = _
    rw [ins_filter h, List.filter_cons, List.filter_cons, isort_filter h c r]
theorem isort_eq (h : W.TotalLe le) (l : List D) : isort le l = l.mergeSort le := W.sort_unique h (isort_pw h l) fun c => isort_filter h c l
end
theorem leD_total : W.TotalLe leD := by
  have e : leD = W.dataLe false (fun d : D => d) := by rw [W.dataLe_eq]; rfl
  rw [e]; exact W.sortLe_total _ _ _
theorem leD_le : W.dataLe false (fun d : D => d) = leD := by rw [W.dataLe_eq]; rfl

theorem alikeB_all : ∀ {ds : List D}, alikeB ds = true → W.AlikeAll ds ∧ PyData.plainAll ds = true ∧ ∀ d ∈ ds, d.depth ≤ 20
  | [], _ => ⟨⟨fun _ h _ _ => (nomatch h), fun _ h => (nomatch h)⟩, rfl, fun _ h => nomatch h⟩
  | x :: r, h => by
    unfold alikeB at h
    simp only [Bool.and_eq_true, List.all_eq_true, decide_eq_true_eq] at h
    obtain ⟨h1, h2, h3, h6, h4, h5⟩ := h
    have h1 : ∀ y ∈ r, W.alike x y = true ∧ W.alike y x = true := h1
    obtain ⟨⟨a, a2⟩, b, c⟩ := alikeB_all h5
    refine ⟨⟨fun d hd d' hd' => ?_, fun d hd => ?_⟩, by rw [PyData.plainAll, h3, b]; rfl, fun d hd => ?_⟩
    · rcases List.mem_cons.mp hd with e | hd <;> rcases List.mem_cons.mp hd' with e' | hd'
      · rw [e, e']; exact h2
      · rw [e]; exact (h1 _ hd').1
      · rw [e']; exact (h1 _ hd).2
      · exact a d hd d' hd'
    · rcases List.mem_cons.mp hd with e | hd
      · rw [e]; intro z; rw [z] at h6; cases h6
      · exact a2 d hd
    · rcases List.mem_cons.mp hd with rfl | hd
      · exact h4
      · exact c d hd
theorem sortable_of : ∀ {ds : List D}, sortable ds = true → W.Sortable ds := by
  intro ds h
  cases ds with
  | nil => exact .inl fun _ h => nomatch h
  | cons x r =>
    cases x with
    | tuple xs =>
      cases xs with
      | nil => cases h
      | cons y ys =>
        refine .inl fun d hd => ?_
        rcases List.mem_cons.mp hd with rfl | hd
        · exact ⟨_, _, rfl⟩
        · have := List.all_eq_true.mp (show r.all _ = true from h) d hd
          cases d with
          | tuple zs => cases zs with
            | nil => cases this
            | cons => exact ⟨_, _, rfl⟩
          | _ => cases this
    | none => cases h
    | _ =>
      refine .inr fun d hd => ?_
      rcases List.mem_cons.mp hd with rfl | hd
      · exact ⟨by simp, by simp⟩
      · have := List.all_eq_true.mp (show r.all _ = true from h) d hd
        cases d <;> first | (cases this; done) | exact ⟨by simp, by simp⟩
theorem each_of {K : PySem.W.Frag} {F : Hp} : ∀ {vs : List V} {ds : List D} {us : List Value}, Vals vs us → RepAll K F vs ds → W.EachIs (fun u (b : V × D) => RelV b.1 u ∧ Rep K F b.1 b.2) us (vs.zip ds)
  | _, _, _, .nil, .nil => .nil
  | _, _, _, .cons r t, .cons h q => .cons ⟨r, h⟩ (each_of t q)
theorem each_out {K : PySem.W.Frag} {F : Hp} : ∀ {us : List Value} {bs : List (V × D)}, W.EachIs (fun u (b : V × D) => RelV b.1 u ∧ Rep K F b.1 b.2) us bs → Vals (bs.map (·.1)) us ∧ RepAll K F (bs.map (·.1)) (bs.map (·.2))
  | _, _, .nil => ⟨.nil, .nil⟩
  | _, _, .cons h t => ⟨.cons h.1 (each_out t).1, .cons h.2 (each_out t).2⟩
theorem zip_snd {K : PySem.W.Frag} {F : Hp} : ∀ {vs : List V} {ds : List D}, RepAll K F vs ds → (vs.zip ds).map (·.2) = ds
  | _, _, .nil => rfl
  | _, _, .cons _ q => by rw [List.zip_cons_cons, List.map_cons, zip_snd q]
theorem rep_reads {X : Cx} {pins : List (Addr × Obj)} {σ : L2.St} {H : Hp} {s : Shared} (I : Inv X pins σ H s) {v : V} {d : D} {u : Value} (r : Rep X.K H v d) (hp : d.plain = true) (rv : RelV v u) : ∃ as, Reads s.heap u d as := Dp.reads I d v u (r.dp hp) rv
theorem plainAll_mem : ∀ {ds : List D}, PyData.plainAll ds = true → ∀ d ∈ ds, d.plain = true
  | _ :: _, h, d, hd => by
    rw [PyData.plainAll, Bool.and_eq_true] at h
    rcases List.mem_cons.mp hd with rfl | hd
    · exact h.1
    · exact plainAll_mem h.2 d hd
theorem depthAll_le : ∀ {ds : List D}, (∀ d ∈ ds, d.depth ≤ 20) → PyData.depthAll ds ≤ 20
  | [], _ => Nat.zero_le _
  | d :: r, h => by
    rw [PyData.depthAll]
    exact Nat.max_le.mpr ⟨h d List.mem_cons_self, depthAll_le fun x hx => h x (List.mem_cons_of_mem _ hx)⟩

section
variable {X : Cx} {cA : Nat → Addr} {Wx : WX}
/-- sorted(xs), xs alike data: the core -/
theorem sorted_core {pins : List (Addr × Obj)} {s : Shared} {σ σ' : L2.St} {H F : Hp} {Af : Nat → List Addr} {env : Env} {Q : VK} {xs : List V} {ds : List D} {its : List Value} {l : Addr} (I : Inv X pins σ H s) (hu : X.A.units + 64 < cLine)
    (S : SR X.K F H σ' env Af) (rv : Vals xs its) (hl : s.heap.IsList l its.toArray) (hz : xs.length ≤ sizeLine) (r : RepAll X.K F xs ds) (ok : alikeB ds = true) (ok2 : sortable ds = true) (p : PG X.K cA Wx (rO X.K) σ' F H Af (.ok (.lst ((isort leD ds).map .val), env)) Q) :
    wpAny (model X.prog X.w) X.A (call (.builtin "sorted") [.ref l]) (EP X pins σ Q) X.xe s := by
  obtain ⟨ha, hp, hd⟩ := alikeB_all ok
  have e := each_of rv r
  have e2 : W.EachIs (fun v (b : V × D) => ∃ as, Reads s.heap v b.2 as) its (xs.zip ds) := by
    have : ∀ {us : List Value} {bs : List (V × D)}, (∀ b ∈ bs, b.2.plain = true) → W.EachIs (fun u (b : V × D) => RelV b.1 u ∧ Rep X.K F b.1 b.2) us bs → W.EachIs (fun v (b : V × D) => ∃ as, Reads s.heap v b.2 as) us bs := by
      intro us bs hb q
      induction q with
      | nil => exact .nil
      | cons h t ih => exact .cons (rep_reads I (h.2.mono S.ex) (hb _ List.mem_cons_self) h.1) (ih fun b hb' => hb b (List.mem_cons_of_mem _ hb'))
    refine this (fun b hb => plainAll_mem hp _ ?_) e
    rw [← zip_snd r]; exact List.mem_map_of_mem hb
  have hm : (xs.zip ds).map (·.2) = ds := zip_snd r
  have hlen : (xs.zip ds).length = xs.length := by rw [List.length_zip, r.length]; exact Nat.min_self _
  refine W.sorted_data (β := V × D) (enc := fun b => b.2) hl e e2 (by rw [hm]; exact ha.1) (by rw [hm]; exact sortable_of ok2) (by rw [hlen]; exact hz) (fun b hb => ?_) fun out ho eo => ?_
  · have : b.2.depth ≤ 20 := hd _ (by rw [← hm]; exact List.mem_map_of_mem hb)
    omega
  · obtain ⟨k1, k2⟩ := each_out eo
    obtain ⟨ep, he'⟩ := PyProof.Rows.sortedAll_at s.heap its out.toArray
    have hz2 : (((xs.zip ds).mergeSort (W.dataLe false fun b => b.2)).map (·.1)).length ≤ sizeLine := by
      rw [List.length_map, List.length_mergeSort, hlen]; exact hz
    have es : ((xs.zip ds).mergeSort (W.dataLe false fun b => b.2)).map (·.2) = isort leD ds := by
      rw [W.sort_maps (s := leD) (fun b : V × D => b.2) (fun a _ b _ => by rw [W.dataLe_eq]; rfl), hm, isort_eq leD_total]
    have hn : H (s.heap.objs.size + 1) = none := I.hok.fresh (Nat.le_succ _)
    rw [es] at k2
    exact ⟨.ref _, upd H (s.heap.objs.size + 1) (.lst (((xs.zip ds).mergeSort (W.dataLe false fun b => b.2)).map (·.1))), I.laid (t' := s.toks) (fun _ _ => PyProof.Rows.sortedAll_old) (Nat.le_succ _) ⟨hz2, out, ep, k1, he'⟩, rfl, p.newL S k2 hn⟩
theorem c_sorted (hu : X.A.units + 64 < cLine) : CallR X (.builtin "sorted") (R1c X.K cA Wx .sorted) := by
  intro pins s σ H xs us Q I rv ⟨x, ex, σ', F, Af, env, d, S, r, p⟩
  subst ex
  obtain ⟨o, eo, p⟩ := p.res_none
  cases d with
  | list ds =>
    simp only [ev1, sortD] at eo
    split at eo
    · rename_i hk
      cases eo
      rw [Bool.and_eq_true] at hk
      obtain ⟨a, xs, rfl, h, r⟩ := r.lst_inv
      obtain ⟨its, rv', hl, hz⟩ := I.list (SqL.of (S.ex _ _ h))
      rw [Vals.ref1 rv]
      exact sorted_core I hu S rv' hl.isList hz r hk.1 hk.2 p
    · cases eo
  | _ => cases eo
theorem least_core {pins : List (Addr × Obj)} {s : Shared} {σ σ' : L2.St} {H F : Hp} {Af : Nat → List Addr} {env : Env} {Q : VK} {xs : List V} {ds : List D} {its : List Value} {d0 : D} {h' : Heap} {tk : Nat} {i : Nat} {v : Value} {bs : List Addr} (I : Inv X pins σ H s)
    (S : SR X.K F H σ' env Af) (rv : Vals xs its) (r : RepAll X.K F xs ds) (hp : PyData.plainAll ds = true) (hv : its[i]? = some v) (hr : Reads h' v d0 bs) (hk : ∀ b o, s.heap.get? b = some o → h'.get? b = some o)
    (p : PG X.K cA Wx (rO X.K) σ' F H Af (.ok (.val d0, env)) Q) : EP X pins σ Q v { s with heap := h', toks := tk } := by
  cases ex : xs[i]? with
  | none => rw [rv.none_of ex] at hv; cases hv
  | some x =>
    obtain ⟨d, ed, rd⟩ := r.atV ex
    obtain ⟨u, eu, ru⟩ := rv.get ex
    rw [hv] at eu; cases eu
    have hpd := plainAll_mem hp d (List.mem_of_getElem? ed)
    obtain ⟨as, q⟩ := rep_reads I (rd.mono S.ex) hpd ru
    have e := SeqAt.plain_unique d d0 v as bs hpd (Reads.keeps hk q) hr
    subst e
    exact ⟨x, H, I.kept hk, ru, p.nowV S rd⟩
theorem c_min (hc : X.calm = true) (hu : X.A.units + 64 < cLine) : CallR X (.builtin "min") (R1c X.K cA Wx .min) := by
  intro pins s σ H xs us Q I rv ⟨x, ex, σ', F, Af, env, d, S, r, p⟩
  subst ex
  obtain ⟨o, eo, p⟩ := p.res_none
  cases d with
  | list ds =>
    cases ds with
    | nil => cases eo
    | cons d ds =>
      simp only [ev1] at eo
      split at eo
      · rename_i hk
        cases eo
        obtain ⟨ha, hp, hd⟩ := alikeB_all hk
        obtain ⟨a, xs, rfl, h, r⟩ := r.lst_inv
        obtain ⟨its, rv', hl, hz⟩ := I.list (SqL.of (S.ex _ _ h))
        obtain ⟨as, hr⟩ := Dp.readsAll I _ _ its ((r.mono S.ex).dp hp) rv'
        rw [Vals.ref1 rv]
        refine W.min_list_data (I.ok.hd hc) hl.isList hr ha (by have := depthAll_le hd; omega) fun i v h' tk bs hv hq hk => ?_
        exact least_core I S rv' r hp (by simpa using hv) hq hk p
      · cases eo
  | _ => cases eo
theorem c_max (hc : X.calm = true) (hu : X.A.units + 64 < cLine) : CallR X (.builtin "max") (R1c X.K cA Wx .max) := by
  intro pins s σ H xs us Q I rv ⟨x, ex, σ', F, Af, env, d, S, r, p⟩
  subst ex
  obtain ⟨o, eo, p⟩ := p.res_none
  cases d with
  | list ds =>
    cases ds with
    | nil => cases eo
    | cons d ds =>
      simp only [ev1] at eo
      split at eo
      · rename_i hk
        cases eo
        obtain ⟨ha, hp, hd⟩ := alikeB_all hk
        obtain ⟨a, xs, rfl, h, r⟩ := r.lst_inv
        obtain ⟨its, rv', hl, hz⟩ := I.list (SqL.of (S.ex _ _ h))
        obtain ⟨as, hr⟩ := Dp.readsAll I _ _ its ((r.mono S.ex).dp hp) rv'
        rw [Vals.ref1 rv]
        refine W.max_list_data (I.ok.hd hc) hl.isList hr ha (by have := depthAll_le hd; omega) fun i v h' tk bs hv hq hk => ?_
        exact least_core I S rv' r hp (by simpa using hv) hq hk p
      · cases eo
  | _ => cases eo
end
end Ev

end
section
set_option autoImplicit false
set_option linter.all false
set_option maxRecDepth 100000
/-! Two arguments. -/
namespace Ev
open PySem L2 PyProof.Rows

def opOf : Op2 → Option Operator
  | .add => some .Add
  | .sub => some .Sub
  | .mul => some .Mult
  | .fdiv => some .FloorDiv
  | .mod => some .Mod
  | .pow => some .Pow
  | _ => none
def cmpOf : Op2 → Option CmpOp
  | .eq => some .Eq
  | .ne => some .NotEq
  | .lt => some .Lt
  | .le => some .LtE
  | .gt => some .Gt
  | .ge => some .GtE
  | .inn => some .In
  | .nin => some .NotIn
  | .inD => some .In
  | .ninD => some .NotIn
  | .is => some .Is
  | .isnt => some .IsNot
  | _ => none
theorem res2 {cA : Nat → Addr} {Wx : WX} {K : PySem.W.Frag} {F H : Hp} {σ : L2.St} {env : Env} {Af : Nat → List Addr} {Q : VK} {o : Option O} (p : PG K cA Wx (rO K) σ F H Af (resO o env) Q) : ∃ r, o = some r ∧ PG K cA Wx (rO K) σ F H Af (.ok (r, env)) Q := by
  cases o with
  | none => exact p.elim
  | some r => exact ⟨r, rfl, p⟩
section
variable {X : Cx} {cA : Nat → Addr} {Wx : WX}
theorem b_add : OpR X (binaryOp .Add) (R2e X.K cA Wx .add) := by
  intro pins s σ H x y v u Q I rx ry ⟨σ', F, Af, env, d, e, S, r1, r2, p⟩
  obtain ⟨o, eo, p⟩ := res2 p
  cases d with
  | int i => cases e with
    | int j => cases eo; cases r1.int_inv; cases r2.int_inv; exact op_add pins s σ H _ _ v u Q I rx ry ⟨i, j, rfl, rfl, p.nowV S (.int _)⟩
    | _ => cases eo
  | list ds => cases e with
    | list es =>
      simp only [ev2] at eo
      split at eo
      · rename_i hz
        cases eo
        obtain ⟨a, xs, rfl, h1, q1⟩ := r1.lst_inv
        obtain ⟨b, ys, rfl, h2, q2⟩ := r2.lst_inv
        exact op_cat pins s σ H _ _ v u Q I rx ry ⟨a, b, xs, ys, rfl, rfl, S.ex _ _ h1, S.ex _ _ h2, by rw [q1.length, q2.length]; exact Nat.le_trans hz most_line, fun q hq => p.newL S (q1.append q2) hq⟩
      · cases eo
    | _ => cases eo
  | tuple ds => cases e with
    | tuple es =>
      simp only [ev2] at eo
      split at eo
      · rename_i hz
        cases eo
        have r1' := r1
        have r2' := r2
        obtain ⟨a, xs, rfl, h1, q1⟩ := r1.tup_inv
        obtain ⟨b, ys, rfl, h2, q2⟩ := r2.tup_inv
        refine op_catA pins s σ H _ _ v u Q I rx ry ⟨a, b, xs, ys, rfl, rfl, ex_t S.ex h1, ex_t S.ex h2, by rw [q1.length, q2.length]; exact Nat.le_trans hz most_line, fun hx => ?_, fun _ hy => ?_, fun _ _ q hq => PG.newT p S (q1.append q2) hq⟩
        · have : ds = [] := List.eq_nil_of_length_eq_zero (by rw [← q1.length, hx]; rfl)
          subst this
          exact p.nowV S r2'
        · have : es = [] := List.eq_nil_of_length_eq_zero (by rw [← q2.length, hy]; rfl)
          subst this
          rw [List.append_nil] at p
          exact p.nowV S r1'
      · cases eo
    | _ => cases eo
  | _ => cases e <;> cases eo
theorem b_sub : OpR X (binaryOp .Sub) (R2e X.K cA Wx .sub) := by
  intro pins s σ H x y v u Q I rx ry ⟨σ', F, Af, env, d, e, S, r1, r2, p⟩
  obtain ⟨o, eo, p⟩ := res2 p
  cases d with
  | int i => cases e with
    | int j => cases eo; cases r1.int_inv; cases r2.int_inv; exact op_sub pins s σ H _ _ v u Q I rx ry ⟨i, j, rfl, rfl, p.nowV S (.int _)⟩
    | _ => cases eo
  | _ => cases e <;> cases eo
theorem rep_all {K : PySem.W.Frag} {F : Hp} {vs : List V} {ds : List D} (r : RepAll K F vs ds) : ∀ n : Nat, RepAll K F (List.replicate n vs).flatten (List.replicate n ds).flatten
  | 0 => .nil
  | n + 1 => by
    rw [List.replicate_succ, List.replicate_succ, List.flatten_cons, List.flatten_cons]
    exact r.append (rep_all r n)
theorem b_mul : OpR X (binaryOp .Mult) (R2e X.K cA Wx .mul) := by
  intro pins s σ H x y v u Q I rx ry ⟨σ', F, Af, env, d, e, S, r1, r2, p⟩
  obtain ⟨o, eo, p⟩ := res2 p
  cases d with
  | int i => cases e with
    | int j =>
      simp only [ev2] at eo
      split at eo
      · rename_i hz
        cases eo; cases r1.int_inv; cases r2.int_inv
        exact op_mulX pins s σ H _ _ v u Q I rx ry ⟨i, j, rfl, rfl, mulx_ok (a := big) (b := big) hz.1 hz.2 (by decide), p.nowV S (.int _)⟩
      · cases eo
    | _ => cases eo
  | list ds => cases e with
    | int j =>
      simp only [ev2] at eo
      split at eo
      · rename_i hz
        cases eo; cases r2.int_inv
        obtain ⟨a, xs, rfl, h1, q1⟩ := r1.lst_inv
        refine op_rep pins s σ H _ _ v u Q I rx ry ⟨a, j, xs, rfl, rfl, S.ex _ _ h1, by omega, by omega, ?_, fun q hq => p.newL S (rep_all q1 _) hq⟩
        rw [q1.length]; exact Nat.le_trans hz.2 most_line
      · cases eo
    | _ => cases eo
  | _ => cases e <;> cases eo
theorem b_fdiv : OpR X (binaryOp .FloorDiv) (R2e X.K cA Wx .fdiv) := by
  intro pins s σ H x y v u Q I rx ry ⟨σ', F, Af, env, d, e, S, r1, r2, p⟩
  obtain ⟨o, eo, p⟩ := res2 p
  cases d with
  | int i => cases e with
    | int j =>
      simp only [ev2] at eo
      split at eo
      · rename_i hz
        cases eo; cases r1.int_inv; cases r2.int_inv
        exact op_fdivW pins s σ H _ _ v u Q I rx ry ⟨i, j, rfl, rfl, wide_div (b := bigD) hz.1 hz.2 (by decide) (by decide), p.nowV S (.int _)⟩
      · cases eo
    | _ => cases eo
  | _ => cases e <;> cases eo
theorem b_mod : OpR X (binaryOp .Mod) (R2e X.K cA Wx .mod) := by
  intro pins s σ H x y v u Q I rx ry ⟨σ', F, Af, env, d, e, S, r1, r2, p⟩
  obtain ⟨o, eo, p⟩ := res2 p
  cases d with
  | int i => cases e with
    | int j =>
      simp only [ev2] at eo
      split at eo
      · rename_i hz
        cases eo; cases r1.int_inv; cases r2.int_inv
        exact op_mod pins s σ H _ _ v u Q I rx ry ⟨i, j, rfl, rfl, hz, p.nowV S (.int _)⟩
      · cases eo
    | _ => cases eo
  | _ => cases e <;> cases eo
theorem b_pow : OpR X (binaryOp .Pow) (R2e X.K cA Wx .pow) := by
  intro pins s σ H x y v u Q I rx ry ⟨σ', F, Af, env, d, e, S, r1, r2, p⟩
  obtain ⟨o, eo, p⟩ := res2 p
  cases d with
  | int i => cases e with
    | int j =>
      simp only [ev2] at eo
      split at eo
      · rename_i hz
        cases eo; cases r1.int_inv; cases r2.int_inv
        exact op_pow pins s σ H _ _ v u Q I rx ry ⟨i, j, rfl, rfl, ⟨hz.1, by omega, by omega⟩, p.nowV S (.int _)⟩
      · cases eo
    | _ => cases eo
  | _ => cases e <;> cases eo
theorem b_op {o : Op2} {op : Operator} (h : opOf o = some op) : OpR X (binaryOp op) (R2e X.K cA Wx o) := by
  cases o <;> cases h
  · exact b_add
  · exact b_sub
  · exact b_mul
  · exact b_fdiv
  · exact b_mod
  · exact b_pow

theorem k_eq (hu : X.A.units + 64 < cLine) : OpR X (compareOp .Eq) (R2e X.K cA Wx .eq) := by
  intro pins s σ H x y v u Q I rx ry ⟨σ', F, Af, env, d, e, S, r1, r2, p⟩
  obtain ⟨o, eo, p⟩ := res2 p
  simp only [ev2] at eo
  split at eo
  · rename_i hz
    cases eo
    simp only [Bool.and_eq_true, decide_eq_true_eq] at hz
    obtain ⟨as, q1⟩ := rep_reads I (r1.mono S.ex) hz.1.1 rx
    obtain ⟨bs, q2⟩ := rep_reads I (r2.mono S.ex) hz.1.2 ry
    exact SeqAt.eq_plain q1 q2 hz.1.1 hz.1.2 (by have := hz.2; omega) ⟨.bl _, H, I, rfl, p.nowV S (.bl _)⟩
  · cases eo
theorem k_ne (hu : X.A.units + 64 < cLine) : OpR X (compareOp .NotEq) (R2e X.K cA Wx .ne) := by
  intro pins s σ H x y v u Q I rx ry ⟨σ', F, Af, env, d, e, S, r1, r2, p⟩
  obtain ⟨o, eo, p⟩ := res2 p
  simp only [ev2] at eo
  split at eo
  · rename_i hz
    cases eo
    simp only [Bool.and_eq_true, decide_eq_true_eq] at hz
    obtain ⟨as, q1⟩ := rep_reads I (r1.mono S.ex) hz.1.1 rx
    obtain ⟨bs, q2⟩ := rep_reads I (r2.mono S.ex) hz.1.2 ry
    exact SeqAt.ne_plain q1 q2 hz.1.1 hz.1.2 (by have := hz.2; omega) ⟨.bl _, H, I, rfl, p.nowV S (.bl _)⟩
  · cases eo
theorem ltOk_all {d e : D} (h : ltOk d e = true) : d.plain = true ∧ e.plain = true ∧ W.alike d e = true ∧ ¬ d = .none ∧ d.depth ≤ 20 := by
  unfold ltOk at h
  simp only [Bool.and_eq_true, decide_eq_true_eq, Bool.not_eq_true'] at h
  obtain ⟨h1, h2, h3, h4, h5⟩ := h
  exact ⟨h1, h2, h3, (fun z => by subst z; cases h4), h5⟩
theorem ev2_lt (d e : D) : (∃ i j, d = .int i ∧ e = .int j) ∨ ev2 .lt d e = if ltOk d e then some (.val (.bool (W.dataLt d e))) else none := by
  cases d <;> first
    | exact .inr rfl
    | (cases e <;> first | exact .inl ⟨_, _, rfl, rfl⟩ | exact .inr rfl)
theorem k_lt (hu : X.A.units + 64 < cLine) : OpR X (compareOp .Lt) (R2e X.K cA Wx .lt) := by
  intro pins s σ H x y v u Q I rx ry ⟨σ', F, Af, env, d, e, S, r1, r2, p⟩
  obtain ⟨o, eo, p⟩ := res2 p
  rcases ev2_lt d e with ⟨i, j, rfl, rfl⟩ | hg
  · cases eo; cases r1.int_inv; cases r2.int_inv; exact op_lt pins s σ H _ _ v u Q I rx ry ⟨i, j, rfl, rfl, p.nowV S (.bl _)⟩
  · rw [hg] at eo
    split at eo
    · rename_i hz
      cases eo
      obtain ⟨h1, h2, h3, h4, h5⟩ := ltOk_all hz
      obtain ⟨as, q1⟩ := rep_reads I (r1.mono S.ex) h1 rx
      obtain ⟨bs, q2⟩ := rep_reads I (r2.mono S.ex) h2 ry
      exact W.lt_data q1 q2 h3 h4 (by omega) ⟨.bl _, H, I, rfl, p.nowV S (.bl _)⟩
    · cases eo
theorem ev2_le (d e : D) : (∃ i j, d = .int i ∧ e = .int j) ∨ ev2 .le d e = if ltOk d e then some (.val (.bool (!W.dataLt e d))) else none := by
  cases d <;> first
    | exact .inr rfl
    | (cases e <;> first | exact .inl ⟨_, _, rfl, rfl⟩ | exact .inr rfl)
theorem k_le (hu : X.A.units + 64 < cLine) : OpR X (compareOp .LtE) (R2e X.K cA Wx .le) := by
  intro pins s σ H x y v u Q I rx ry ⟨σ', F, Af, env, d, e, S, r1, r2, p⟩
  obtain ⟨o, eo, p⟩ := res2 p
  rcases ev2_le d e with ⟨i, j, rfl, rfl⟩ | hg
  · cases eo; cases r1.int_inv; cases r2.int_inv; exact op_le pins s σ H _ _ v u Q I rx ry ⟨i, j, rfl, rfl, p.nowV S (.bl _)⟩
  · rw [hg] at eo
    split at eo
    · rename_i hz
      cases eo
      obtain ⟨h1, h2, h3, h4, h5⟩ := ltOk_all hz
      obtain ⟨as, q1⟩ := rep_reads I (r1.mono S.ex) h1 rx
      obtain ⟨bs, q2⟩ := rep_reads I (r2.mono S.ex) h2 ry
      exact W.le_data q1 q2 h3 h4 (by omega) ⟨.bl _, H, I, rfl, p.nowV S (.bl _)⟩
    · cases eo
theorem ev2_gt (d e : D) : (∃ i j, d = .int i ∧ e = .int j) ∨ ev2 .gt d e = if ltOk d e then some (.val (.bool (W.dataLt e d))) else none := by
  cases d <;> first
    | exact .inr rfl
    | (cases e <;> first | exact .inl ⟨_, _, rfl, rfl⟩ | exact .inr rfl)
theorem k_gt (hu : X.A.units + 64 < cLine) : OpR X (compareOp .Gt) (R2e X.K cA Wx .gt) := by
  intro pins s σ H x y v u Q I rx ry ⟨σ', F, Af, env, d, e, S, r1, r2, p⟩
  obtain ⟨o, eo, p⟩ := res2 p
  rcases ev2_gt d e with ⟨i, j, rfl, rfl⟩ | hg
  · cases eo; cases r1.int_inv; cases r2.int_inv; exact op_gt pins s σ H _ _ v u Q I rx ry ⟨i, j, rfl, rfl, p.nowV S (.bl _)⟩
  · rw [hg] at eo
    split at eo
    · rename_i hz
      cases eo
      obtain ⟨h1, h2, h3, h4, h5⟩ := ltOk_all hz
      obtain ⟨as, q1⟩ := rep_reads I (r1.mono S.ex) h1 rx
      obtain ⟨bs, q2⟩ := rep_reads I (r2.mono S.ex) h2 ry
      exact W.gt_data q1 q2 h3 h4 (by omega) ⟨.bl _, H, I, rfl, p.nowV S (.bl _)⟩
    · cases eo
theorem ev2_ge (d e : D) : (∃ i j, d = .int i ∧ e = .int j) ∨ ev2 .ge d e = if ltOk d e then some (.val (.bool (!W.dataLt d e))) else none := by
  cases d <;> first
    | exact .inr rfl
    | (cases e <;> first | exact .inl ⟨_, _, rfl, rfl⟩ | exact .inr rfl)
theorem k_ge (hu : X.A.units + 64 < cLine) : OpR X (compareOp .GtE) (R2e X.K cA Wx .ge) := by
  intro pins s σ H x y v u Q I rx ry ⟨σ', F, Af, env, d, e, S, r1, r2, p⟩
  obtain ⟨o, eo, p⟩ := res2 p
  rcases ev2_ge d e with ⟨i, j, rfl, rfl⟩ | hg
  · cases eo; cases r1.int_inv; cases r2.int_inv; exact op_ge pins s σ H _ _ v u Q I rx ry ⟨i, j, rfl, rfl, p.nowV S (.bl _)⟩
  · rw [hg] at eo
    split at eo
    · rename_i hz
      cases eo
      obtain ⟨h1, h2, h3, h4, h5⟩ := ltOk_all hz
      obtain ⟨as, q1⟩ := rep_reads I (r1.mono S.ex) h1 rx
      obtain ⟨bs, q2⟩ := rep_reads I (r2.mono S.ex) h2 ry
      exact W.ge_data q1 q2 h3 h4 (by omega) ⟨.bl _, H, I, rfl, p.nowV S (.bl _)⟩
    · cases eo
theorem k_in (hu : X.A.units + 64 < cLine) : OpR X (compareOp .In) (R2e X.K cA Wx .inn) := by
  intro pins s σ H x y v u Q I rx ry ⟨σ', F, Af, env, d, e, S, r1, r2, p⟩
  obtain ⟨o, eo, pp⟩ := res2 p
  clear p
  simp only [ev2] at eo
  split at eo
  · rename_i xs he
    split at eo
    · rename_i hz
      cases eo
      simp only [Bool.and_eq_true, decide_eq_true_eq] at hz
      obtain ⟨as, q1⟩ := rep_reads I (r1.mono S.ex) hz.1.2 rx
      have hd : min (PyData.depthAll xs) d.depth ≤ 20 := Nat.le_trans (Nat.min_le_right _ _) hz.2
      cases e with
      | list es =>
        cases he
        obtain ⟨bs, q2⟩ := rep_reads I (r2.mono S.ex) (show (PyData.list xs).plain = true by rw [PyData.plain]; exact hz.1.1) ry
        exact SeqAt.in_list_data q2 q1 hz.1.1 hz.1.2 (by omega) ⟨.bl _, H, I, rfl, pp.nowV S (.bl _)⟩
      | tuple es =>
        cases he
        obtain ⟨bs, q2⟩ := rep_reads I (r2.mono S.ex) (show (PyData.tuple xs).plain = true by rw [PyData.plain]; exact hz.1.1) ry
        exact SeqAt.in_tuple_data q2 q1 hz.1.1 hz.1.2 (by omega) ⟨.bl _, H, I, rfl, pp.nowV S (.bl _)⟩
      | _ => cases he
    · cases eo
  · cases eo
theorem k_nin (hu : X.A.units + 64 < cLine) : OpR X (compareOp .NotIn) (R2e X.K cA Wx .nin) := by
  intro pins s σ H x y v u Q I rx ry ⟨σ', F, Af, env, d, e, S, r1, r2, p⟩
  obtain ⟨o, eo, pp⟩ := res2 p
  clear p
  simp only [ev2] at eo
  split at eo
  · rename_i xs he
    split at eo
    · rename_i hz
      cases eo
      simp only [Bool.and_eq_true, decide_eq_true_eq] at hz
      obtain ⟨as, q1⟩ := rep_reads I (r1.mono S.ex) hz.1.2 rx
      have hd : min (PyData.depthAll xs) d.depth ≤ 20 := Nat.le_trans (Nat.min_le_right _ _) hz.2
      cases e with
      | list es =>
        cases he
        obtain ⟨bs, q2⟩ := rep_reads I (r2.mono S.ex) (show (PyData.list xs).plain = true by rw [PyData.plain]; exact hz.1.1) ry
        exact SeqAt.notIn_list_data q2 q1 hz.1.1 hz.1.2 (by omega) ⟨.bl _, H, I, rfl, pp.nowV S (.bl _)⟩
      | tuple es =>
        cases he
        obtain ⟨bs, q2⟩ := rep_reads I (r2.mono S.ex) (show (PyData.tuple xs).plain = true by rw [PyData.plain]; exact hz.1.1) ry
        exact SeqAt.notIn_tuple_data q2 q1 hz.1.1 hz.1.2 (by omega) ⟨.bl _, H, I, rfl, pp.nowV S (.bl _)⟩
      | _ => cases he
    · cases eo
  · cases eo
theorem rep_isNone {K : PySem.W.Frag} {F : Hp} {x : V} {d : D} (r : Rep K F x d) : decide (x = .non) = isNone d := by cases r <;> simp [isNone]
theorem k_is : OpR X (compareOp .Is) (R2e X.K cA Wx .is) := by
  intro pins s σ H x y v u Q I rx ry ⟨σ', F, Af, env, d, e, S, r1, r2, p⟩
  obtain ⟨o, eo, p⟩ := res2 p
  cases e with
  | none =>
    cases r2.non_inv
    have eo' : o = .val (.bool (isNone d)) := by cases d <;> cases eo <;> rfl
    subst eo'
    exact op_isN pins s σ H _ _ v u Q I rx ry ⟨rfl, by rw [rep_isNone r1]; exact p.nowV S (.bl _)⟩
  | bool c =>
    cases r2.bl_inv
    cases ry
    cases d with
    | bool b =>
      cases eo; cases r1.bl_inv; cases rx
      exact wpAny_is_plain rfl ⟨.bl _, H, I, by cases b <;> cases c <;> rfl, p.nowV S (.bl _)⟩
    | none =>
      cases eo; cases r1.non_inv; cases rx
      exact wpAny_is_plain rfl ⟨.bl _, H, I, by cases c <;> rfl, p.nowV S (.bl _)⟩
    | _ => cases eo
  | _ => cases d <;> cases eo
theorem k_isnt : OpR X (compareOp .IsNot) (R2e X.K cA Wx .isnt) := by
  intro pins s σ H x y v u Q I rx ry ⟨σ', F, Af, env, d, e, S, r1, r2, p⟩
  obtain ⟨o, eo, p⟩ := res2 p
  cases e with
  | none =>
    cases r2.non_inv
    have eo' : o = .val (.bool (!isNone d)) := by cases d <;> cases eo <;> rfl
    subst eo'
    exact op_notN pins s σ H _ _ v u Q I rx ry ⟨rfl, by rw [rep_isNone r1]; exact p.nowV S (.bl _)⟩
  | bool c =>
    cases r2.bl_inv
    cases ry
    cases d with
    | bool b =>
      cases eo; cases r1.bl_inv; cases rx
      exact wpAny_isNot_plain rfl ⟨.bl _, H, I, by cases b <;> cases c <;> rfl, p.nowV S (.bl _)⟩
    | none =>
      cases eo; cases r1.non_inv; cases rx
      exact wpAny_isNot_plain rfl ⟨.bl _, H, I, by cases c <;> rfl, p.nowV S (.bl _)⟩
    | _ => cases eo
  | _ => cases d <;> cases eo
theorem repKV_look {K : PySem.W.Frag} {F : Hp} (z : Str) : ∀ {kvs : List (Key × V)} {ds : List (D × D)}, RepKV K F kvs ds → (lookD ds z = none ∧ valV kvs (.inr z) = none) ∨ ∃ v d, lookD ds z = some d ∧ valV kvs (.inr z) = some v ∧ Rep K F v d
  | _, _, .nil => .inl ⟨rfl, rfl⟩
  | (k, v) :: r, _, .cons (d := d) (s := s) h q => by
    have ih := repKV_look z q
    cases k with
    | inl i =>
      have e1 : lookD ((keyD (.inl i), d) :: s) z = lookD s z := rfl
      have e2 : valV ((Sum.inl i, v) :: r) (Sum.inr z : Key) = valV r (.inr z) := by
        unfold valV
        rw [List.find?_cons_of_neg (by simp)]
      rw [e1, e2]
      exact ih
    | inr x =>
      by_cases c : x = z
      · subst c
        refine .inr ⟨v, d, if_pos rfl, ?_, h⟩
        unfold valV
        rw [List.find?_cons_of_pos (by simp)]
        rfl
      · have e1 : lookD ((keyD (.inr x), d) :: s) z = lookD s z := if_neg c
        have e2 : valV ((Sum.inr x, v) :: r) (Sum.inr z : Key) = valV r (.inr z) := by
          unfold valV
          rw [List.find?_cons_of_neg (by simpa using c)]
        rw [e1, e2]
        exact ih
theorem look_get {K : PySem.W.Frag} {F H : Hp} {y : V} {kvs : List (D × D)} (r : Rep K F y (.dict kvs)) (ex : Ex F H) (z : Str) : ∃ a o, y = .ref a ∧ DGet H a (.str z) o ∧ ((lookD kvs z = none ∧ o = none) ∨ ∃ v d, lookD kvs z = some d ∧ o = some v ∧ Rep K F v d) := by
  cases r with
  | dK h q =>
    rename_i a ks
    refine ⟨a, valV ks (.inr z), rfl, .inl ⟨ks, .inr z, .inl (ex _ _ h), rfl, rfl⟩, ?_⟩
    exact repKV_look z q
theorem k_inD (hu : X.A.units + 64 < cLine) : OpR X (compareOp .In) (R2e X.K cA Wx .inD) := by
  intro pins s σ H x y v u Q I rx ry ⟨σ', F, Af, env, d, e, S, r1, r2, p⟩
  obtain ⟨o, eo, p⟩ := res2 p
  cases d with
  | str z => cases e with
    | dict kvs =>
      cases eo
      cases r1.str_inv
      obtain ⟨a, ov, rfl, g, hk⟩ := look_get r2 S.ex z
      cases ry
      refine d_in (by omega) I g rx fun s' I' => ⟨.bl ov.isSome, H, I', rfl, ?_⟩
      rcases hk with ⟨h1, rfl⟩ | ⟨w, dd, h1, rfl, _⟩
      · rw [h1] at p; exact p.nowV S (.bl _)
      · rw [h1] at p; exact p.nowV S (.bl _)
    | _ => cases eo
  | _ => cases e <;> cases eo
theorem k_ninD (hu : X.A.units + 64 < cLine) : OpR X (compareOp .NotIn) (R2e X.K cA Wx .ninD) := by
  intro pins s σ H x y v u Q I rx ry ⟨σ', F, Af, env, d, e, S, r1, r2, p⟩
  obtain ⟨o, eo, p⟩ := res2 p
  cases d with
  | str z => cases e with
    | dict kvs =>
      cases eo
      cases r1.str_inv
      obtain ⟨a, ov, rfl, g, hk⟩ := look_get r2 S.ex z
      cases ry
      refine d_notIn (by omega) I g rx fun s' I' => ⟨.bl (!ov.isSome), H, I', rfl, ?_⟩
      rcases hk with ⟨h1, rfl⟩ | ⟨w, dd, h1, rfl, _⟩
      · rw [h1] at p; exact p.nowV S (.bl _)
      · rw [h1] at p; exact p.nowV S (.bl _)
    | _ => cases eo
  | _ => cases e <;> cases eo
theorem k_op (hu : X.A.units + 64 < cLine) {o : Op2} {op : CmpOp} (h : cmpOf o = some op) : OpR X (compareOp op) (R2e X.K cA Wx o) := by
  cases o <;> cases h
  · exact k_eq hu
  · exact k_ne hu
  · exact k_lt hu
  · exact k_le hu
  · exact k_gt hu
  · exact k_ge hu
  · exact k_in hu
  · exact k_nin hu
  · exact k_is
  · exact k_isnt
  · exact k_inD hu
  · exact k_ninD hu

theorem atI_lt {α : Type} {xs : List α} {i : Int} {v : α} (h : atI xs i = some v) : ∃ j, ixN xs.length i = some j ∧ xs[j]? = some v := by
  unfold atI at h
  cases e : ixN xs.length i with
  | none => rw [e] at h; cases h
  | some j => rw [e] at h; exact ⟨j, rfl, h⟩
theorem RepAll.atI {K : PySem.W.Frag} {F : Hp} {vs : List V} {ds : List D} {i : Int} {d : D} (r : RepAll K F vs ds) (h : L2.atI ds i = some d) : ∃ v, L2.atI vs i = some v ∧ Rep K F v d := by
  obtain ⟨j, h1, h2⟩ := atI_lt h
  obtain ⟨v, h3, h4⟩ := r.at h2
  refine ⟨v, ?_, h4⟩
  unfold L2.atI
  rw [r.length, h1]; exact h3
theorem i_idx : IxR X (R2e X.K cA Wx .idx) := by
  intro value slice pins s σ H x y v u Q I rx ry ⟨σ', F, Af, env, d, e, S, r1, r2, p⟩ hs
  obtain ⟨o, eo, p⟩ := res2 p
  cases d with
  | list ds => cases e with
    | int i =>
      simp only [ev2, Option.map_eq_some_iff] at eo
      obtain ⟨z, ez, rfl⟩ := eo
      cases r2.int_inv
      obtain ⟨a, xs, rfl, h1, q1⟩ := r1.lst_inv
      obtain ⟨w, hw, rw'⟩ := q1.atI ez
      exact ix_seq value slice pins s σ H _ _ v u Q I rx ry (.inl ⟨a, xs, i, w, rfl, rfl, SqL.of (S.ex _ _ h1), hw, p.nowV S rw'⟩) hs
    | _ => cases eo
  | tuple ds => cases e with
    | int i =>
      simp only [ev2, Option.map_eq_some_iff] at eo
      obtain ⟨z, ez, rfl⟩ := eo
      cases r2.int_inv
      obtain ⟨a, xs, rfl, h1, q1⟩ := r1.tup_inv
      obtain ⟨w, hw, rw'⟩ := q1.atI ez
      exact ix_seq value slice pins s σ H _ _ v u Q I rx ry (.inr (.inl ⟨a, xs, i, w, rfl, rfl, ex_t S.ex h1, hw, p.nowV S rw'⟩)) hs
    | _ => cases eo
  | _ => cases e <;> cases eo
theorem c_min2 (hc : X.calm = true) : CallR X (.builtin "min") (R2c X.K cA Wx .min2) := by
  intro pins s σ H xs us Q I rv ⟨x, y, ex, σ', F, Af, env, d, e, S, r1, r2, p⟩
  subst ex
  obtain ⟨o, eo, p⟩ := res2 p
  cases d with
  | int i => cases e with
    | int j => cases eo; cases r1.int_inv; cases r2.int_inv; exact call_min2 hc pins s σ H _ us Q I rv ⟨i, j, rfl, p.nowV S (.int _)⟩
    | _ => cases eo
  | _ => cases e <;> cases eo
theorem c_max2 (hc : X.calm = true) : CallR X (.builtin "max") (R2c X.K cA Wx .max2) := by
  intro pins s σ H xs us Q I rv ⟨x, y, ex, σ', F, Af, env, d, e, S, r1, r2, p⟩
  subst ex
  obtain ⟨o, eo, p⟩ := res2 p
  cases d with
  | int i => cases e with
    | int j => cases eo; cases r1.int_inv; cases r2.int_inv; exact call_max2 hc pins s σ H _ us Q I rv ⟨i, j, rfl, p.nowV S (.int _)⟩
    | _ => cases eo
  | _ => cases e <;> cases eo
end
end Ev

end
section
set_option autoImplicit false
set_option linter.all false
set_option maxRecDepth 100000
set_option maxHeartbeats 4000000
/-! set(a list of ints), sorted. -/
namespace Ev
open PySem PySem.Spec PyProof.Rows L2
section
variable {P : Program} {w : World} {A : Around} {E : Value → Shared → Prop} {s : Shared}
set_option maxRecDepth 100000 in
set_option maxHeartbeats 3200000 in
theorem call_set_listI {l : Addr} {items : Array Value} (ns : List Int) {Q : Value → Shared → Prop} (hh : A.handled = none) (hl : s.heap.IsList l items) (hit : IntsAre items.toList ns) (hb : ns.length + 1 < scanBound)
    (h : ∀ (h' : Heap) (tk c : Nat), SetR w h' s.heap.objs.size (fun j => decide (j ∈ ns)) c → c ≤ ns.length → (∀ b o, s.heap.get? b = some o → h'.get? b = some o) → Q (.ref s.heap.objs.size) { s with heap := h', toks := tk }) :
    wpAny (model P w) A (call (.type "set") [.ref l]) Q E s := by
  have hisz : items.size = ns.length := by
    have q := IntsAre.length hit
    rw [Array.length_toList] at q
    exact q
  obtain ⟨c, tl, hmro⟩ := F.called_set.mro
  have hmade := F.called_set.made
  have hsub := F.called_set.sub
  refine wpAny_call (codeAny_of_tree ?_)
  show wpAny _ _ (callAny (.type "set") _) _ _ _
  refine wpAny_pure ⟨Code.quiet_builtin _ (by decide +kernel), codeAny_builtin F.entry_type_call ?_⟩
  rw [Around.under_plain (weight_type_call_type "set" [.ref l] []) rfl]
  have h1 := F.called_set.notType
  have h2 := F.called_set.canCreate
  have hct := F.typeCall_set_1 (.ref l)
  repeat (any_goals (first | assumption | wp_step))

  refine codeAny_mono (code_set_led1 (.ref l) (E := E) (Q₁ := fun obj s₁ => obj = .ref s.heap.objs.size ∧ s₁ = { s with heap := s.heap.push { cls := .type "set", dict := none, data := .set #[] 0 (.fresh 0 0 (!w.params.followText "set-order")) } }) ⟨rfl, rfl⟩) fun r s₁ hr => ?_
  cases r with
  | error e => exact hr
  | ok fl =>
    cases fl with
    | ret obj =>
      obtain ⟨rfl, rfl⟩ := hr
      have hS : (s.heap.push { cls := .type "set", dict := none, data := .set #[] 0 (.fresh 0 0 (!w.params.followText "set-order")) }).get? s.heap.objs.size = some { cls := .type "set", dict := none, data := .set #[] 0 (.fresh 0 0 (!w.params.followText "set-order")) } := Heap.get?_push_size _ rfl
      have hT : Shared.TypeIs { s with heap := s.heap.push { cls := .type "set", dict := none, data := .set #[] 0 (.fresh 0 0 (!w.params.followText "set-order")) } } (.ref s.heap.objs.size) "set" := ⟨_, hS, rfl⟩
      have hli := F.called_set.init.lookup
      have hbi := F.called_set.init.bind (.ref s.heap.objs.size)
      repeat (any_goals (first | assumption | wp_step))

      refine codeAny_mono (codeAny_call_builtin (R := wants (fun r s₂ => r = .none ∧ ∃ h' tk c, s₂ = { s with heap := h', toks := tk } ∧ SetR w h' s.heap.objs.size (fun j => decide (j ∈ ns)) c ∧ c ≤ ns.length ∧
          (∀ b o, s.heap.get? b = some o → h'.get? b = some o)) E) F.called_set.init.plain F.entry_set_init (check_set_init_1 hT ?_)) fun r₂ s₂ hr₂ => ?_
      · obtain ⟨ol, hol, hcl, nl, hdl⟩ := hl
        obtain ⟨ocls, odict, odata, oslots⟩ := ol
        simp only at hcl hdl
        subst hcl; subst hdl
        have hol' : (s.heap.push { cls := .type "set", dict := none, data := .set #[] 0 (.fresh 0 0 (!w.params.followText "set-order")) }).get? l = some { cls := .type "list", dict := odict, data := .seq items nl, slots := oslots } := Heap.get?_push_of_some _ hol
        have hsls := F.sub_list_set
        have hslf := F.sub_list_frozenset
        have hne : (Value.type "list" == Value.type "dict") = false := by decide
        have hl1 : (s.heap.push { cls := .type "set", dict := none, data := .set #[] 0 (.fresh 0 0 (!w.params.followText "set-order")) }).IsList l items := ⟨_, hol', rfl, nl, rfl⟩
        unfold Builtin.«set.__init__» noKeywords Builtin.Frozenset.updateFrom
        generalize hPI : pyIter = PI
        wp_walk
        subst hPI

        refine wpAny_pyIter_list hl1 ?_
        refine wpAny_bind (wpAny_runValue ?_)
        have hlS : l < s.heap.objs.size := Heap.lt_size hol
        have hh3 : A.in1.in1.in1.handled = none := by simp [hh]
        have hz1 : (s.heap.push { cls := .type "set", dict := none, data := .set #[] 0 (.fresh 0 0 (!w.params.followText "set-order")) }).objs.size = s.heap.objs.size + 1 := Heap.size_push ..
        have hneI : l ≠ (s.heap.push { cls := .type "set", dict := none, data := .set #[] 0 (.fresh 0 0 (!w.params.followText "set-order")) }).objs.size := by
          rw [Heap.size_push]; exact Nat.ne_of_lt (Nat.lt_succ_of_lt hlS)
        have hSf : s.heap.objs.size ∉ [(s.heap.push { cls := .type "set", dict := none, data := .set #[] 0 (.fresh 0 0 (!w.params.followText "set-order")) }).objs.size, l] := by
          rw [Heap.size_push]; simp only [List.mem_cons, List.mem_singleton, List.not_mem_nil, or_false, not_or]
          exact ⟨Nat.ne_of_lt (Nat.lt_succ_self _), Nat.ne_of_gt hlS⟩
        have hval : ∀ (i : Nat) (v : Value), items[i]? = some v → ∃ k t, ns[i]? = some k ∧ v = .int k t := fun i v hv => by
          have hi : i < ns.length := by rw [← hisz]; exact (Array.getElem?_eq_some_iff.mp hv).1
          obtain ⟨t, e⟩ := PyProof.Rows.IntsAre.int_at hit i v (by rw [Array.getElem?_toList]; exact hv)
          refine ⟨ns[i], t, List.getElem?_eq_getElem hi, ?_⟩
          rw [e, List.getD_eq_getElem?_getD, List.getElem?_eq_getElem hi] <;> rfl
        refine set_update_ints ((Walks.list hh3 _ l hneI items).toS) s.heap.objs.size
          hSf ns hisz hb hval (items.size - 0) 0 _ (by omega) (Nat.zero_le _)
          ⟨⟨_, Heap.get?_push_size _ rfl, rfl, rfl⟩, (hl1.push _)⟩ ?hS0 ?hR
        case hS0 =>
          have hget : ((s.heap.push { cls := .type "set", dict := none, data := .set #[] 0 (.fresh 0 0 (!w.params.followText "set-order")) }).push { cls := .type "list_iterator", data := .fields #[.ref l, .int 0 0] }).get? s.heap.objs.size
              = some { cls := .type "set", dict := none, data := .set #[] 0 (.fresh 0 0 (!w.params.followText "set-order")) } := Heap.get?_push_of_some _ hS
          exact ⟨0, Nat.le_refl 0, setR_new_at hget⟩
        case hR =>
          intro s' c' hm hc' hS'
          obtain ⟨h', g2, d', tk', os'⟩ := s'
          have eg : g2 = s.gens := hm.gens
          have ed : d' = s.drawn := hm.drawn
          have eo : os' = s.os := hm.os
          subst eg; subst ed; subst eo
          show wpAny _ _ _ _ _ _
          refine wpAny_pure ?_
          show wpAny _ _ (ret Value.none) _ _ _
          rw [hisz] at hc'
          refine wpAny_pure ⟨rfl, h', tk', c', rfl, hS', hc', fun b o e => ?_⟩
          have hb0 : b < s.heap.objs.size := Heap.lt_size e
          have hb1 : b ≠ s.heap.objs.size := Nat.ne_of_lt hb0
          have hb2 : b ≠ (s.heap.push { cls := .type "set", dict := none, data := .set #[] 0 (.fresh 0 0 (!w.params.followText "set-order")) }).objs.size := by
            rw [Heap.size_push]; exact Nat.ne_of_lt (Nat.lt_succ_of_lt hb0)
          exact hm.heap b o (by simp only [List.mem_cons, List.mem_singleton, List.not_mem_nil, or_false, not_or]; exact ⟨hb1, hb2⟩) (Heap.get?_push_of_some _ (Heap.get?_push_of_some _ e))

      · cases r₂ with
        | error e => exact hr₂
        | ok fl₂ =>
          cases fl₂ with
          | ret r =>
            obtain ⟨rfl, h', tk, c', rfl, hS', hc', hk'⟩ := hr₂
            repeat (any_goals (first | assumption | wp_step))
            exact h _ _ _ hS' hc' hk'
          | _ => exact hr₂.elim
    | _ => exact hr.elim

set_option maxRecDepth 100000 in
set_option maxHeartbeats 3200000 in
theorem call_set_tupI {l : Addr} {items : Array Value} (ns : List Int) {Q : Value → Shared → Prop} (hh : A.handled = none) (hl : s.heap.IsTuple l items) (hit : IntsAre items.toList ns) (hb : ns.length + 1 < scanBound)
    (h : ∀ (h' : Heap) (tk c : Nat), SetR w h' s.heap.objs.size (fun j => decide (j ∈ ns)) c → c ≤ ns.length → (∀ b o, s.heap.get? b = some o → h'.get? b = some o) → Q (.ref s.heap.objs.size) { s with heap := h', toks := tk }) :
    wpAny (model P w) A (call (.type "set") [.ref l]) Q E s := by
  have hisz : items.size = ns.length := by
    have q := IntsAre.length hit
    rw [Array.length_toList] at q
    exact q
  obtain ⟨c, tl, hmro⟩ := F.called_set.mro
  have hmade := F.called_set.made
  have hsub := F.called_set.sub
  refine wpAny_call (codeAny_of_tree ?_)
  show wpAny _ _ (callAny (.type "set") _) _ _ _
  refine wpAny_pure ⟨Code.quiet_builtin _ (by decide +kernel), codeAny_builtin F.entry_type_call ?_⟩
  rw [Around.under_plain (weight_type_call_type "set" [.ref l] []) rfl]
  have h1 := F.called_set.notType
  have h2 := F.called_set.canCreate
  have hct := F.typeCall_set_1 (.ref l)
  repeat (any_goals (first | assumption | wp_step))

  refine codeAny_mono (code_set_led1 (.ref l) (E := E) (Q₁ := fun obj s₁ => obj = .ref s.heap.objs.size ∧ s₁ = { s with heap := s.heap.push { cls := .type "set", dict := none, data := .set #[] 0 (.fresh 0 0 (!w.params.followText "set-order")) } }) ⟨rfl, rfl⟩) fun r s₁ hr => ?_
  cases r with
  | error e => exact hr
  | ok fl =>
    cases fl with
    | ret obj =>
      obtain ⟨rfl, rfl⟩ := hr
      have hS : (s.heap.push { cls := .type "set", dict := none, data := .set #[] 0 (.fresh 0 0 (!w.params.followText "set-order")) }).get? s.heap.objs.size = some { cls := .type "set", dict := none, data := .set #[] 0 (.fresh 0 0 (!w.params.followText "set-order")) } := Heap.get?_push_size _ rfl
      have hT : Shared.TypeIs { s with heap := s.heap.push { cls := .type "set", dict := none, data := .set #[] 0 (.fresh 0 0 (!w.params.followText "set-order")) } } (.ref s.heap.objs.size) "set" := ⟨_, hS, rfl⟩
      have hli := F.called_set.init.lookup
      have hbi := F.called_set.init.bind (.ref s.heap.objs.size)
      repeat (any_goals (first | assumption | wp_step))

      refine codeAny_mono (codeAny_call_builtin (R := wants (fun r s₂ => r = .none ∧ ∃ h' tk c, s₂ = { s with heap := h', toks := tk } ∧ SetR w h' s.heap.objs.size (fun j => decide (j ∈ ns)) c ∧ c ≤ ns.length ∧
          (∀ b o, s.heap.get? b = some o → h'.get? b = some o)) E) F.called_set.init.plain F.entry_set_init (check_set_init_1 hT ?_)) fun r₂ s₂ hr₂ => ?_
      · obtain ⟨ol, hol, hcl, nl, hdl⟩ := hl
        obtain ⟨ocls, odict, odata, oslots⟩ := ol
        simp only at hcl hdl
        subst hcl; subst hdl
        have hol' : (s.heap.push { cls := .type "set", dict := none, data := .set #[] 0 (.fresh 0 0 (!w.params.followText "set-order")) }).get? l = some { cls := .type "tuple", dict := odict, data := .seq items nl, slots := oslots } := Heap.get?_push_of_some _ hol
        have hsls := F.sub_tuple_set
        have hslf := F.sub_tuple_frozenset
        have hne : (Value.type "tuple" == Value.type "dict") = false := by decide
        have hl1 : (s.heap.push { cls := .type "set", dict := none, data := .set #[] 0 (.fresh 0 0 (!w.params.followText "set-order")) }).IsTuple l items := ⟨_, hol', rfl, nl, rfl⟩
        unfold Builtin.«set.__init__» noKeywords Builtin.Frozenset.updateFrom
        generalize hPI : pyIter = PI
        wp_walk
        subst hPI

        refine wpAny_pyIter_tuple hl1 ?_
        refine wpAny_bind (wpAny_runValue ?_)
        have hlS : l < s.heap.objs.size := Heap.lt_size hol
        have hh3 : A.in1.in1.in1.handled = none := by simp [hh]
        have hz1 : (s.heap.push { cls := .type "set", dict := none, data := .set #[] 0 (.fresh 0 0 (!w.params.followText "set-order")) }).objs.size = s.heap.objs.size + 1 := Heap.size_push ..
        have hneI : l ≠ (s.heap.push { cls := .type "set", dict := none, data := .set #[] 0 (.fresh 0 0 (!w.params.followText "set-order")) }).objs.size := by
          rw [Heap.size_push]; exact Nat.ne_of_lt (Nat.lt_succ_of_lt hlS)
        have hSf : s.heap.objs.size ∉ [(s.heap.push { cls := .type "set", dict := none, data := .set #[] 0 (.fresh 0 0 (!w.params.followText "set-order")) }).objs.size, l] := by
          rw [Heap.size_push]; simp only [List.mem_cons, List.mem_singleton, List.not_mem_nil, or_false, not_or]
          exact ⟨Nat.ne_of_lt (Nat.lt_succ_self _), Nat.ne_of_gt hlS⟩
        have hval : ∀ (i : Nat) (v : Value), items[i]? = some v → ∃ k t, ns[i]? = some k ∧ v = .int k t := fun i v hv => by
          have hi : i < ns.length := by rw [← hisz]; exact (Array.getElem?_eq_some_iff.mp hv).1
          obtain ⟨t, e⟩ := PyProof.Rows.IntsAre.int_at hit i v (by rw [Array.getElem?_toList]; exact hv)
          refine ⟨ns[i], t, List.getElem?_eq_getElem hi, ?_⟩
          rw [e, List.getD_eq_getElem?_getD, List.getElem?_eq_getElem hi] <;> rfl
        refine set_update_ints ((Walks.tuple hh3 _ l hneI items).toS) s.heap.objs.size
          hSf ns hisz hb hval (items.size - 0) 0 _ (by omega) (Nat.zero_le _)
          ⟨⟨_, Heap.get?_push_size _ rfl, rfl, rfl⟩, (hl1.push _)⟩ ?hS0 ?hR
        case hS0 =>
          have hget : ((s.heap.push { cls := .type "set", dict := none, data := .set #[] 0 (.fresh 0 0 (!w.params.followText "set-order")) }).push { cls := .type "tuple_iterator", data := .fields #[.ref l, .int 0 0] }).get? s.heap.objs.size
              = some { cls := .type "set", dict := none, data := .set #[] 0 (.fresh 0 0 (!w.params.followText "set-order")) } := Heap.get?_push_of_some _ hS
          exact ⟨0, Nat.le_refl 0, setR_new_at hget⟩
        case hR =>
          intro s' c' hm hc' hS'
          obtain ⟨h', g2, d', tk', os'⟩ := s'
          have eg : g2 = s.gens := hm.gens
          have ed : d' = s.drawn := hm.drawn
          have eo : os' = s.os := hm.os
          subst eg; subst ed; subst eo
          show wpAny _ _ _ _ _ _
          refine wpAny_pure ?_
          show wpAny _ _ (ret Value.none) _ _ _
          rw [hisz] at hc'
          refine wpAny_pure ⟨rfl, h', tk', c', rfl, hS', hc', fun b o e => ?_⟩
          have hb0 : b < s.heap.objs.size := Heap.lt_size e
          have hb1 : b ≠ s.heap.objs.size := Nat.ne_of_lt hb0
          have hb2 : b ≠ (s.heap.push { cls := .type "set", dict := none, data := .set #[] 0 (.fresh 0 0 (!w.params.followText "set-order")) }).objs.size := by
            rw [Heap.size_push]; exact Nat.ne_of_lt (Nat.lt_succ_of_lt hb0)
          exact hm.heap b o (by simp only [List.mem_cons, List.mem_singleton, List.not_mem_nil, or_false, not_or]; exact ⟨hb1, hb2⟩) (Heap.get?_push_of_some _ (Heap.get?_push_of_some _ e))

      · cases r₂ with
        | error e => exact hr₂
        | ok fl₂ =>
          cases fl₂ with
          | ret r =>
            obtain ⟨rfl, h', tk, c', rfl, hS', hc', hk'⟩ := hr₂
            repeat (any_goals (first | assumption | wp_step))
            exact h _ _ _ hS' hc' hk'
          | _ => exact hr₂.elim
    | _ => exact hr.elim

end
end Ev

end
section
set_option autoImplicit false
set_option linter.all false
set_option maxRecDepth 100000
/-! A def that is called while an error is handled; one that is asked about the error that a clause has caught: return [isinstance(e, A), ..]. -/
namespace Ev
open PySem PySem.Spec L2 L2H PyProof.Rows
/-- what a def promises while the error p is handled -/
structure HotFn (P : Program) (w : World) (K : PySem.W.Frag) (mg : Str → Option Value) (base : Heap) (Y : CXT) (p : Addr × Obj) (k : Nat) (f : Addr) (fd : FuncData) (ps : List Str) (sp : Sp) : Prop where
  ar : ∀ vs H Q E, sp vs H Q E → vs.length = ps.length
  go : ∀ (A : Around) (up : List PySem.Env) (s : Shared) (H : Hp) (gs : Args) (us : List Value) (vs : List V) (Q : VK) (E : XK),
    RoomH k A → Hot1 A p → PinOk up H s p → Env0 P w K mg base A up s H → BindsTo s fd gs (ps.zip us) → Vals vs us → sp vs H Q E →
    codeAny (model P w) A (.call (.ref f) gs) (CR Y up P w H s Q E) s
section
variable {P : Program} {w : World} {K : PySem.W.Frag} {mg : Str → Option Value} {base : Heap} {Y : CXT} {p : Addr × Obj} {k : Nat} {f : Addr} {fd : FuncData} {ps N : List Str} {sp : Sp} {y qual : Str} {params : Arguments} {body : List Stmt} {scope : Scope} {dvs : List V} {kws : List (Str × V)}
theorem hotFn_of (D : L2.FunD K y qual params body scope dvs kws f fd) (S : FnScope N ps scope) (ar : ∀ vs H Q E, sp vs H Q E → vs.length = ps.length)
    (hbd : ∀ (cdv : Value) (A : Around) (up : List PySem.Env) (s : Shared) (H : Hp) (vs : List V) (Q : VK) (E : XK), Hot1 A p → sp vs H Q E →
      ∃ t, PSs (cxH Y P w K mg base N qual scope f cdv A up s H E p) body t ∧ t { nx := fun _ H2 => Q .non H2, rt := Q } (L2.start N vs) H) :
    HotFn P w K mg base Y p (k + 1) f fd ps sp := by
  obtain ⟨oc, od, dV, kV, doc, pm, an, cdv, ct, osl, rfl, lk, hcd, _, _⟩ := D.ex
  refine ⟨ar, fun A up s H gs us vs Q E rm ht pk z0 hbi rv hs => ?_⟩
  have hl := ar _ _ _ _ hs
  have KH : K.In s.heap := z0.mod.kin.keeps fun b o z => (z0.bs b o z).1
  have NL : s.heap.NoLimit := z0.mod.nolimit.keeps fun b o z => (z0.bs b o z).1
  have hk : ∀ q ∈ ps.zip us, scope.names.lookup q.1 = some .local ∨ (scope.names.lookup q.1 = some .cell ∧ ((cellsFrom (s.heap.objs.size + 1) scope.names []).lookup q.1).isSome = true) := by
    rintro ⟨n, v⟩ hq
    rcases S.par n (List.of_mem_zip hq).1 with g | g
    · exact .inl g
    · exact .inr ⟨g, PySem.W.cellsFrom_some _ _ _ (.inl g)⟩
  refine codeAny_call_function rm.depth (KH _ _ lk) rfl S.co S.gen rfl (PySem.W.codeRec_of KH hcd) (hbi _ _ _ _ ?_)
  refine wpAny_newFunctionEnv_cells S.kind hk fun env ee s1 hx => ?_
  cases ee
  refine ⟨NL.keeps hx.toInCall.keep, codeAny_func ?_⟩
  obtain ⟨t, h1, h2⟩ := hbd cdv A up s H vs Q E ht hs
  have J0 := inv_startH (CX := Y) (P := P) (w := w) (E := E) S pk z0 hl rv hx
  refine wpAny_mono (h1.run [] s1 (L2.start N vs) H _ J0 h2) (fun fl s2 hend => ?_) fun _ _ z => z
  cases fl with
  | ret u =>
    obtain ⟨v, _, H2, J, r, q⟩ := hend
    exact ⟨v, H2, J.os, J.bare, J.base, J.hok, r, q⟩
  | next =>
    obtain ⟨_, H2, J, q⟩ := hend
    exact ⟨V.non, H2, J.os, J.bare, J.base, J.hok, rfl, q⟩
  | brk => obtain ⟨_, _, _, z⟩ := hend; exact z.elim
  | cont => obtain ⟨_, _, _, z⟩ := hend; exact z.elim
end
section
variable {X : Cx} {Y : CXT} {k : Nat} {f : Addr} {fd : FuncData} {ps : List Str} {sp : Sp} {E : L2.St → XK} {x : Str} {q pos : Pos} {e : Expr} {es : List Expr} {t : TA} {p : Addr × Obj}
/-- such a def is called -/
theorem pe_hot (F : HotFn X.prog X.w X.K X.mg X.base Y p k f fd ps sp) (rm : RoomH k X.A) (ht : Hot1 X.A p) (hp : p ∈ X.pn) (hg : Gl X x) (hm : X.mg x = some (.ref f)) (hk : PySem.W.keepIn X.K (.ref f) = true) (hb : Binds X.K fd ps []) (hx : ∀ σ, PassesAt Y X σ (E σ))
    (ha : PA X (e :: es) t) (hd : (x == ("__debug__" : Str)) = false) (he : starEach (e :: es) X.env = (false, eval e X.env) :: starEach es X.env) (hl : (backTo pos (starEach es X.env)).any (·.1) = false) :
    PE X (.Call (.Name x q) (e :: es) [] pos) (tCallS sp E t) := by
  refine ⟨fun pins s σ H Q I h => wpAny_Call_Name_kw (ld_glob I hg hm ?_ hd)⟩
  refine PySem.W.callWith_K (h₀ := X.base) I.ok.mod.kin hk (thn (ha.run pos pins s σ H _ I h) fun us s1 ⟨vs, H1, I1, r, h2⟩ => ⟨I1.kIn, ?_⟩) he hl
  have hlen : us.length = ps.length := by rw [← r.length]; exact F.ar _ _ _ _ h2
  have b := hb s1 us I1.kIn (by rw [List.append_nil]; exact hlen)
  rw [List.append_nil] at b
  have P1 := I1.pin p (List.mem_append_left _ hp)
  have pk : PinOk X.stack H1 s1 p := ⟨P1.1, P1.2.1, fun hm => (List.mem_cons.mp (I1.stkSub p.1 hm)).elim P1.2.2.1 P1.2.2.2.1, P1.2.2.2.2⟩
  refine wpAny_call (codeAny_mono (F.go X.A X.stack s1 H1 ⟨us, []⟩ us vs Q (E σ) rm ht pk I1.env0 b r h2) fun g s2 hq => ?_)
  cases g with
  | error z => exact hx σ pins H1 s1 z s2 I1 hq
  | ok fl =>
    cases fl with
    | ret u => exact I1.after hq
    | next => exact hq.elim
    | brk => exact hq.elim
    | cont => exact hq.elim
/-- isinstance of the error -/
theorem call_isP {D : Addr} (hp : p ∈ X.pn) (EC : L2.ExcC X.K D) (hc : p.2.cls = .ref D) (hn : p.2.dict = none) (hf : ∃ vs, p.2.data = .fields vs) : CallR X (.builtin "isinstance") (L2.rIsE X.K D p.1) := by
  intro pins s σ H xs us Q I r h
  obtain ⟨c, cv, b, rfl, hcv, z, q⟩ := h
  cases r with
  | cons r1 r2 =>
    cases r2 with
    | cons r3 r4 =>
      cases r4
      cases r1
      cases hcv _ r3
      have hg := (I.pin p (List.mem_append_left _ hp)).1
      obtain ⟨vs, hv⟩ := hf
      have J : PySem.W.InstAt s.heap p.1 p.2 D none := by
        obtain ⟨pa, oc, od, oda, osl⟩ := p
        dsimp only at hc hn hv hg ⊢
        subst hc hn hv
        exact ⟨hg, rfl, rfl, trivial⟩
      exact PySem.W.kia_one (PySem.W.handS_kitx_exc EC.hg EC.hk EC.hs EC.hd EC.ha EC.hn EC.ht EC.hm) I.kIn J z (fun w => nomatch w) fun tk => ⟨.bl b, H, I.kept (t' := tk) fun _ _ w => w, rfl, q⟩
end

def spFlg (a : Addr) (bs : List Bool) : Sp := fun vs H Q _ => vs = [V.ref a] ∧ ∀ q, H q = none → Q (.ref q) (upd H q (.lst (bs.map V.bl)))
end Ev

end
section
set_option autoImplicit false
set_option linter.all false
/-! Whether a term of the evaluator says what a piece of the text says. -/
namespace Ev
open PySem L2

structure Names where
  fn : List Str
  cn : List Str
  ex : List Str
  bl : List Str
  fl : List Str
  rp : Bool
  gd : List Str

def visB (sc : Scope) (x : Str) : Bool := match sc.names.lookup x with | some .local => true | some .cell => true | some .free => true | _ => false
def locB (sc : Scope) (x : Str) : Bool := match sc.names.lookup x with | some .local => true | some .cell => true | _ => false
def gloB (sc : Scope) (x : Str) : Bool := match sc.names.lookup x with | some .globalImplicit => true | _ => false
def okN (x : Str) : Bool := !(x == ("__debug__" : Str)) && !(x == ("__classdict__" : Str)) && !(x == ("__name__" : Str))
/-- x is the built-in s -/
def isBl (nm : Names) (sc : Scope) (x s : Str) : Bool := decide (x = s) && (gloB sc x && decide (x ∈ nm.bl))
def isGl (nm : List Str) (sc : Scope) (i : Nat) (x : Str) : Bool := okN x && (gloB sc x && decide (nm[i]? = some x))
def isVr (N : List Str) (sc : Scope) (i : Nat) (x : Str) : Bool := okN x && (visB sc x && decide (N[i]? = some x))
def isLc (N : List Str) (sc : Scope) (i : Nat) (x : Str) : Bool := locB sc x && decide (N[i]? = some x)

/-- built-ins of one argument, by name -/
def name1 : Op1 → Option Str
  | .len => some "len" | .all => some "all" | .any => some "any" | .sum => some "sum" | .abs => some "abs" | .int => some "int"
  | .list => some "list" | .tuple => some "tuple" | .sorted => some "sorted" | .min => some "min" | .max => some "max"
  | _ => none
/-- a display of texts and whole numbers -/
def chkKV : List (Str × Int) → List (Option Expr) → List Expr → Bool
  | [], [], [] => true
  | (k, i) :: r, some (.Constant (.str k') _ _) :: ks, .Constant (.int i') _ _ :: vs => decide (k = k') && (decide (i = i') && chkKV r ks vs)
  | _, _, _ => false
def noSl (c : Expr) : Bool := match c with | .Slice _ _ _ _ => false | _ => true
def name2 : Op2 → Option Str
  | .min2 => some "min" | .max2 => some "max"
  | _ => none
def noStar : Expr → Bool
  | .Starred _ _ => false
  | _ => true

/-! a name, or names in a pair of round brackets -/
mutual
def chkT (N : List Str) (sc : Scope) : Tgt → Expr → Bool
  | .nm i, a => match a with
    | .Name x _ => isLc N sc i x
    | _ => false
  | .tup ts, a => match a with
    | .Tuple as _ _ => chkTs N sc ts as
    | _ => false
def chkTs (N : List Str) (sc : Scope) : List Tgt → List Expr → Bool
  | [], [] => true
  | t :: ts, a :: as => chkT N sc t a && chkTs N sc ts as
  | _, _ => false
end
def ownOf (N : List Str) (t : Tgt) : List (Str × Nat) := (tslots t).map fun i => (N.getD i "", i)

section
variable (nm : Names) (N : List Str) (chk : Scope → E → Expr → Bool)
def chkL (sc : Scope) : List E → List Expr → Bool
  | [], [] => true
  | .star e :: es, a :: as => (match a with | .Starred b _ => chk sc e b | _ => false) && chkL sc es as
  | e :: es, a :: as => noStar a && (chk sc e a && chkL sc es as)
  | _, _ => false
def chkA (sc : Scope) : List E → List Expr → Bool
  | [], [] => true
  | .lend i :: es, a :: as => (match a with | .Name x _ => isVr N sc i x | _ => false) && chkA sc es as
  | e :: es, a :: as => noStar a && (chk sc e a && chkA sc es as)
  | _, _ => false
def chkI (sc : Scope) : I → Expr → Bool
  | .scr i, a => match a with
    | .Name x _ => isVr N sc i x
    | _ => false
  | .range e, a => match a with
    | .Call (.Name f _) [b] [] _ => isBl nm sc f "range" && (noStar b && chk sc e b)
    | _ => false
  | .range2 e g, a => match a with
    | .Call (.Name f _) [b, c] [] _ => isBl nm sc f "range" && (noStar b && (noStar c && (chk sc e b && chk sc g c)))
    | _ => false
  | .range3 e g c, a => match a with
    | .Call (.Name f _) [b, d, .Constant (.int c') _ _] [] _ => isBl nm sc f "range" && (decide (c = c') && (noStar b && (noStar d && (chk sc e b && chk sc g d))))
    | _ => false
  | .rangeE e g k, a => match a with
    | .Call (.Name f _) [b, c, d] [] _ => isBl nm sc f "range" && (noStar b && (noStar c && (noStar d && (chk sc e b && (chk sc g c && chk sc k d)))))
    | _ => false
  | .zip e g, a => match a with
    | .Call (.Name f _) [b, c] [] _ => isBl nm sc f "zip" && (noStar b && (noStar c && (chk sc e b && chk sc g c)))
    | _ => false
  | .enum e, a => match a with
    | .Call (.Name f _) [b] [] _ => isBl nm sc f "enumerate" && (noStar b && chk sc e b)
    | _ => false
  | .seq e, a => noStar a && chk sc e a
  | _, _ => false
def chkO (sc : Scope) : Option E → Option Expr → Bool
  | none, none => true
  | some e, some a => noStar a && chk sc e a
  | _, _ => false
/-- the scope of a comprehension's block, as it runs -/
abbrev blkSc (scope sc : Scope) : Scope := relS scope sc
def isTup : Tgt → Bool
  | .tup _ => true
  | _ => false
def needsTup : I → Bool
  | .zip _ _ => true
  | .enum _ => true
  | .items _ => true
  | _ => false
def plainIt : Expr → Bool
  | .Set _ _ _ => false
  | _ => true
def chkFs (fn : List Str) (sc : Scope) : List Nat → List Expr → Bool
  | [], [] => true
  | f :: fs, .Name x _ :: r => isGl fn sc f x && chkFs fn sc fs r
  | _, _ => false
def chkE1 (sc : Scope) (e : E) (a : Expr) : Bool :=
  match e with
  | .none => (match a with | .Constant .none _ _ => true | _ => false)
  | .bl b => (match a with | .Constant (.bool c) _ _ => b == c | _ => false)
  | .int i => (match a with | .Constant (.int j) _ _ => decide (i = j) | _ => false)
  | .str s => (match a with | .Constant (.str t) _ _ => decide (s = t) | _ => false)
  | .var i => (match a with | .Name x _ => isVr N sc i x | _ => false)
  | .glb i => (match a with | .Name x _ => isGl nm.cn sc i x | _ => false)
  | .tup es => (match a with | .Tuple as _ _ => chkL chk sc es as | _ => false)
  | .lst es => (match a with | .List as _ => chkL chk sc es as | _ => false)
  | .op1 (.isT t) x => (match a with
    | .Call (.Name f _) [y, .Name ty _] [] _ => isBl nm sc f "isinstance" && (isBl nm sc ty (tyName t) && (noStar y && chk sc x y))
    | _ => false)
  | .op1 .neg x => (match a with | .UnaryOp .USub y _ => chk sc x y | _ => false)
  | .op1 .listRev x => (match a with
    | .Call (.Name f _) [.Call (.Name g _) [y] [] _] [] _ => isBl nm sc f "list" && (isBl nm sc g "reversed" && (noStar y && chk sc x y))
    | _ => false)
  | .op1 .sortedSet x => (match a with
    | .Call (.Name f _) [.Call (.Name g _) [y] [] _] [] _ => isBl nm sc f "sorted" && (isBl nm sc g "set" && (noStar y && chk sc x y))
    | _ => false)
  | .op1 .listRange x => (match a with
    | .Call (.Name f _) [.Call (.Name g _) [y] [] _] [] _ => isBl nm sc f "list" && (isBl nm sc g "range" && (noStar y && chk sc x y))
    | _ => false)
  | .op1 .repr x => (match a with
    | .Call (.Name f _) [y] [] _ => nm.rp && (isBl nm sc f "repr" && (noStar y && chk sc x y))
    | _ => false)
  | .op1 .rev x => (match a with
    | .Subscript y (.Slice none none (some (.UnaryOp .USub (.Constant (.int j) _ _) _)) _) _ => decide (j = 1) && chk sc x y
    | _ => false)
  | .op1 o x => (match a with
    | .Call (.Name f _) [y] [] _ => (match name1 o with | some s => isBl nm sc f s | none => false) && (noStar y && chk sc x y)
    | _ => false)
  | .op2 .idx x y => (match a with
    | .Subscript b c _ => (match c with | .Slice _ _ _ _ => false | _ => true) && (chk sc x b && chk sc y c)
    | _ => false)
  | .op2 .idxD x y => (match a with
    | .Subscript b c _ => noSl c && (chk sc x b && chk sc y c)
    | _ => false)
  | .inG neg g x => (match a with
    | .Compare b [op] [.Name f _] _ => decide (op = if neg then .NotIn else .In) && (isGl nm.gd sc g f && chk sc x b)
    | _ => false)
  | .ixG g x => (match a with
    | .Subscript (.Name f _) c _ => isGl nm.gd sc g f && (noSl c && chk sc x c)
    | _ => false)
  | .cdct kvs => (match a with
    | .Dict ks vs _ => decide ((kvs.map (·.1)).Nodup) && (decide (kvs.length ≤ 15) && chkKV kvs ks vs)
    | _ => false)
  | .op2 .listRange2 x y => (match a with
    | .Call (.Name f _) [.Call (.Name g _) [b, c] [] _] [] _ => isBl nm sc f "list" && (isBl nm sc g "range" && (noStar b && (noStar c && (chk sc x b && chk sc y c))))
    | _ => false)
  | .op2 o x y => (match a with
    | .BinOp b op c _ => decide (opOf o = some op) && (chk sc x b && chk sc y c)
    | .Compare b [op] [c] _ => decide (cmpOf o = some op) && (plainIt c && (chk sc x b && chk sc y c))
    | .Call (.Name f _) [b, c] [] _ => (match name2 o with | some s => isBl nm sc f s | none => false) && (noStar b && (noStar c && (chk sc x b && chk sc y c)))
    | _ => false)
  | .not x => (match a with | .UnaryOp .Not y _ => chk sc x y | _ => false)
  | .and x y => (match a with | .BoolOp .And (b :: c :: r) p => chk sc x b && chk sc y (.BoolOp .And (c :: r) p) | _ => false)
  | .or x y => (match a with | .BoolOp .Or (b :: c :: r) p => chk sc x b && chk sc y (.BoolOp .Or (c :: r) p) | _ => false)
  | .ite c x y => (match a with | .IfExp t b d _ => chk sc c t && (chk sc x b && chk sc y d) | _ => false)
  | .chain o1 o2 x y z => (match a with
    | .Compare b [p1, p2] [c, d] _ => decide (cmpOf o1 = some p1) && (decide (cmpOf o2 = some p2) && (plainIt d && (chk sc x b && (chk sc y c && chk sc z d))))
    | _ => false)
  | .slice x lo hi => (match a with
    | .Subscript b (.Slice l h none _) _ => chk sc x b && (chkO chk sc lo l && chkO chk sc hi h)
    | _ => false)
  | .rng3 t x y z => (match a with
    | .Call (.Name f _) [.Call (.Name g _) [b, c, d] [] _] [] _ => isBl nm sc f (if t then "tuple" else "list") && (isBl nm sc g "range" && (noStar b && (noStar c && (noStar d && (chk sc x b && (chk sc y c && chk sc z d))))))
    | .Call (.Name f _) [.Call (.Name g _) [c] [] _] [] _ => (match x, z with
      | .int i, .int j => decide (t = true) && (decide (i = 0) && (decide (j = 1) && (isBl nm sc f "tuple" && (isBl nm sc g "range" && (noStar c && chk sc y c)))))
      | _, _ => false)
    | _ => false)
  | .call f es => (match a with
    | .Call (.Name g _) (b :: as) [] _ => isGl nm.fn sc f g && chkA N chk sc es (b :: as)
    | .Call (.Name g _) [] [] _ => isGl nm.fn sc f g && es.isEmpty
    | _ => false)
  | .callS f x => (match a with
    | .Call (.Name g _) [.Starred b _] [] _ => isGl nm.fn sc f g && chk sc x b
    | _ => false)
  | .sel fs ix es => (match a with
    | .Call (.Subscript (.List els _) c _) (b :: as) [] _ => chkFs nm.fn sc fs els && ((match c with | .Slice _ _ _ _ => false | _ => true) && (decide (fs.length ≤ 1000) && (chk sc ix c && chkA N chk sc es (b :: as))))
    | _ => false)
  | .pop i => (match a with
    | .Call (.Attribute (.Name x _) m ap) [] [] p => decide (m = "pop") && (isVr N sc i x && (ap.endLine == p.line))
    | _ => false)
  | .lenScr i => (match a with
    | .Call (.Name f _) [.Name x _] [] _ => isBl nm sc f "len" && isVr N sc i x
    | _ => false)
  | .ixScr i y => (match a with
    | .Subscript (.Name x _) c _ => (match c with | .Slice _ _ _ _ => false | _ => true) && (isVr N sc i x && chk sc y c)
    | _ => false)
  | .move i => (match a with | .Name x _ => isVr N sc i x | _ => false)
  | .snap x => chk sc x a
  | .comp elt t it c => (match a with
    | .ListComp b [⟨tg, i, ifs, k⟩] scope _ => decide (k = 0) && (blkC N sc scope (ownOf N t) && (plainIt i && (chkI nm N chk sc it i && ((!needsTup it || isTup t) && (chkT N scope t tg &&
        (decide ((tslots t).Nodup) && (chk (blkSc scope sc) elt b && (match c, ifs with
          | none, [] => true
          | some c, [d] => chk (blkSc scope sc) c d
          | _, _ => false))))))))
    | _ => false)
  | .sortedKeys elt t it c => (match a with
    | .Call (.Name f _) [.DictComp b (.Constant (.bool _) _ _) [⟨tg, i, ifs, k⟩] scope _] [] _ => isBl nm sc f "sorted" && (decide (k = 0) && (blkC N sc scope (ownOf N t) && (plainIt i && (chkI nm N chk sc it i && ((!needsTup it || isTup t) && (chkT N scope t tg &&
        (decide ((tslots t).Nodup) && (chk (blkSc scope sc) elt b && (match c, ifs with
          | none, [] => true
          | some c, [d] => chk (blkSc scope sc) c d
          | _, _ => false)))))))))
    | _ => false)
  | _ => false
end

def chkE (nm : Names) (N : List Str) : Nat → Scope → E → Expr → Bool
  | 0, _, _, _ => false
  | n + 1, sc, e, a => match a with
    | .BoolOp _ [v] _ => chkE nm N n sc e v
    | _ => chkE1 nm N (chkE nm N n) sc e a

/-! statements -/
def swB (sc : Scope) (tg value : Expr) : Bool := match tg, value with
  | .Name t pos, .ListComp _ _ s p => decide (sc.names.lookup t = some .local) && (pos.line == p.line) && !(s.names.any (fun (n, k) => n == t && (k == .local || k == .cell)))
  | _, _ => false
def okV : Expr → Bool
  | .SetComp _ _ _ _ => false
  | .DictComp _ _ _ _ _ => false
  | _ => true
def noComp : Expr → Bool
  | .ListComp _ _ _ _ => false
  | .SetComp _ _ _ _ => false
  | .DictComp _ _ _ _ _ => false
  | _ => true
def nameAt (sc : Scope) (line : Nat) : Expr → Option Str
  | .Name id pos => if sc.names.lookup id == some .local && pos.line == line then some id else none
  | _ => none
def swN (sc : Scope) (tg value : Expr) : Bool := match tg, value with
  | .Tuple ts _ _, .Tuple vs _ _ => !(ts.length == 2 || ts.length == 3) || (vs.length != ts.length || ((ts.filterMap (nameAt sc ((ts.head?.map (·.pos.line)).getD 0))).length != ts.length || vs.all (foldedForSure 8)))
  | .List _ _, .Tuple _ _ _ => false
  | _, _ => true
def parB (N : List Str) (sc : Scope) (is : List Nat) (ts vs : List Expr) : Bool := match is, ts, vs with
  | [i, j], [.Name x px, .Name y py], [a, b] => isLc N sc i x && isLc N sc j y && decide (i ≠ j) && decide (sc.names.lookup x = some .local) && decide (sc.names.lookup y = some .local) && (py.line == px.line) && decide (x ≠ y) &&
      !([a, b].all (foldedForSure 8)) && !([a, b].all (constantsAlone 8))
  | [i, j, l], [.Name x px, .Name y py, .Name z pz], [a, b, c] => isLc N sc i x && isLc N sc j y && isLc N sc l z && decide (i ≠ j) && decide (i ≠ l) && decide (j ≠ l) && decide (sc.names.lookup x = some .local) && decide (sc.names.lookup y = some .local) &&
      decide (sc.names.lookup z = some .local) && (py.line == px.line) && (pz.line == px.line) && decide (x ≠ y) && decide (x ≠ z) && decide (y ≠ z) && !([a, b, c].all (foldedForSure 8)) && !([a, b, c].all (constantsAlone 8))
  | _, _, _ => false
def augOp : Op2 → Option Operator
  | .add => some .Add
  | .sub => some .Sub
  | _ => none
def chkPP (chk : Scope → E → Expr → Bool) (sc : Scope) : List E → List Expr → Bool
  | [], [] => true
  | e :: es, a :: as => noStar a && (chk sc e a && chkPP chk sc es as)
  | _, _ => false
def chkAt : E → Expr → Bool
  | .none, .Constant .none _ _ => true
  | .bl b, .Constant (.bool c) _ _ => b == c
  | .int i, .Constant (.int j) _ _ => decide (i = j)
  | .str s, .Constant (.str t) _ _ => decide (s = t)
  | _, _ => false
def chkAts : List E → List Expr → Bool
  | [], [] => true
  | e :: es, a :: as => chkAt e a && chkAts es as
  | _, _ => false
def chkC : E → Expr → Bool
  | .tup es, .Tuple as _ _ => decide (es.length ≤ 1000) && chkAts es as
  | .tup _, _ => false
  | e, a => chkAt e a
/-- except X as e: return f(e) -/
def chkHA (nm : Names) (N : List Str) (sc : Scope) : List (Nat × Option Nat × List S) → List ExceptHandler → Bool
  | [(k, some i, [.ret (.flg g j)])], [.ExceptHandler (some (.Name x _)) (some n) [.Return (some (.Call (.Name f _) [.Name m _] [] _)) _] _] =>
    isGl nm.ex sc k x && (isGl nm.fl sc g f && (decide (m = n) && (decide (i = j) && (okN n && (decide (N[i]? = some n) && decide (sc.names.lookup n = some .local))))))
  | _, _ => false
def chkH (ex : List Str) (sc : Scope) : List (Nat × Option Nat × List S) → List ExceptHandler → Bool
  | [], [] => true
  | (k, none, [.ret e]) :: r, .ExceptHandler (some (.Name x _)) none [.Return (some a) _] _ :: r' => isGl ex sc k x && (chkC e a && chkH ex sc r r')
  | _, _ => false
section
variable (nm : Names) (N : List Str) (chk : Scope → E → Expr → Bool) (blk : List S → List Stmt → Bool)
def chkS1 (sc : Scope) (s : S) (st : Stmt) : Bool :=
  match s with
  | .asg t e => (match st with
    | .Assign [tg] a _ => chkT N sc t tg && (swN sc tg a && (okV a && chk sc e a))
    | _ => false)
  | .asgO i e => (match st with
    | .Assign [tg] a _ => chkT N sc (.nm i) tg && (swN sc tg a && (okV a && chk sc e a))
    | _ => false)
  | .par is _ es => (match st with
    | .Assign [.Tuple ts _ _] (.Tuple as _ _) _ => parB N sc is ts as && chkPP chk sc es as
    | _ => false)
  | .setIx i ix e => (match st with
    | .Assign [.Subscript (.Name x _) c _] a _ => (match c with | .Slice _ _ _ _ => false | _ => true) && (isVr N sc i x && (chk sc ix c && (noComp a && chk sc e a)))
    | _ => false)
  | .aug i o e => (match st with
    | .AugAssign (.Name x _) op a _ => isLc N sc i x && (decide (augOp o = some op) && chk sc e a)
    | _ => false)
  | .app i e => (match st with
    | .Expr (.Call (.Attribute (.Name x _) m ap) [a] [] cp) _ => decide (m = "append") && (isVr N sc i x && (noStar a && ((ap.endLine == cp.line) && chk sc e a)))
    | _ => false)
  | .expr e => (match st with
    | .Expr a _ => noComp a && chk sc e a
    | _ => false)
  | .ifS c a b => (match st with
    | .If t x y _ => chk sc c t && (blk a x && blk b y)
    | _ => false)
  | .forS t it b => (match st with
    | .For tg i body [] _ => chkI nm N chk sc it i && ((!needsTup it || isTup t) && (chkT N sc t tg && (plainIt i && blk b body)))
    | _ => false)
  | .whileS c b => (match st with
    | .While t body [] _ => chk sc c t && blk b body
    | _ => false)
  | .ret e => (match st with
    | .Return (some a) _ => chk sc e a
    | .Return none _ => (match e with | .none => true | _ => false)
    | _ => false)
  | .retO e => (match st with
    | .Return (some a) _ => chk sc e a
    | _ => false)
  | .brk => (match st with | .Break _ => true | _ => false)
  | .cont => (match st with | .Continue _ => true | _ => false)
  | .pass => (match st with | .Pass _ => true | _ => false)
  | .raise c => (match st with
    | .Raise (some (.Call (.Name x _) [.Constant (.str _) _ _] [] _)) none _ => isGl nm.ex sc c x
    | _ => false)
  | .tryS b hs => (match st with
    | .Try body (h :: r) [] [] _ => blk b body && (chkH nm.ex sc hs (h :: r) || chkHA nm N sc hs (h :: r))
    | _ => false)
  | _ => false
def chkSs (one : S → Stmt → Bool) : List S → List Stmt → Bool
  | [], [] => true
  | .frz _ :: ss, sts => chkSs one ss sts
  | s :: ss, st :: sts => one s st && chkSs one ss sts
  | _, _ => false
end
def chkB (nm : Names) (N : List Str) (sc : Scope) : Nat → List S → List Stmt → Bool
  | 0, _, _ => false
  | n + 1, ss, sts => chkSs (chkS1 nm N (chkE nm N 60) (chkB nm N sc n) sc) ss sts
end Ev

end
section
set_option autoImplicit false
set_option linter.all false
set_option maxRecDepth 100000
/-! Expressions: the machine does what the evaluator says. -/
namespace Ev
open PySem L2 PyProof.Rows

/-- what a def promises: run by n -/
def spF (K : PySem.W.Frag) (cA : Nat → Addr) (T : Tab) (n : Nat) (f : Nat) : Sp := fun vs H Q E => ∃ (F : Hp) (Af : Nat → List Addr) (os : List O) (d : FDef), T.fs[f]? = some d ∧ vs.length = d.np ∧
  SR K F H (vs.map some) (os.map some) Af ∧ (∀ j, os.length ≤ j → Af j = []) ∧ PG K cA (fun cls x _ H => E cls x H) (rO K) (vs.map some) F H Af (callF T (exN T n) f os) Q

section
variable (nm : Names) (T : Tab) (cA fA : Nat → Addr)
/-- what stands at a place of the text -/
structure At (n : Nat) (W : WX) (X : Cx) : Prop where
  nd : X.N.Nodup
  calm : X.calm = true
  room : Room n X.A
  tk : L2N.Takes X W
  blt : ∀ x ∈ nm.bl, X.mg x = none
  cst : ∀ (i : Nat) (x : Str), nm.cn[i]? = some x → ∃ (u : Value) (v : V) (d : D), X.mg x = some u ∧ RelV v u ∧ T.cs[i]? = some d ∧ Rep X.K (fun _ => none) v d
  fns : ∀ j, j < n → ∀ (i : Nat) (x : Str), nm.fn[i]? = some x → ∃ fd ps, X.mg x = some (.ref (fA i)) ∧ PySem.W.keepIn X.K (.ref (fA i)) = true ∧ Binds X.K fd ps [] ∧
    FnOk X.prog X.w X.K X.mg X.base (L2N.CX X.prog X.w) (j + 1) (fA i) fd ps (spF X.K cA T j i)
  wσ : ∀ c d σ σ' H, W c d σ H → W c d σ' H
  exn : ∀ (c : Nat) (x : Str), nm.ex[c]? = some x → X.mg x = some (.ref (cA c)) ∧ PySem.W.excIn X.K (cA c) [.type "ValueError", .type "Exception", .type "BaseException", .type "object"] "ValueError.__new__" = true ∧ PySem.W.keepIn X.K (.ref (cA c)) = true ∧ L2.Raises X (.ref (cA c))
  exm : ∀ c k, c < T.nx → k < T.nx → PySem.W.exmOne X.K (.ref (cA c)) (.ref (cA k)) = some (T.sub c k)
  flg : ∀ (g : Nat) (x : Str), nm.fl[g]? = some x → ∃ f fd ps, X.mg x = some (.ref f) ∧ PySem.W.keepIn X.K (.ref f) = true ∧ Binds X.K fd ps [] ∧ ∀ (c : Nat) (p : Addr × Obj), c < T.nx → p.2.cls = .ref (cA c) → p.2.dict = none → (∃ vs, p.2.data = .fields vs) →
    HotFn X.prog X.w X.K X.mg X.base (L2N.CX X.prog X.w) p 1 f fd ps (spFlg p.1 (T.fl g c))
  gd : nm.rp = true → X.A.guards = some []
  gdt : ∀ (g : Nat) (x : Str), nm.gd[g]? = some x → ∃ a es k t, X.mg x = some (.ref a) ∧ KDict X.K X.w a es k ∧ T.gd[g]? = some t ∧ ∀ z, ∃ r, PySem.W.nsIn X.K a z = some r ∧ r.isSome = (t.lookup z).isSome ∧ ∀ i, t.lookup z = some i → ∃ tok, r = some (.int i tok)
end

section
variable {nm : Names} {T : Tab} {cA fA : Nat → Addr} {n : Nat} {W : WX} {X : Cx}
theorem At.hu (h : At nm T cA fA n W X) : X.A.units + 64 < cLine := h.room.units
theorem At.down {k : Nat} (h : At nm T cA fA n W X) (hk : k ≤ n) : At nm T cA fA k W X :=
  ⟨h.nd, h.calm, h.room.mono hk, h.tk, h.blt, h.cst, fun j hj => h.fns j (Nat.lt_of_lt_of_le hj hk), h.wσ, h.exn, h.exm, h.flg, h.gd, h.gdt⟩

theorem At.tr (h : At nm T cA fA n W X) {W' : WX} {pn : List (Addr × Obj)} {xe : Value → Shared → Prop} (tk : L2N.Takes (X.tr pn xe) W') (ww : ∀ c d σ σ' H, W' c d σ H → W' c d σ' H) : At nm T cA fA n W' (X.tr pn xe) :=
  ⟨h.nd, h.calm, h.room, tk, h.blt, h.cst, h.fns, ww, h.exn, h.exm, h.flg, h.gd, h.gdt⟩

/-! names -/
theorem okN_spec {x : Str} (h : okN x = true) : (x == ("__debug__" : Str)) = false ∧ (x == ("__classdict__" : Str)) = false ∧ x ≠ ("__name__" : Str) := by
  unfold okN at h
  simp only [Bool.and_eq_true, Bool.not_eq_true'] at h
  exact ⟨h.1.1, h.1.2, fun e => by rw [e] at h; simp at h⟩
theorem vis_spec {sc : Scope} {x : Str} (h : visB sc x = true) : Vis sc x := by
  unfold visB at h
  split at h
  · exact .inl ‹_›
  · exact .inr (.inl ‹_›)
  · exact .inr (.inr ‹_›)
  · cases h
theorem loc_spec {sc : Scope} {x : Str} (h : locB sc x = true) : Loc sc x := by
  unfold locB at h
  split at h
  · exact .inl ‹_›
  · exact .inr ‹_›
  · cases h
theorem glo_spec {x : Str} (h : gloB X.env.scope x = true) : Gl X x := by
  unfold gloB at h
  split at h
  · rename_i e; exact e
  · cases h
theorem isBl_spec {x s : Str} (h : isBl nm X.env.scope x s = true) : x = s ∧ Gl X x ∧ x ∈ nm.bl := by
  unfold isBl at h
  simp only [Bool.and_eq_true, decide_eq_true_eq] at h
  exact ⟨h.1, glo_spec h.2.1, h.2.2⟩
theorem isVr_spec {i : Nat} {x : Str} (h : isVr X.N X.env.scope i x = true) : X.N[i]? = some x ∧ Vis X.env.scope x ∧ (x == ("__debug__" : Str)) = false ∧ (x == ("__classdict__" : Str)) = false := by
  unfold isVr at h
  simp only [Bool.and_eq_true, decide_eq_true_eq] at h
  exact ⟨h.2.2, vis_spec h.2.1, (okN_spec h.1).1, (okN_spec h.1).2.1⟩
theorem isGl_spec {l : List Str} {i : Nat} {x : Str} (h : isGl l X.env.scope i x = true) : l[i]? = some x ∧ Gl X x ∧ (x == ("__debug__" : Str)) = false := by
  unfold isGl at h
  simp only [Bool.and_eq_true, decide_eq_true_eq] at h
  exact ⟨h.2.2, glo_spec h.2.1, (okN_spec h.1).1⟩
theorem star1 {e : Expr} (h : noStar e = true) (es : List Expr) (env : PySem.Env) : starEach (e :: es) env = (false, eval e env) :: starEach es env := by
  cases e <;> first | rfl | cases h

/-! values that stand -/
abbrev TO (X : Cx) (cA : Nat → Addr) (W : WX) (r : Env → Res (O × Env)) : TE := TG X.K cA W (rO X.K) r
abbrev TD (X : Cx) (cA : Nat → Addr) (W : WX) (r : Env → Res (D × Env)) : TE := TG X.K cA W (rD X.K) r
abbrev TT' (X : Cx) (cA : Nat → Addr) (W : WX) (r : Env → Res (Bool × Env)) : TT := TG X.K cA W rB r

section
variable {ev : E → Env → Res (O × Env)} {exs : List S → Env → Res (Fl × Env)}
theorem _root_.L2.PE.toD {e : E} {a : Expr} (h : PE X a (TO X cA W (ev e))) : PE X a (TD X cA W (evD ev e)) := h.mono fun _ _ _ q => TG.freeze q
theorem e_con {d : D} {v : V} {a : Expr} (h : PE X a (tC v)) (r : ∀ F, Rep X.K F v d) : PE X a (TO X cA W fun env => .ok (.val d, env)) :=
  h.mono fun σ H Q ⟨F, Af, env, s, p⟩ => p.nowV s (r F)
theorem e_var (hX : At nm T cA fA n W X) {i : Nat} {x : Str} {pos : Pos} (h : isVr X.N X.env.scope i x = true) : PE X (.Name x pos) (TO X cA W (stepE T ev exs (.var i))) := by
  obtain ⟨h1, h2, h3, h4⟩ := isVr_spec h
  refine (pe_var h1 h2 h3 h4).mono fun σ H Q ⟨F, Af, env, s, p⟩ => ?_
  rw [stepE_var] at p
  split at p
  · rename_i d e
    obtain ⟨v, e1, r⟩ := s.rep e
    exact ⟨v, e1, p.nowV s r⟩
  · rename_i c e
    obtain ⟨v, e1, r⟩ := s.at_ i _ (join_some e)
    cases r
  · exact p.elim
theorem e_glb (hX : At nm T cA fA n W X) {i : Nat} {x : Str} {pos : Pos} (h : isGl nm.cn X.env.scope i x = true) : PE X (.Name x pos) (TO X cA W (stepE T ev exs (.glb i))) := by
  obtain ⟨h1, h2, h3⟩ := isGl_spec h
  obtain ⟨u, v, d, m1, m2, m3, m4⟩ := hX.cst i x h1
  refine (pe_glob h2 m1 m2 h3).mono fun σ H Q ⟨F, Af, env, s, p⟩ => ?_
  rw [stepE_glb, m3] at p
  exact p.nowV s (m4.mono fun a o e => by cases e)
theorem e_move (hX : At nm T cA fA n W X) {i : Nat} {x : Str} {pos : Pos} (h : isVr X.N X.env.scope i x = true) : PE X (.Name x pos) (TO X cA W (stepE T ev exs (.move i))) := by
  obtain ⟨h1, h2, h3, h4⟩ := isVr_spec h
  refine (pe_var h1 h2 h3 h4).mono fun σ H Q ⟨F, Af, env, s, p⟩ => ?_
  rw [stepE_move] at p
  split at p
  · rename_i o e
    obtain ⟨v, e1, r⟩ := s.at_ i _ (join_some e)
    refine ⟨v, e1, p v F H (fun j => if j = i then [] else Af j) (Af i) ⟨s.ex, by rw [List.length_set]; exact s.len, fun j u e => ?_, fun j => ?_, fun j k a h1 h2 => ?_, fun j a h1 => ?_, fun j a h1 => ?_⟩
      ⟨Ex.refl _, fun _ _ h _ => h, fun _ h => h, fun _ h => .inl h, fun a hj => ?_, fun a h => .inl ⟨i, h⟩⟩ r (s.nd i) fun a ha => ⟨s.un i a ha, fun hj => ?_⟩⟩
    · by_cases hj : j = i
      · subst hj; rw [List.getElem?_set_self'] at e; cases q : env[j]? <;> rw [q] at e <;> simp at e
      · rw [List.getElem?_set_ne (Ne.symm hj)] at e
        show ∃ v, _ ∧ RO _ _ _ _ _ (if j = i then [] else Af j)
        rw [if_neg hj]; exact s.at_ j u e
    · show (if j = i then [] else Af j).Nodup
      split
      · exact .nil
      · exact s.nd j
    · have h1 : a ∈ (if j = i then [] else Af j) := h1
      have h2 : a ∈ (if k = i then [] else Af k) := h2
      split at h1 <;> split at h2
      · cases h1
      · cases h1
      · cases h2
      · exact s.dj _ _ a h1 h2
    · have h1 : a ∈ (if j = i then [] else Af j) := h1
      split at h1
      · cases h1
      · exact s.un j a h1
    · have h1 : a ∈ (if j = i then [] else Af j) := h1
      split at h1
      · cases h1
      · exact s.th j a h1
    · obtain ⟨j, h⟩ := hj
      have h : a ∈ (if j = i then [] else Af j) := h
      split at h
      · cases h
      · exact .inl ⟨j, h⟩
    · obtain ⟨j, h⟩ := hj
      have h : a ∈ (if j = i then [] else Af j) := h
      split at h
      · cases h
      · rename_i hj; exact hj (s.dj _ _ a h ha)
  · exact p.elim

/-! one and two arguments -/
theorem e_op1c (hX : At nm T cA fA n W X) {o : Op1} {f : Str} {p0 pos : Pos} {y : Expr} {x : E} {id : String} (hc : CallR X (.builtin id) (R1c X.K cA W o)) (hb : bootBuiltins f = some (.builtin id)) (h : Gl X f ∧ f ∈ nm.bl) (hn : f ≠ ("__name__" : Str) := by decide) (hdb : (f == ("__debug__" : Str)) = false := by decide)
    (hs : noStar y = true) (hy : PE X y (TO X cA W (ev x))) : PE X (.Call (.Name f p0) [y] [] pos) (TO X cA W (stepE T ev exs (.op1 o x))) := by
  refine (pe_callB hc h.1 (hX.blt f h.2) hb (pa_cons hy.toD pa_nil (star1 hs _ _)) hn hdb (star1 hs _ _) rfl).mono fun σ H Q h => ?_
  refine TG.bind (rep := rD X.K) (r := evD ev x) (k := fun d env => match ev1 o d with | some r => .ok (r, env) | none => .stuck) h fun d env1 v F1 H1 Af1 C s1 r1 nd un q => ?_
  exact ⟨v, rfl, σ, F1, Af1, env1, d, s1, r1.2, q⟩
theorem e_op1t (hX : At nm T cA fA n W X) {o : Op1} {f : Str} {p0 pos : Pos} {y : Expr} {x : E} {id : String} (hc : CallR X (.type id) (R1c X.K cA W o)) (hb : bootBuiltins f = some (.type id)) (h : Gl X f ∧ f ∈ nm.bl) (hn : f ≠ ("__name__" : Str) := by decide) (hdb : (f == ("__debug__" : Str)) = false := by decide)
    (hs : noStar y = true) (hy : PE X y (TO X cA W (ev x))) : PE X (.Call (.Name f p0) [y] [] pos) (TO X cA W (stepE T ev exs (.op1 o x))) := by
  refine (pe_callTy hc h.1 (hX.blt f h.2) hb (pa_cons hy.toD pa_nil (star1 hs _ _)) hn hdb (star1 hs _ _) rfl).mono fun σ H Q h => ?_
  refine TG.bind (rep := rD X.K) (r := evD ev x) (k := fun d env => match ev1 o d with | some r => .ok (r, env) | none => .stuck) h fun d env1 v F1 H1 Af1 C s1 r1 nd un q => ?_
  exact ⟨v, rfl, σ, F1, Af1, env1, d, s1, r1.2, q⟩
theorem bindK2 {o : Op2} {x y : E} : (fun env => stepE T ev exs (.op2 o x y) env) = fun env => (evD ev x env).bind fun p => (evD ev y p.2).bind fun q => resO (ev2 o p.1 q.1) q.2 := by
  funext env
  show stepE T ev exs (.op2 o x y) env = _
  unfold stepE resO
  rfl
theorem tOp2 {o : Op2} {x y : E} {σ : L2.St} {H : Hp} {Q : VK} (h : TO X cA W (stepE T ev exs (.op2 o x y)) σ H Q) : tOp (R2e X.K cA W o) (TD X cA W (evD ev x)) (TD X cA W (evD ev y)) σ H Q := by
  have h' : TO X cA W (fun env => (evD ev x env).bind fun p => (evD ev y p.2).bind fun q => resO (ev2 o p.1 q.1) q.2) σ H Q := by rw [← bindK2]; exact h
  refine TG.bind (rep := rD X.K) (r := evD ev x) (k := fun d env => (evD ev y env).bind fun q => resO (ev2 o d q.1) q.2) h' fun d env1 v F1 H1 Af1 C s1 r1 nd un q => ?_
  refine PG.tg s1 (PG.bind (k := fun e env => resO (ev2 o d e) env) q fun e env2 w F2 H2 Af2 C2 _ s2 t2 r2 nd2 un2 q2 => ?_)
  exact ⟨σ, F2, Af2, env2, d, e, s2, r1.2.mono t2.ex, r2.2, q2⟩
theorem e_bin (hX : At nm T cA fA n W X) {o : Op2} {op : Operator} {x y : E} {b c : Expr} {pos : Pos} (ho : opOf o = some op) (hb : PE X b (TO X cA W (ev x))) (hc : PE X c (TO X cA W (ev y))) : PE X (.BinOp b op c pos) (TO X cA W (stepE T ev exs (.op2 o x y))) :=
  (pe_op (b_op ho) hb.toD hc.toD).mono fun _ _ _ h => tOp2 h
theorem plain_mark {op : CmpOp} {c : Expr} (h : plainIt c = true) : behindInMarks op c = false := by cases c <;> first | rfl | cases h
theorem e_cmp (hX : At nm T cA fA n W X) {o : Op2} {op : CmpOp} {x y : E} {b c : Expr} {pos : Pos} (ho : cmpOf o = some op) (hm : plainIt c = true) (hb : PE X b (TO X cA W (ev x))) (hc : PE X c (TO X cA W (ev y))) : PE X (.Compare b [op] [c] pos) (TO X cA W (stepE T ev exs (.op2 o x y))) :=
  (pe_cmpR (k_op hX.hu ho) hb.toD hc.toD (plain_mark hm)).mono fun _ _ _ h => tOp2 h
theorem e_idx (hX : At nm T cA fA n W X) {x y : E} {b c : Expr} {pos : Pos} (hs : (match c with | .Slice _ _ _ _ => false | _ => true) = true) (hb : PE X b (TO X cA W (ev x))) (hc : PE X c (TO X cA W (ev y))) : PE X (.Subscript b c pos) (TO X cA W (stepE T ev exs (.op2 .idx x y))) :=
  (pe_ix i_idx hb.toD hc.toD (by cases c <;> first | (intro _ _; rfl) | cases hs)).mono fun _ _ _ h => tOp2 h
theorem noSl_ok {c : Expr} (hs : noSl c = true) : NoSl c := by cases c <;> first | (intro _ _; rfl) | cases hs
theorem e_idxD (hX : At nm T cA fA n W X) {x y : E} {b c : Expr} {pos : Pos} (hs : noSl c = true) (hb : PE X b (TO X cA W (ev x))) (hc : PE X c (TO X cA W (ev y))) : PE X (.Subscript b c pos) (TO X cA W (stepE T ev exs (.op2 .idxD x y))) := by
  refine (pe_dget (by have := hX.hu; omega) hb.toD hc.toD (noSl_ok hs)).mono fun σ H Q h => ?_
  refine TG.imp (tOp2 h) fun v H1 q => TG.imp q fun w H2 q2 => ?_
  obtain ⟨σ', F, Af, env, d, e, S, r1, r2, p⟩ := q2
  obtain ⟨o, eo, p⟩ := res2 p
  cases d with
  | dict kvs => cases e with
    | str z =>
      simp only [ev2, Option.map_eq_some_iff] at eo
      obtain ⟨dd, e1, rfl⟩ := eo
      cases r2.str_inv
      obtain ⟨a, ov, rfl, g, hk⟩ := look_get r1 S.ex z
      rcases hk with ⟨h1, _⟩ | ⟨v0, d0, h1, rfl, rep⟩
      · rw [e1] at h1; cases h1
      · rw [e1] at h1
        cases h1
        exact ⟨a, v0, rfl, g, p.nowV S rep⟩
    | _ => cases eo
  | _ => cases e <;> cases eo
/-! a dict of the module -/
abbrev rInG (neg : Bool) (a : Addr) (t : List (Str × Int)) : R2 := fun x y H Q => ∃ z, x = .str z ∧ y = .ref a ∧ Q (.bl (if neg then !(t.lookup z).isSome else (t.lookup z).isSome)) H
theorem op_inG {a : Addr} {es : Array DictEntry} {k : Nat} {t : List (Str × Int)} (D : KDict X.K X.w a es k) (ht : ∀ z, ∃ r, PySem.W.nsIn X.K a z = some r ∧ r.isSome = (t.lookup z).isSome ∧ ∀ i, t.lookup z = some i → ∃ tok, r = some (.int i tok)) (neg : Bool) : OpR X (compareOp (if neg then .NotIn else .In)) (rInG neg a t) := by
  cases neg with
  | false =>
    refine OpR.mono (op_in_kd D) fun x y H Q ⟨z, e1, e2, q⟩ => ?_
    obtain ⟨r, h1, h2, _⟩ := ht z
    exact ⟨z, r, e1, e2, h1, by rw [h2]; exact q⟩
  | true =>
    refine OpR.mono (op_notIn_kd D) fun x y H Q ⟨z, e1, e2, q⟩ => ?_
    obtain ⟨r, h1, h2, _⟩ := ht z
    exact ⟨z, r, e1, e2, h1, by rw [h2]; exact q⟩
theorem inG_core {neg : Bool} {g : Nat} {a : Addr} {t : List (Str × Int)} {x : E} (m4 : T.gd[g]? = some t) {σ : L2.St} {H : Hp} {Q : VK} (h : TO X cA W (stepE T ev exs (.inG neg g x)) σ H Q) : tOp (rInG neg a t) (TD X cA W (evD ev x)) (tC (.ref a)) σ H Q := by
  refine TG.bind (rep := rD X.K) (r := evD ev x) (k := fun d env => match d, T.gd[g]? with
    | .str z, some t => .ok (O.val (.bool (if neg then !(t.lookup z).isSome else (t.lookup z).isSome)), env)
    | _, _ => .stuck) h fun d env1 v F1 H1 Af1 C s1 r1 nd un q => ?_
  rw [m4] at q
  cases d with
  | str z =>
    cases r1.2.str_inv
    exact ⟨z, rfl, rfl, PG.nowV q s1 (.bl _)⟩
  | _ => exact q.elim
theorem n_glb (hX : At nm T cA fA n W X) {g : Nat} {f : Str} {p0 : Pos} (hg : isGl nm.gd X.env.scope g f = true) : ∃ a es k t, PE X (.Name f p0) (tC (.ref a)) ∧ KDict X.K X.w a es k ∧ T.gd[g]? = some t ∧ ∀ z, ∃ r, PySem.W.nsIn X.K a z = some r ∧ r.isSome = (t.lookup z).isSome ∧ ∀ i, t.lookup z = some i → ∃ tok, r = some (.int i tok) := by
  obtain ⟨h1, h2, h3⟩ := isGl_spec hg
  obtain ⟨a, es, k, t, m1, m3, m4, m5⟩ := hX.gdt g f h1
  exact ⟨a, es, k, t, pe_glob h2 m1 rfl h3, m3, m4, m5⟩
theorem e_inG (hX : At nm T cA fA n W X) {neg : Bool} {g : Nat} {x : E} {b : Expr} {op : CmpOp} {f : Str} {p0 pos : Pos} (ho : op = if neg then .NotIn else .In) (hg : isGl nm.gd X.env.scope g f = true) (hb : PE X b (TO X cA W (ev x))) : PE X (.Compare b [op] [.Name f p0] pos) (TO X cA W (stepE T ev exs (.inG neg g x))) := by
  subst ho
  obtain ⟨a, es, k, t, hn, m3, m4, m5⟩ := n_glb (p0 := p0) hX hg
  exact (pe_cmpR (op_inG m3 m5 neg) hb.toD hn (plain_mark rfl)).mono fun σ H Q h => inG_core m4 h
theorem e_ixG (hX : At nm T cA fA n W X) {g : Nat} {x : E} {c : Expr} {f : Str} {p0 pos : Pos} (hg : isGl nm.gd X.env.scope g f = true) (hs : noSl c = true) (hc : PE X c (TO X cA W (ev x))) : PE X (.Subscript (.Name f p0) c pos) (TO X cA W (stepE T ev exs (.ixG g x))) := by
  obtain ⟨a, es, k, t, hn, m3, m4, m5⟩ := n_glb (p0 := p0) hX hg
  refine ⟨fun pins s σ H Q I h => ?_⟩
  have h2 : TD X cA W (evD ev x) σ H fun y H2 => ∃ z u0 v0, y = .str z ∧ PySem.W.nsIn X.K a z = some (some u0) ∧ RelV v0 u0 ∧ Q v0 H2 := by
    refine TG.bind (rep := rD X.K) (r := evD ev x) (k := fun d env => match d, T.gd[g]? with
      | .str z, some t => (match t.lookup z with | some i => .ok (O.val (.int i), env) | none => .stuck)
      | _, _ => .stuck) h fun d env1 v F1 H1 Af1 C s1 r1 nd un q => ?_
    rw [m4] at q
    cases d with
    | str z =>
      cases r1.2.str_inv
      obtain ⟨r, e1, e2, e3⟩ := m5 z
      cases hl : t.lookup z with
      | none => simp only [hl] at q; exact q.elim
      | some i =>
        simp only [hl] at q
        obtain ⟨tok, rfl⟩ := e3 i hl
        exact ⟨z, _, .int i, rfl, e1, ⟨tok, rfl⟩, PG.nowV q s1 (.int _)⟩
    | _ => exact q.elim
  refine subD_of PySem.F.slot_dict_getitem.lookup (noSl_ok hs) (thn (hn.run pins s σ H (fun v H1 => v = .ref a ∧ H1 = H) I ⟨rfl, rfl⟩) fun u s1 ⟨v, H1, I1, rx, e1, e2⟩ => ?_)
  subst e1 e2
  refine thn (hc.toD.run pins s1 σ H1 _ I1 h2) fun iv s2 ⟨y, H2, I2, ry, z, u0, v0, ey, e, rel, q⟩ => ?_
  cases rx
  exact ⟨kd_type m3 I2, op_item_kd m3 pins s2 σ H2 (.ref a) y (.ref a) iv Q I2 rfl ry ⟨z, u0, v0, rfl, ey, e, rel, q⟩⟩
/-! a display of texts and whole numbers -/
theorem repKV_c {K : PySem.W.Frag} {F : Hp} : ∀ kvs : List (Str × Int), RepKV K F (kvs.map fun p => ((Sum.inr p.1 : Key), V.int p.2)) (kvs.map fun p => (PyData.str p.1, PyData.int p.2))
  | [] => .nil
  | p :: r => .cons (k := .inr p.1) (.int _) (repKV_c r)
theorem PG.newD {K : PySem.W.Frag} {σ : L2.St} {F H : Hp} {Af : Nat → List Addr} {env : Env} {kvs : List (Str × Int)} {Q : VK} (h : PG K cA W (rO K) σ F H Af (.ok (.val (.dict (kvs.map fun p => (.str p.1, .int p.2))), env)) Q) (s : SR K F H σ env Af) {p : Addr} (hp : H p = none) : Q (.ref p) (upd H p (.dK (kvs.map fun p => ((Sum.inr p.1 : Key), V.int p.2)))) := by
  have hf := fresh_own s hp
  exact h (.ref p) (upd F p (.dK _)) (upd H p (.dK _)) Af [] (s.newF hp) (Stp.newF hp hf.2) (RO.val (.dK upd_same (repKV_c kvs))) .nil fun _ z => nomatch z
theorem tPairs_c {σ : L2.St} {H : Hp} : ∀ (kvs : List (Str × Int)) (Q : List (V × V) → Hp → Prop), Q (kvs.map fun p => (V.str p.1, V.int p.2)) H → tPairs (kvs.map fun p => (tC (.str p.1), tC (.int p.2))) σ H Q
  | [], Q, h => h
  | p :: r, Q, h => tPairs_c r (fun ps H3 => Q ((V.str p.1, V.int p.2) :: ps) H3) h
theorem mergeK_app : ∀ (more acc : List (Key × V)), ((acc ++ more).map (·.1)).Nodup → mergeK acc more = acc ++ more
  | [], acc, _ => (List.append_nil _).symm
  | (k, v) :: r, acc, h => by
    show mergeK (putK acc k v) r = _
    have e : putK acc k v = acc ++ [(k, v)] := by
      unfold putK
      rw [if_neg]
      intro z
      obtain ⟨q, hq, e⟩ := List.any_eq_true.mp z
      have e := of_decide_eq_true e
      rw [List.map_append, List.map_cons] at h
      exact (List.nodup_append.mp h).2.2 q.1 (List.mem_map_of_mem hq) k List.mem_cons_self e
    rw [e, mergeK_app r (acc ++ [(k, v)]) (by rw [List.append_assoc]; exact h), List.append_assoc]
    rfl
theorem pps_c {pos : Pos} : ∀ {kvs : List (Str × Int)} {ks : List (Option Expr)} {vs : List Expr}, chkKV kvs ks vs = true → PPs X pos ks vs (kvs.map fun p => (tC (.str p.1), tC (.int p.2))) ∧ ks.all (·.isSome) = true ∧ ks.length = vs.length ∧ ks.length = kvs.length
  | [], ks, vs, h => by
    cases ks <;> cases vs <;> first | exact ⟨pps_nil, rfl, rfl, rfl⟩ | cases h
  | (k, i) :: r, ks, vs, h => by
    unfold chkKV at h
    split at h
    · exact absurd ‹(k, i) :: r = []› (by simp)
    · rename_i k1 i1 r1 k' _ _ ks' i' _ _ vs' e1
      cases e1
      simp only [Bool.and_eq_true, decide_eq_true_eq] at h
      obtain ⟨rfl, rfl, h3⟩ := h
      obtain ⟨q1, q2, q3, q4⟩ := pps_c h3
      exact ⟨pps_cons pe_str pe_int q1, by rw [List.all_cons, q2]; rfl, congrArg Nat.succ q3, congrArg Nat.succ q4⟩
    · cases h
theorem e_cdct {kvs : List (Str × Int)} {ks : List (Option Expr)} {vs : List Expr} {pos : Pos} (h1 : (kvs.map (·.1)).Nodup) (h2 : kvs.length ≤ 15) (h3 : chkKV kvs ks vs = true) : PE X (.Dict ks vs pos) (TO X cA W (stepE T ev exs (.cdct kvs))) := by
  obtain ⟨q1, q2, q3, q4⟩ := pps_c (X := X) (pos := pos) h3
  cases kvs with
  | nil =>
    cases ks with
    | nil =>
      cases vs with
      | nil => exact pe_dnewK.mono fun σ H Q ⟨F, Af, env, s, p⟩ => fun a ha => PG.newD (kvs := []) p s ha
      | cons v vs => cases q3
    | cons k ks => cases q4
  | cons kv r =>
    refine (pe_disp q1 q2 q3 (by intro z; rw [z] at q4; cases q4) (by omega)).mono fun σ H Q ⟨F, Af, env, s, p⟩ => fun a ha => ?_
    refine tPairs_c (kv :: r) _ ⟨upd_same, (kv :: r).map fun p => ((Sum.inr p.1 : Key), V.int p.2), by rw [List.map_map]; rfl, by rw [List.length_map]; exact h2, ?_⟩
    have hm : mergeK [] ((kv :: r).map fun p => ((Sum.inr p.1 : Key), V.int p.2)) = (kv :: r).map fun p => ((Sum.inr p.1 : Key), V.int p.2) := by
      refine mergeK_app _ [] ?_
      rw [List.nil_append, List.map_map]
      have : ((fun x : Key × V => x.1) ∘ fun p : Str × Int => ((Sum.inr p.1 : Key), V.int p.2)) = (Sum.inr : Str → Key) ∘ fun p : Str × Int => p.1 := rfl
      rw [this, ← List.map_map]
      exact List.Pairwise.map _ (fun a b hab z => hab (Sum.inr.inj z)) h1
    rw [hm, upd_upd]
    exact PG.newD p s ha
theorem e_c2 (hX : At nm T cA fA n W X) {o : Op2} {f : Str} {p0 pos : Pos} {b c : Expr} {x y : E} {id : String} (hc : CallR X (.builtin id) (R2c X.K cA W o)) (hb : bootBuiltins f = some (.builtin id)) (h : Gl X f ∧ f ∈ nm.bl) (hn : f ≠ ("__name__" : Str) := by decide) (hdb : (f == ("__debug__" : Str)) = false := by decide)
    (hs : noStar b = true) (hs2 : noStar c = true) (hx : PE X b (TO X cA W (ev x))) (hy : PE X c (TO X cA W (ev y))) : PE X (.Call (.Name f p0) [b, c] [] pos) (TO X cA W (stepE T ev exs (.op2 o x y))) := by
  refine (pe_callB hc h.1 (hX.blt f h.2) hb (pa_cons hx.toD (pa_cons hy.toD pa_nil (star1 hs2 _ _)) (star1 hs _ _)) hn hdb (star1 hs _ _) (by rw [star1 hs2]; rfl)).mono fun σ H Q h => ?_
  exact TG.imp (tOp2 h) fun v H1 q => TG.imp q fun w H2 q2 => ⟨_, _, rfl, q2⟩
theorem e_neg (hX : At nm T cA fA n W X) {x : E} {b : Expr} {pos : Pos} (hb : PE X b (TO X cA W (ev x))) : PE X (.UnaryOp .USub b pos) (TO X cA W (stepE T ev exs (.op1 .neg x))) := by
  refine (pe_un un_neg hb.toD).mono fun σ H Q h => ?_
  refine TG.bind (rep := rD X.K) (r := evD ev x) (k := fun d env => resO (ev1 .neg d) env) h fun d env1 v F1 H1 Af1 C s1 r1 nd un q => ?_
  obtain ⟨o, eo, p⟩ := res2 q
  cases d with
  | int i => cases eo; cases r1.2.int_inv; exact ⟨i, rfl, p.nowV s1 (.int _)⟩
  | _ => cases eo
theorem e_isT (hX : At nm T cA fA n W X) {t : Ty} {f ty : Str} {p0 p1 pos : Pos} {y : Expr} {x : E} (hf : f = "isinstance") (h : Gl X f ∧ f ∈ nm.bl) (ht : ty = tyName t) (h2 : Gl X ty ∧ ty ∈ nm.bl) (hs : noStar y = true) (hy : PE X y (TO X cA W (ev x))) :
    PE X (.Call (.Name f p0) [y, .Name ty p1] [] pos) (TO X cA W (stepE T ev exs (.op1 (.isT t) x))) := by
  subst hf ht
  have hty : PE X (.Name (tyName t : Str) p1) (tC (.ty (tyName t))) := by
    refine pe_bltn (u := .type (tyName t)) h2.1 (hX.blt _ h2.2) ?_ rfl ?_ ?_ <;> cases t <;> decide +kernel
  refine (pe_callB (c_isT (cA := cA) (W := W) t) h.1 (hX.blt _ h.2) (by decide +kernel) (pa_cons hy.toD (pa_cons hty pa_nil rfl) (star1 hs _ _)) (by decide) (by decide) (star1 hs _ _) rfl).mono fun σ H Q h => ?_
  refine TG.bind (rep := rD X.K) (r := evD ev x) (k := fun d env => resO (ev1 (.isT t) d) env) h fun d env1 v F1 H1 Af1 C s1 r1 nd un q => ?_
  exact ⟨v, rfl, σ, F1, Af1, env1, d, s1, r1.2, q⟩
end
end
end Ev

end
section
set_option autoImplicit false
set_option linter.all false
set_option maxRecDepth 100000
/-! The def that tells of which classes an error is. -/
namespace Ev
open PySem PySem.Spec L2 L2H PyProof.Rows
/-! the def's body -/
/-- what is told of one class -/
def flgOne (cl : List Str) (sc : Scope) (bl : List Str) (e : Str) (j : Nat) : Expr → Bool
  | .Call (.Name f _) [.Name v _, .Name c _] [] _ => decide (f = "isinstance") && (gloB sc f && (decide (f ∈ bl) && (decide (v = e) && (okN c && (gloB sc c && decide (cl[j]? = some c))))))
  | _ => false
def flgAll (cl : List Str) (sc : Scope) (bl : List Str) (e : Str) : List Nat → List Expr → Bool
  | [], [] => true
  | j :: js, a :: as => flgOne cl sc bl e j a && flgAll cl sc bl e js as
  | _, _ => false
def flgBody (cl : List Str) (sc : Scope) (bl : List Str) (e : Str) (js : List Nat) : List Stmt → Bool
  | [.Return (some (.List as _)) _] => okN e && (locB sc e && flgAll cl sc bl e js as)
  | _ => false
/-- the errors' classes, asked by isinstance -/
structure ClsOk (K : PySem.W.Frag) (mg : Str → Option Value) (cA : Nat → Addr) (nx : Nat) (cl : List Str) (isx : Nat → Nat → Bool) : Prop where
  exc : ∀ c, c < nx → L2.ExcC K (cA c)
  nam : ∀ (j : Nat) (x : Str), cl[j]? = some x → ∃ a, mg x = some (.ref a) ∧ ∀ c, c < nx → PySem.W.kitOne K (.ref (cA c)) (.ref a) = some (isx c j)
section
variable {P : Program} {w : World} {K : PySem.W.Frag} {mg : Str → Option Value} {base : Heap} {p : Addr × Obj} {X : Cx} {cA : Nat → Addr} {nx : Nat} {cl bl : List Str} {isx : Nat → Nat → Bool} {e : Str} {sc : Scope}
theorem flg_one (h : ClsOk X.K X.mg cA nx cl isx) (hbl : ∀ x ∈ bl, X.mg x = none) (hN : X.N[0]? = some e) (hp : p ∈ X.pn) {c : Nat} (hc : c < nx) (h1 : p.2.cls = .ref (cA c)) (h2 : p.2.dict = none) (h3 : ∃ vs, p.2.data = .fields vs) {j : Nat} {a : Expr} (hk : flgOne cl X.env.scope bl e j a = true) (hl : locB X.env.scope e = true) (ho : okN e = true) :
    PE X a (fun σ H Q => σ[0]? = some (some (V.ref p.1)) ∧ Q (.bl (isx c j)) H) ∧ noStar a = true := by
  unfold flgOne at hk
  split at hk
  · rename_i f fp v vp cn cp kp
    simp only [Bool.and_eq_true, decide_eq_true_eq] at hk
    obtain ⟨rfl, k1, k2, rfl, k3, k4, k5⟩ := hk
    obtain ⟨ca, m1, m2⟩ := h.nam j cn k5
    have ov := okN_spec ho
    have oc := okN_spec k3
    refine ⟨(pe_callB (call_isP hp (h.exc c hc) h1 h2 h3) (glo_spec k1) (hbl _ k2) (by decide +kernel) (pa_cons (pe_var hN (vis_spec (by unfold visB; unfold locB at hl; revert hl; cases X.env.scope.names.lookup v with | none => exact id | some z => cases z <;> simp)) ov.1 ov.2.1) (pa_cons (pe_glob (v := V.ref ca) (glo_spec k4) m1 rfl oc.1) pa_nil rfl) rfl) (by decide) (by decide) rfl rfl).mono fun σ H Q q => ?_, rfl⟩
    exact ⟨_, q.1, .ref ca, .ref ca, isx c j, rfl, fun u r => r, m2 c hc, q.2⟩
  · cases hk
theorem flg_all (h : ClsOk X.K X.mg cA nx cl isx) (hbl : ∀ x ∈ bl, X.mg x = none) (hN : X.N[0]? = some e) (hp : p ∈ X.pn) {c : Nat} (hc : c < nx) (h1 : p.2.cls = .ref (cA c)) (h2 : p.2.dict = none) (h3 : ∃ vs, p.2.data = .fields vs) (hl : locB X.env.scope e = true) (ho : okN e = true) :
    ∀ {js : List Nat} {as : List Expr}, flgAll cl X.env.scope bl e js as = true → PA X as (fun σ H Q => σ[0]? = some (some (V.ref p.1)) ∧ Q ((js.map (isx c)).map V.bl) H)
  | [], [], _ => pa_nil.mono fun σ H Q q => q.2
  | [], _ :: _, z => by cases z
  | _ :: _, [], z => by cases z
  | j :: js, a :: as, z => by
    have z : (flgOne cl X.env.scope bl e j a && flgAll cl X.env.scope bl e js as) = true := z
    rw [Bool.and_eq_true] at z
    obtain ⟨g1, g2⟩ := flg_one h hbl hN hp hc h1 h2 h3 z.1 hl ho
    exact (pa_cons g1 (flg_all h hbl hN hp hc h1 h2 h3 hl ho z.2) (star1 g2 _ _)).mono fun σ H Q q => ⟨q.1, q.1, q.2⟩
/-- the def, asked about the error that a clause has caught -/
theorem flg_fn {f : Addr} {fd : FuncData} {N : List Str} {y qual : Str} {params : Arguments} {body : List Stmt} {dvs : List V} {kws : List (Str × V)} (D : L2.FunD K y qual params body sc dvs kws f fd) (S : FnScope N [e] sc) (h : ClsOk K mg cA nx cl isx) (hbl : ∀ x ∈ bl, mg x = none) {js : List Nat} (hj : js.length ≤ 1000)
    (hk : flgBody cl sc bl e js body = true) {c : Nat} (hc : c < nx) (h1 : p.2.cls = .ref (cA c)) (h2 : p.2.dict = none) (h3 : ∃ vs, p.2.data = .fields vs) : HotFn P w K mg base (L2N.CX P w) p 1 f fd [e] (spFlg p.1 (js.map (isx c))) := by
  have hN : N[0]? = some e := by
    have := S.pre
    cases N with
    | nil => cases this
    | cons x r => simp at this; rw [this]; rfl
  refine hotFn_of D S (fun vs H Q E ⟨z, _⟩ => by rw [z]; rfl) fun cdv A up s H vs Q E ht ⟨hv, hq⟩ => ?_
  subst hv
  unfold flgBody at hk
  split at hk
  · rename_i as lp rp
    simp only [Bool.and_eq_true] at hk
    obtain ⟨k1, k2, k3⟩ := hk
    refine ⟨_, pss_cons (ps_ret (pe_lst (flg_all (X := cxH (L2N.CX P w) P w K mg base N qual sc f cdv A up s H E p) h hbl hN List.mem_cons_self hc h1 h2 h3 k2 k1 k3))) pss_nil, ?_⟩
    refine ⟨?_, ?_, fun q hq0 => hq q hq0⟩
    · unfold L2.start
      simp
    · rw [List.length_map, List.length_map]
      have : (1000 : Nat) ≤ sizeLine := by decide
      omega
  · cases hk
end
/-- what the checks say of such a def -/
def FlgOk (K : PySem.W.Frag) (mg : Str → Option Value) (cA : Nat → Addr) (nm : Names) (T : Tab) (g : Nat) (x : Str) : Prop :=
  ∃ (f : Addr) (fd : FuncData) (e : Str) (N : List Str) (y qual : Str) (params : Arguments) (body : List Stmt) (sc : Scope) (dvs : List V) (kws : List (Str × V)) (js : List Nat) (cl : List Str) (isx : Nat → Nat → Bool),
    mg x = some (.ref f) ∧ PySem.W.keepIn K (.ref f) = true ∧ Binds K fd [e] [] ∧ L2.FunD K y qual params body sc dvs kws f fd ∧ FnScope N [e] sc ∧ ClsOk K mg cA T.nx cl isx ∧ js.length ≤ 1000 ∧ flgBody cl sc nm.bl e js body = true ∧ ∀ c, T.fl g c = js.map (isx c)
theorem flg_at {P : Program} {w : World} {K : PySem.W.Frag} {mg : Str → Option Value} {base : Heap} {cA : Nat → Addr} {nm : Names} {T : Tab} {g : Nat} {x : Str} (hbl : ∀ y ∈ nm.bl, mg y = none) (h : FlgOk K mg cA nm T g x) :
    ∃ f fd ps, mg x = some (.ref f) ∧ PySem.W.keepIn K (.ref f) = true ∧ Binds K fd ps [] ∧ ∀ (c : Nat) (p : Addr × Obj), c < T.nx → p.2.cls = .ref (cA c) → p.2.dict = none → (∃ vs, p.2.data = .fields vs) →
      HotFn P w K mg base (L2N.CX P w) p 1 f fd ps (spFlg p.1 (T.fl g c)) := by
  obtain ⟨f, fd, e, N, y, qual, params, body, sc, dvs, kws, js, cl, isx, h1, h2, h3, h4, h5, h6, h7, h8, h9⟩ := h
  refine ⟨f, fd, [e], h1, h2, h3, fun c p hc q1 q2 q3 => ?_⟩
  rw [h9 c]
  exact flg_fn h4 h5 h6 hbl h7 h8 hc q1 q2 q3
end Ev

end
section
set_option autoImplicit false
set_option linter.all false
set_option maxRecDepth 100000
/-! Expressions: displays, tests, slices. -/
namespace Ev
open PySem L2 PyProof.Rows

section
variable {nm : Names} {T : Tab} {cA fA : Nat → Addr} {n : Nat} {W : WX} {X : Cx} {ev : E → Env → Res (O × Env)} {exs : List S → Env → Res (Fl × Env)}

def isStar : E → Bool
  | .star _ => true
  | _ => false
def isLend : E → Bool
  | .lend _ => true
  | _ => false
theorem evDs_cons {e : E} (h : isStar e = false) (es : List E) (env : Env) : evDs ev (e :: es) env = (evD ev e env).bind fun p => (evDs ev es p.2).bind fun q => .ok (p.1 :: q.1, q.2) := by
  cases e <;> first | rfl | cases h
theorem chkL_cons {chk : Scope → E → Expr → Bool} {sc : Scope} {e : E} (h : isStar e = false) (es : List E) (a : Expr) (as : List Expr) : chkL chk sc (e :: es) (a :: as) = (noStar a && (chk sc e a && chkL chk sc es as)) := by
  cases e <;> first | rfl | cases h
theorem evArgs_cons {e : E} (h : isLend e = false) (es : List E) (env : Env) : evArgs ev (e :: es) env = (evD ev e env).bind fun p => (evArgs ev es p.2).bind fun q => .ok ((none, p.1) :: q.1, q.2) := by
  cases e <;> first | rfl | cases h
theorem chkA_cons {N : List Str} {chk : Scope → E → Expr → Bool} {sc : Scope} {e : E} (h : isLend e = false) (es : List E) (a : Expr) (as : List Expr) : chkA N chk sc (e :: es) (a :: as) = (noStar a && (chk sc e a && chkA N chk sc es as)) := by
  cases e <;> first | rfl | cases h

/-- a list of expressions -/
abbrev TL' (X : Cx) (cA : Nat → Addr) (W : WX) (r : Env → Res (List D × Env)) : TA := TG X.K cA W (rL X.K) r
theorem a_list (hX : At nm T cA fA n W X) {chk : Scope → E → Expr → Bool} (HE : ∀ e a, chk X.env.scope e a = true → PE X a (TO X cA W (ev e))) : ∀ (es : List E) (as : List Expr), chkL chk X.env.scope es as = true → PA X as (TL' X cA W (evDs ev es))
  | [], [], _ => pa_nil.mono fun σ H Q ⟨F, Af, env, s, p⟩ => PG.now p s ⟨rfl, .nil⟩
  | [], _ :: _, h => by cases h
  | e :: es, [], h => by cases e <;> cases h
  | e :: es, a :: as, h => by
    by_cases hs : isStar e = true
    · cases e with
      | star e =>
        cases a with
        | Starred b p =>
          have h' : (chk X.env.scope e b && chkL chk X.env.scope es as) = true := h
          rw [Bool.and_eq_true] at h'
          refine (StX.pa_star (HE e b h'.1).toD (a_list hX HE es as h'.2) rfl).mono fun σ H Q h => ?_
          refine TG.bind (rep := rD X.K) (r := evD ev e) (k := fun d env => match seq? d with | some xs => (evDs ev es env).bind fun q => .ok (xs ++ q.1, q.2) | none => .stuck) h fun d env1 v F1 H1 Af1 C s1 r1 nd un q => ?_
          have key : ∀ {a : Addr} {xs : List V} {ds : List D}, v = .ref a → (SqT X.K H1 a xs ∨ SqL X.K H1 a xs) → RepAll X.K F1 xs ds → seq? d = some ds → (∃ p xs, v = V.ref p ∧ (SqT X.K H1 p xs ∨ SqL X.K H1 p xs) ∧ TL' X cA W (evDs ev es) σ H1 fun ys H2 => Q (xs ++ ys) H2) := by
            intro a xs ds ev' hh r e'
            simp only [e'] at q
            refine ⟨a, xs, ev', hh, PG.tg s1 (PG.bind (k := fun ys env => .ok (ds ++ ys, env)) q fun ys env2 vs F2 H2 Af2 C2 _ s2 t2 r2 nd2 un2 q2 => ?_)⟩
            exact PG.now q2 s2 ⟨rfl, (r.mono t2.ex).append r2.2⟩
          cases d with
          | list ds =>
            obtain ⟨a, xs, e1, e2, e3⟩ := r1.2.lst_inv
            exact key e1 (.inr (SqL.of (s1.ex _ _ e2))) e3 rfl
          | tuple ds =>
            obtain ⟨a, xs, e1, e2, e3⟩ := r1.2.tup_inv
            exact key e1 (.inl (ex_t s1.ex e2)) e3 rfl
          | _ => exact q.elim
        | _ => cases h
      | _ => cases hs
    · have hs : isStar e = false := by simpa using hs
      rw [chkL_cons hs] at h
      simp only [Bool.and_eq_true] at h
      refine (pa_cons (HE e a h.2.1).toD (a_list hX HE es as h.2.2) (star1 h.1 _ _)).mono fun σ H Q h => ?_
      have h' : TL' X cA W (fun env => (evD ev e env).bind fun p => (evDs ev es p.2).bind fun q => .ok (p.1 :: q.1, q.2)) σ H Q := by
        rw [show evDs ev (e :: es) = _ from funext (evDs_cons hs es)] at h; exact h
      refine TG.bind (rep := rD X.K) (r := evD ev e) (k := fun d env => (evDs ev es env).bind fun q => .ok (d :: q.1, q.2)) h' fun d env1 v F1 H1 Af1 C s1 r1 nd un q => ?_
      refine PG.tg s1 (PG.bind (k := fun ys env => .ok (d :: ys, env)) q fun ys env2 vs F2 H2 Af2 C2 _ s2 t2 r2 nd2 un2 q2 => ?_)
      exact PG.now q2 s2 ⟨rfl, .cons (r1.2.mono t2.ex) r2.2⟩
theorem e_tup (hX : At nm T cA fA n W X) {es : List E} {as : List Expr} {k : Nat} {pos : Pos} (h : PA X as (TL' X cA W (evDs ev es))) : PE X (.Tuple as k pos) (TO X cA W (stepE T ev exs (.tup es))) := by
  refine (pe_tup h).mono fun σ H Q h => ?_
  refine TG.bind (rep := rL X.K) (r := evDs ev es) (k := fun ds env => if ds.length ≤ most then .ok (O.val (.tuple ds), env) else .stuck) h fun ds env1 vs F1 H1 Af1 C s1 r1 nd un q => ?_
  by_cases hz : ds.length ≤ most
  · rw [if_pos hz] at q
    exact ⟨by rw [r1.2.length]; exact Nat.le_trans hz most_line, fun p hp => q.newT s1 r1.2 hp⟩
  · rw [if_neg hz] at q; exact q.elim
theorem e_lst (hX : At nm T cA fA n W X) {es : List E} {as : List Expr} {pos : Pos} (h : PA X as (TL' X cA W (evDs ev es))) : PE X (.List as pos) (TO X cA W (stepE T ev exs (.lst es))) := by
  refine (pe_lst h).mono fun σ H Q h => ?_
  refine TG.bind (rep := rL X.K) (r := evDs ev es) (k := fun ds env => if ds.length ≤ most then .ok (O.lst (ds.map O.val), env) else .stuck) h fun ds env1 vs F1 H1 Af1 C s1 r1 nd un q => ?_
  by_cases hz : ds.length ≤ most
  · rw [if_pos hz] at q
    exact ⟨by rw [r1.2.length]; exact Nat.le_trans hz most_line, fun p hp => q.newL s1 r1.2 hp⟩
  · rw [if_neg hz] at q; exact q.elim

/-! tests -/
theorem rep_empty {K : PySem.W.Frag} {F : Hp} {vs : List V} {ds : List D} (r : RepAll K F vs ds) : (!ds.isEmpty) = !vs.isEmpty := by cases r <;> rfl
theorem truth_tru {K : PySem.W.Frag} {F H : Hp} {x : V} {d : D} {b : Bool} (r : Rep K F x d) (e : Ex F H) (h : truth d = some b) : TruV K x H b := by
  cases d with
  | none => cases r.non_inv; cases h; rfl
  | bool c => cases r.bl_inv; cases h; rfl
  | int i => cases r.int_inv; cases h; rfl
  | str z =>
    cases r.str_inv
    unfold truth at h
    by_cases hz : z.length ≤ most
    · simp only [hz, if_true, Option.some.injEq] at h
      refine ⟨Nat.le_trans hz most_line, ?_⟩
      rw [← h, Bool.eq_iff_iff]
      simp only [bne_iff_ne, ne_eq]
      exact ⟨fun h z => h (by exact_mod_cast z), fun h z => h (by exact_mod_cast z)⟩
    · simp only [hz, if_false] at h; cases h
  | list ds => obtain ⟨a, xs, rfl, e2, e3⟩ := r.lst_inv; cases h; exact .inl ⟨_, SqL.of (e _ _ e2), rep_empty e3⟩
  | tuple ds => obtain ⟨a, xs, rfl, e2, e3⟩ := r.tup_inv; cases h; exact .inr (.inl ⟨_, ex_t e e2, rep_empty e3⟩)
  | dict ds =>
    obtain ⟨a, kvs, rfl, e2, e3⟩ := r.dict_inv
    cases h
    refine .inr (.inr ⟨_, e _ _ e2, ?_⟩)
    cases e3 <;> rfl
def dflT : Expr → Bool
  | .UnaryOp .Not _ _ => false
  | .BoolOp _ _ _ => false
  | .IfExp _ _ _ _ => false
  | .Compare _ _ _ _ => false
  | _ => true
theorem t_dfl (hX : At nm T cA fA n W X) {e : E} {a : Expr} (hd : dflT a = true) (h : PE X a (TO X cA W (ev e))) : PT X a (TT' X cA W (truthE ev e)) := by
  have he : ∀ whole, isTrue a X.env whole = (do let v ← whole; standAt a.pos; holding [v] (truthy v)) := by
    intro whole
    cases a with
    | UnaryOp op b p => cases op <;> first | rfl | cases hd
    | _ => first | rfl | cases hd
  refine (pt_truth h.toD he).mono fun σ H Q h => ?_
  refine TG.bind (rep := rD X.K) (r := evD ev e) (k := fun d env => match truth d with | some b => .ok (b, env) | none => .stuck) h fun d env1 v F1 H1 Af1 C s1 r1 nd un q => ?_
  cases ht : truth d with
  | none => rw [ht] at q; exact q.elim
  | some b =>
    rw [ht] at q
    exact ⟨b, truth_tru r1.2 s1.ex ht, PG.now q s1 ⟨rfl, rfl⟩⟩

/-- what gives a truth value, as a test -/
theorem TG.test {K : PySem.W.Frag} {r : Env → Res (O × Env)} {σ : L2.St} {H : Hp} {Q : Bool → Hp → Prop} (hb : ∀ env o env', r env = .ok (o, env') → ∃ b, o = .val (.bool b))
    (h : TG K cA W rB (fun env => ((r env).bind fzD).bind fun p => match truth p.1 with | some b => .ok (b, p.2) | none => .stuck) σ H Q) : TG K cA W (rO K) r σ H (fun x H' => ∃ k, x = .bl k ∧ Q k H') := by
  obtain ⟨F, Af, env, s, p⟩ := h
  refine ⟨F, Af, env, s, ?_⟩
  cases e : r env with
  | stuck => simp only [e] at p; exact p
  | err c => simp only [e] at p; exact p
  | ok z =>
    obtain ⟨o, env'⟩ := z
    obtain ⟨b, rfl⟩ := hb env o env' e
    simp only [e] at p
    intro v F' H' Af' C s' t r' nd un
    obtain ⟨r1, rfl⟩ := RO.val_inv r'
    cases r1.bl_inv
    exact ⟨b, rfl, p b F' H' Af' [] s' t ⟨rfl, rfl⟩ .nil fun _ z => nomatch z⟩
theorem cmp_bool {o : Op2} {op : CmpOp} (h : cmpOf o = some op) {d e : D} {r : O} (hr : ev2 o d e = some r) : ∃ b, r = .val (.bool b) := by
  cases o <;> cases h
  · simp only [ev2] at hr; split at hr <;> cases hr; exact ⟨_, rfl⟩
  · simp only [ev2] at hr; split at hr <;> cases hr; exact ⟨_, rfl⟩
  · rcases ev2_lt d e with ⟨i, j, rfl, rfl⟩ | hg
    · cases hr; exact ⟨_, rfl⟩
    · rw [hg] at hr
      split at hr <;> cases hr; exact ⟨_, rfl⟩
  · rcases ev2_le d e with ⟨i, j, rfl, rfl⟩ | hg
    · cases hr; exact ⟨_, rfl⟩
    · rw [hg] at hr
      split at hr <;> cases hr; exact ⟨_, rfl⟩
  · rcases ev2_gt d e with ⟨i, j, rfl, rfl⟩ | hg
    · cases hr; exact ⟨_, rfl⟩
    · rw [hg] at hr
      split at hr <;> cases hr; exact ⟨_, rfl⟩
  · rcases ev2_ge d e with ⟨i, j, rfl, rfl⟩ | hg
    · cases hr; exact ⟨_, rfl⟩
    · rw [hg] at hr
      split at hr <;> cases hr; exact ⟨_, rfl⟩
  · simp only [ev2] at hr; split at hr
    · split at hr <;> cases hr; exact ⟨_, rfl⟩
    · cases hr
  · simp only [ev2] at hr; split at hr
    · split at hr <;> cases hr; exact ⟨_, rfl⟩
    · cases hr
  · cases d <;> cases e <;> cases hr <;> exact ⟨_, rfl⟩
  · cases d <;> cases e <;> cases hr <;> exact ⟨_, rfl⟩
  · cases d <;> cases e <;> cases hr; exact ⟨_, rfl⟩
  · cases d <;> cases e <;> cases hr; exact ⟨_, rfl⟩
theorem Res.bind_ok {α β : Type} {r : Res α} {f : α → Res β} {b : β} (h : r.bind f = .ok b) : ∃ a, r = .ok a ∧ f a = .ok b := by
  cases r with
  | ok a => exact ⟨a, rfl, h⟩
  | err c => cases h
  | stuck => cases h
theorem resO_ok {o : Option O} {env : Env} {p : O × Env} (h : resO o env = .ok p) : o = some p.1 ∧ p.2 = env := by
  cases o with
  | none => cases h
  | some r => cases h; exact ⟨rfl, rfl⟩
theorem truthE_ok' (e : E) (env : Env) : truthE ev e env = (evD ev e env).bind fun p => match truth p.1 with | some b => .ok (b, p.2) | none => .stuck := rfl
theorem truthE_eq (e : E) (env : Env) : truthE ev e env = ((ev e env).bind fzD).bind fun p => match truth p.1 with | some b => .ok (b, p.2) | none => .stuck := rfl
theorem t_cmp (hX : At nm T cA fA n W X) {o : Op2} {op : CmpOp} {x y : E} {b c : Expr} {pos : Pos} (ho : cmpOf o = some op) (hm : plainIt c = true) (hb : PE X b (TO X cA W (ev x))) (hc : PE X c (TO X cA W (ev y))) : PT X (.Compare b [op] [c] pos) (TT' X cA W (truthE (stepE T ev exs) (.op2 o x y))) := by
  refine (pt_cmpR (k_op (cA := cA) (Wx := W) hX.hu ho) hb.toD hc.toD (plain_mark hm)).mono fun σ H Q h => ?_
  refine tOp2 (TG.test (fun env r env' e => ?_) h)
  rw [show stepE T ev exs (.op2 o x y) env = _ from congrFun bindK2 env] at e
  obtain ⟨p, _, e⟩ := Res.bind_ok e
  obtain ⟨q, _, e⟩ := Res.bind_ok e
  exact cmp_bool ho (resO_ok e).1
theorem t_inG (hX : At nm T cA fA n W X) {neg : Bool} {g : Nat} {x : E} {b : Expr} {op : CmpOp} {f : Str} {p0 pos : Pos} (ho : op = if neg then .NotIn else .In) (hg : isGl nm.gd X.env.scope g f = true) (hb : PE X b (TO X cA W (ev x))) : PT X (.Compare b [op] [.Name f p0] pos) (TT' X cA W (truthE (stepE T ev exs) (.inG neg g x))) := by
  subst ho
  obtain ⟨a, es, k, t, hn, m3, m4, m5⟩ := n_glb (p0 := p0) hX hg
  refine (pt_cmpR (op_inG m3 m5 neg) hb.toD hn (plain_mark rfl)).mono fun σ H Q h => inG_core m4 (TG.test (fun env r env' e => ?_) h)
  rw [stepE_inG] at e
  obtain ⟨p, _, e⟩ := Res.bind_ok e
  split at e
  · cases e; exact ⟨_, rfl⟩
  · cases e
theorem e_not (hX : At nm T cA fA n W X) {x : E} {b : Expr} {pos : Pos} (hb : PE X b (TO X cA W (ev x))) : PE X (.UnaryOp .Not b pos) (TO X cA W (stepE T ev exs (.not x))) := by
  refine (pe_notT hb.toD).mono fun σ H Q h => ?_
  have h' : TO X cA W (fun env => (evD ev x env).bind fun p => match truth p.1 with | some b => .ok (O.val (.bool (!b)), p.2) | none => .stuck) σ H Q := by
    refine (show (fun env => (evD ev x env).bind fun p => match truth p.1 with | some b => .ok (O.val (.bool (!b)), p.2) | none => .stuck) = stepE T ev exs (.not x) from ?_) ▸ h
    funext env
    show _ = (truthE ev x env).bind _
    unfold truthE
    cases evD ev x env with
    | ok p => simp only [Res.bind]; cases truth p.1 <;> rfl
    | err c => rfl
    | stuck => rfl
  refine TG.bind (rep := rD X.K) (r := evD ev x) (k := fun d env => match truth d with | some b => .ok (O.val (.bool (!b)), env) | none => .stuck) h' fun d env1 v F1 H1 Af1 C s1 r1 nd un q => ?_
  cases ht : truth d with
  | none => rw [ht] at q; exact q.elim
  | some b => rw [ht] at q; exact ⟨b, truth_tru r1.2 s1.ex ht, q.nowV s1 (.bl _)⟩
theorem t_not (hX : At nm T cA fA n W X) {x : E} {b : Expr} {pos : Pos} (hb : PT X b (TT' X cA W (truthE ev x))) : PT X (.UnaryOp .Not b pos) (TT' X cA W (truthE (stepE T ev exs) (.not x))) := by
  refine (pt_not hb).mono fun σ H Q h => ?_
  have h' : TT' X cA W (fun env => (truthE ev x env).bind fun p => .ok (!p.1, p.2)) σ H Q := by
    refine (show truthE (stepE T ev exs) (.not x) = fun env => (truthE ev x env).bind fun p => .ok (!p.1, p.2) from ?_) ▸ h
    funext env
    rw [truthE_eq, stepE_not]
    cases truthE ev x env <;> rfl
  refine TG.bind (rep := rB) (r := truthE ev x) (k := fun b env => .ok (!b, env)) h' fun d env1 v F1 H1 Af1 C s1 r1 nd un q => ?_
  rw [r1.2]; exact PG.now q s1 ⟨rfl, rfl⟩
theorem e_and (hX : At nm T cA fA n W X) {x y : E} {b c : Expr} {r : List Expr} {pos : Pos} (hb : PE X b (TO X cA W (ev x))) (hc : PE X (.BoolOp .And (c :: r) pos) (TO X cA W (ev y))) : PE X (.BoolOp .And (b :: c :: r) pos) (TO X cA W (stepE T ev exs (.and x y))) := by
  refine (pe_and hb.toD hc).mono fun σ H Q h => ?_
  refine TG.bind (rep := rD X.K) (r := evD ev x) (k := fun d env => match d with | .bool true => ev y env | .bool false => .ok (O.val (.bool false), env) | _ => .stuck) h fun d env1 v F1 H1 Af1 C s1 r1 nd un q => ?_
  cases d with
  | bool k =>
    cases r1.2.bl_inv
    refine ⟨k, rfl, ?_⟩
    cases k with
    | true => exact PG.tg s1 q
    | false => exact q.nowV s1 (.bl _)
  | _ => exact q.elim
theorem e_or (hX : At nm T cA fA n W X) {x y : E} {b c : Expr} {r : List Expr} {pos : Pos} (hb : PE X b (TO X cA W (ev x))) (hc : PE X (.BoolOp .Or (c :: r) pos) (TO X cA W (ev y))) : PE X (.BoolOp .Or (b :: c :: r) pos) (TO X cA W (stepE T ev exs (.or x y))) := by
  refine (pe_or hb.toD hc).mono fun σ H Q h => ?_
  refine TG.bind (rep := rD X.K) (r := evD ev x) (k := fun d env => match d with | .bool true => .ok (O.val (.bool true), env) | .bool false => ev y env | _ => .stuck) h fun d env1 v F1 H1 Af1 C s1 r1 nd un q => ?_
  cases d with
  | bool k =>
    cases r1.2.bl_inv
    refine ⟨k, rfl, ?_⟩
    cases k with
    | true => exact q.nowV s1 (.bl _)
    | false => exact PG.tg s1 q
  | _ => exact q.elim
theorem w_and (hX : At nm T cA fA n W X) {x y : E} {b c : Expr} {r : List Expr} {pos : Pos} (hb : PT X b (TT' X cA W (truthE ev x))) (hc : PW X (.BoolOp .And (c :: r) pos) (TT' X cA W (truthE ev y))) : PW X (.BoolOp .And (b :: c :: r) pos) (TT' X cA W (truthE (stepE T ev exs) (.and x y))) := by
  refine (pw_and hb hc).mono fun σ H Q h => ?_
  obtain ⟨F, Af, env, s, p⟩ := h
  refine ⟨F, Af, env, s, ?_⟩
  rw [truthE_eq, stepE_and] at p
  rw [truthE_ok']
  cases e : evD ev x env with
  | stuck => rw [e] at p; exact p
  | err c => rw [e] at p; exact p
  | ok z =>
    obtain ⟨d, env'⟩ := z
    rw [e] at p
    cases d with
    | bool k =>
      cases k with
      | true => exact fun v F' H' Af' C s' t r nd un => by obtain rfl : v = true := r.2; exact PG.tg s' (PG.step t p)
      | false => exact fun v F' H' Af' C s' t r nd un => by obtain rfl : v = false := r.2; exact p false F' H' Af' C s' t r nd un
    | _ => exact p.elim
theorem w_or (hX : At nm T cA fA n W X) {x y : E} {b c : Expr} {r : List Expr} {pos : Pos} (hb : PT X b (TT' X cA W (truthE ev x))) (hc : PW X (.BoolOp .Or (c :: r) pos) (TT' X cA W (truthE ev y))) : PW X (.BoolOp .Or (b :: c :: r) pos) (TT' X cA W (truthE (stepE T ev exs) (.or x y))) := by
  refine (pw_or hb hc).mono fun σ H Q h => ?_
  obtain ⟨F, Af, env, s, p⟩ := h
  refine ⟨F, Af, env, s, ?_⟩
  rw [truthE_eq, stepE_or] at p
  rw [truthE_ok']
  cases e : evD ev x env with
  | stuck => rw [e] at p; exact p
  | err c => rw [e] at p; exact p
  | ok z =>
    obtain ⟨d, env'⟩ := z
    rw [e] at p
    cases d with
    | bool k =>
      cases k with
      | true => exact fun v F' H' Af' C s' t r nd un => by obtain rfl : v = true := r.2; exact p true F' H' Af' C s' t r nd un
      | false => exact fun v F' H' Af' C s' t r nd un => by obtain rfl : v = false := r.2; exact PG.tg s' (PG.step t p)
    | _ => exact p.elim
theorem e_ite (hX : At nm T cA fA n W X) {c x y : E} {t b d : Expr} {pos : Pos} (hc : PT X t (TT' X cA W (truthE ev c))) (hb : PE X b (TO X cA W (ev x))) (hd : PE X d (TO X cA W (ev y))) : PE X (.IfExp t b d pos) (TO X cA W (stepE T ev exs (.ite c x y))) := by
  refine (pe_ifExp hc hb hd).mono fun σ H Q h => ?_
  refine TG.bind (rep := rB) (r := truthE ev c) (k := fun k env => if k then ev x env else ev y env) h fun d env1 v F1 H1 Af1 C s1 r1 nd un q => ?_
  obtain rfl : v = d := r1.2
  cases v with
  | true => exact PG.tg s1 q
  | false => exact PG.tg s1 q
theorem tChain2 {o1 o2 : Op2} {x y z : E} {p1 : CmpOp} (ho : cmpOf o1 = some p1) {σ : L2.St} {H : Hp} {Q : VK} (h : TO X cA W (stepE T ev exs (.chain o1 o2 x y z)) σ H Q) : tChain (R2e X.K cA W o1) (R2e X.K cA W o2) (TD X cA W (evD ev x)) (TD X cA W (evD ev y)) (TD X cA W (evD ev z)) σ H Q := by
  refine TG.bind (rep := rD X.K) (r := evD ev x) (k := fun d env => (evD ev y env).bind fun q => match ev2 o1 d q.1 with
    | some (.val (.bool true)) => (evD ev z q.2).bind fun r => match ev2 o2 q.1 r.1 with
      | some o => .ok (o, r.2)
      | none => .stuck
    | some (.val (.bool false)) => .ok (O.val (.bool false), q.2)
    | _ => .stuck) h fun d env1 v F1 H1 Af1 C s1 r1 nd un q => ?_
  refine PG.tg s1 (PG.bind (k := fun e env => match ev2 o1 d e with
    | some (.val (.bool true)) => (evD ev z env).bind fun r => match ev2 o2 e r.1 with
      | some o => .ok (o, r.2)
      | none => .stuck
    | some (.val (.bool false)) => .ok (O.val (.bool false), env)
    | _ => .stuck) q fun e env2 w F2 H2 Af2 C2 _ s2 t2 r2 nd2 un2 q2 => ?_)
  refine ⟨σ, F2, Af2, env2, d, e, s2, r1.2.mono t2.ex, r2.2, ?_⟩
  cases e1 : ev2 o1 d e with
  | none => rw [e1] at q2; exact q2.elim
  | some o =>
    obtain ⟨b, rfl⟩ := cmp_bool ho e1
    rw [e1] at q2
    intro v3 F3 H3 Af3 C3 s3 t3 r3 nd3 un3
    obtain ⟨r4, rfl⟩ := RO.val_inv r3
    cases r4.bl_inv
    refine ⟨b, rfl, ?_⟩
    cases b with
    | false => exact PG.nowV (PG.step t3 q2) s3 (.bl _)
    | true =>
      refine PG.tg s3 (PG.bind (k := fun g env => resO (ev2 o2 e g) env) (PG.step t3 q2) fun g env4 u F4 H4 Af4 C4 _ s4 t4 r5 nd4 un4 q4 => ?_)
      exact ⟨σ, F4, Af4, env4, e, g, s4, (r2.2.mono t3.ex).mono t4.ex, r5.2, q4⟩
theorem e_chain (hX : At nm T cA fA n W X) {o1 o2 : Op2} {p1 p2 : CmpOp} {x y z : E} {b c d : Expr} {pos : Pos} (h1 : cmpOf o1 = some p1) (h2 : cmpOf o2 = some p2) (hm : plainIt d = true) (hb : PE X b (TO X cA W (ev x))) (hc : PE X c (TO X cA W (ev y))) (hd : PE X d (TO X cA W (ev z))) :
    PE X (.Compare b [p1, p2] [c, d] pos) (TO X cA W (stepE T ev exs (.chain o1 o2 x y z))) :=
  (pe_chain (k_op (cA := cA) (Wx := W) hX.hu h1) (k_op (cA := cA) (Wx := W) hX.hu h2) hb.toD hc.toD hd.toD (plain_mark hm)).mono fun _ _ _ h => tChain2 h1 h
theorem t_chain (hX : At nm T cA fA n W X) {o1 o2 : Op2} {p1 p2 : CmpOp} {x y z : E} {b c d : Expr} {pos : Pos} (h1 : cmpOf o1 = some p1) (h2 : cmpOf o2 = some p2) (hm : plainIt d = true) (hb : PE X b (TO X cA W (ev x))) (hc : PE X c (TO X cA W (ev y))) (hd : PE X d (TO X cA W (ev z))) :
    PT X (.Compare b [p1, p2] [c, d] pos) (TT' X cA W (truthE (stepE T ev exs) (.chain o1 o2 x y z))) := by
  refine (pt_chain (k_op (cA := cA) (Wx := W) hX.hu h1) (k_op (cA := cA) (Wx := W) hX.hu h2) hb.toD hc.toD hd.toD (plain_mark hm)).mono fun σ H Q h => tChain2 h1 (TG.test (fun env r env' e => ?_) h)
  rw [stepE_chain] at e
  obtain ⟨p, _, e⟩ := Res.bind_ok e
  obtain ⟨q, _, e⟩ := Res.bind_ok e
  split at e
  · obtain ⟨g, _, e⟩ := Res.bind_ok e
    split at e
    · rename_i o eo; cases e; exact cmp_bool h2 eo
    · cases e
  · cases e; exact ⟨_, rfl⟩
  · cases e
end
end Ev

end
section
set_option autoImplicit false
set_option linter.all false
set_option maxRecDepth 100000
/-! Expressions: parts of lists and tuples, ranges as lists. -/
namespace HT
open PySem PySem.Spec PyProof.Rows
section
variable {prog : Program} {w : World} {A : Around} {E : Value → Shared → Prop} {s : Shared}
theorem adjust_back (n : Nat) : Builtin.Slice.sliceAdjust none none (-1) (n : Int) = ((n : Int) - 1, -1) := rfl
theorem places_back (n : Nat) : Builtin.Slice.slicePlaces ((n : Int) - 1) (-1) (-1) = n := by
  unfold Builtin.Slice.slicePlaces
  have h1 : ¬ ((-1 : Int) > 0) := by omega
  have h2 : (- -1 : Int) = 1 := rfl
  simp only [h1, if_false, h2, Int.ediv_one]
  split <;> omega
theorem pick_back (xs : Array Value) : ((List.range xs.size).filterMap fun (m : Nat) => xs[(((xs.size : Nat) : Int) - 1 + (m : Int) * -1).toNat]?).toArray = xs.toList.reverse.toArray := by
  have e : ((List.range xs.size).filterMap fun (m : Nat) => xs[(((xs.size : Nat) : Int) - 1 + (m : Int) * -1).toNat]?) = ((List.range xs.size).map fun k => xs.size - 1 - k).filterMap (xs[·]?) := by
    rw [List.filterMap_map]
    congr 1
    funext m
    have : ((((xs.size : Nat) : Int) - 1 + (m : Int) * -1)).toNat = xs.size - 1 - m := by omega
    rw [this]
    rfl
  rw [e, PySem.W.krv_range, List.filterMap_reverse, PySem.W.krv_all]
theorem sliceApplied_back {sl : Addr} {vk : Value} {n : Nat} {Q : Int × Int × Nat → Shared → Prop} (hs : s.heap.IsSliceOf sl .none .none vk) (pk : IsPart vk (some (-1)))
    (h : Q (((n : Nat) : Int) - 1, -1, n) s) : wpAny (model prog w) A (Builtin.Slice.sliceApplied (.ref sl) (pure (n : Int))) Q E s := by
  obtain ⟨os, hos, hcs, hds⟩ := id hs
  unfold Builtin.Slice.sliceApplied Builtin.Slice.sliceFields
  refine wpAny_bind (wpAny_bind (wpAny_field hos hds (x := .none) rfl (wpAny_bind (wpAny_field hos hds (x := .none) rfl (wpAny_bind (wpAny_field hos hds (x := vk) rfl (wpAny_pure ?_)))))))
  refine wpAny_bind (slicePart_ pk ?_)
  show wpAny _ _ (if ((-1 : Int) == 0) = true then _ else _) _ _ s
  rw [if_neg (by decide)]
  refine wpAny_bind (slicePart_none (wpAny_bind (slicePart_none (wpAny_bind (wpAny_pure ?_)))))
  show wpAny _ _ (match Builtin.Slice.sliceAdjust none none (-1) (n : Int) with | (lo, hi) => pure (lo, (-1 : Int), Builtin.Slice.slicePlaces lo hi (-1))) _ _ s
  rw [adjust_back n]
  show wpAny _ _ (pure (((n : Nat) : Int) - 1, (-1 : Int), Builtin.Slice.slicePlaces (((n : Nat) : Int) - 1) (-1) (-1))) _ _ s
  rw [places_back]
  exact wpAny_pure h
theorem getItem_tuple_back {t sl : Addr} {items : Array Value} {vk : Value} {Q : Value → Shared → Prop} (ht : IsTup s.heap t items) (hs : s.heap.IsSliceOf sl .none .none vk) (pk : IsPart vk (some (-1)))
    (h : Q (.ref s.heap.objs.size) { s with heap := s.heap.push { cls := .type "tuple", data := .seq items.toList.reverse.toArray } })
    (hsz : items.size ≤ sizeLine) : wpAny (model prog w) A (getItem (.ref t) (.ref sl)) Q E s := by
  have htake : sizeOk (.seq items.toList.reverse.toArray) := by
    show items.toList.reverse.toArray.size ≤ sizeLine
    rw [List.size_toArray, List.length_reverse, Array.length_toList]
    exact hsz
  obtain ⟨os, hos, hcs, hds⟩ := id hs
  have hTs : s.TypeIs (.ref sl) "slice" := ⟨os, hos, hcs⟩
  unfold getItem
  try with_reducible refine wpAny_holding ?_
  first | refine wpAny_bind (wpAny_pure ?_) | skip
  refine wpAny_bind (wpAny_sequenceKey ht.typeIs (by decide) ?_)
  refine wpAny_bind (wpAny_callSpecial?_slot (name := Str.ofString "__getitem__") ht.typeIs PyProof.Rows.slot_tuple_getitem
    (wpAny_call_entry PyProof.Rows.slot_tuple_getitem ht.typeIs entry_tuple_getitem ?_ (args_tuple_getitem _ _)))
  show wpAny _ _ (Builtin.Tuple.tupleItemsOf (.ref t) >>= _) _ _ s
  refine wpAny_bind (tupleItemsOf_ ht ?_)
  refine wpAny_bind (wpAny_typeOf hTs ?_)
  rw [if_pos (by decide)]
  refine wpAny_bind (sliceApplied_back hs pk ?_)
  have hno : ¬ (((((items.size : Nat) : Int) - 1) == 0 && (-1 : Int) == 1 && items.size == items.size) = true) := by simp
  show wpAny _ _ (if ((((items.size : Nat) : Int) - 1) == 0 && (-1 : Int) == 1 && items.size == items.size) = true then _ else _) _ _ s
  rw [if_neg hno, pick_back]
  first
    | exact wpAny_bind (m := Builtin.Tuple.tupleExact _) (wpAny_newObj_type (wpAny_pure ⟨_, rfl, wpAny_pure h⟩) htake)
    | exact wpAny_bind (m := Builtin.Tuple.tupleExact _) (wpAny_newObj_type (wpAny_bind (wpAny_pure (wpAny_pure ⟨_, rfl, wpAny_pure h⟩))) htake)
    | exact wpAny_bind (wpAny_bind (m := Builtin.Tuple.tupleExact _) (wpAny_newObj_type (wpAny_pure (wpAny_pure ⟨_, rfl, wpAny_pure h⟩)) htake))
    | exact wpAny_bind (wpAny_bind (m := Builtin.Tuple.tupleExact _) (wpAny_newObj_type (wpAny_pure ⟨_, rfl, wpAny_pure h⟩) htake))
end
end HT
namespace Ev
open PySem L2 PyProof.Rows

theorem _root_.L2.PO.mono {X : Cx} {e : Option Expr} {t t' : L2.TO} (h : PO X e t) (m : ∀ σ H Q, t' σ H Q → t σ H Q) : PO X e t' := ⟨fun pins s σ H Q I q => h.run pins s σ H Q I (m σ H Q q)⟩
theorem _root_.L2.SlR.mono {X : Cx} {r r' : V → Option Int → Option Int → Hp → VK → Prop} (h : L2.SlR X r) (m : ∀ x lo hi H Q, r' x lo hi H Q → r x lo hi H Q) : L2.SlR X r' := fun pins s σ H x v vl vu lo hi sl Q I rx hs pl pu q => h pins s σ H x v vl vu lo hi sl Q I rx hs pl pu (m x lo hi H Q q)
def rI : Rp (Option Int) (Option Int) := fun _ _ x y C => C = [] ∧ x = y
section
variable {nm : Names} {T : Tab} {cA fA : Nat → Addr} {n : Nat} {W : WX} {X : Cx} {ev : E → Env → Res (O × Env)} {exs : List S → Env → Res (Fl × Env)}
abbrev TP (X : Cx) (cA : Nat → Addr) (W : WX) (r : Env → Res (Option Int × Env)) : L2.TO := TG X.K cA W rI r
theorem o_none : PO X none (TP X cA W (optI ev none)) := po_none.mono fun σ H Q ⟨F, Af, env, s, p⟩ => PG.now p s ⟨rfl, rfl⟩
theorem o_some {e : E} {a : Expr} (h : PE X a (TO X cA W (ev e))) : PO X (some a) (TP X cA W (optI ev (some e))) := by
  refine (po_some h.toD).mono fun σ H Q h => ?_
  refine TG.bind (rep := rD X.K) (r := evD ev e) (k := fun d env => match d with | .int i => .ok (some i, env) | _ => .stuck) h fun d env1 v F1 H1 Af1 C s1 r1 nd un q => ?_
  cases d with
  | int i => cases r1.2.int_inv; exact ⟨i, rfl, PG.now q s1 ⟨rfl, rfl⟩⟩
  | _ => exact q.elim
theorem rep_cut {K : PySem.W.Frag} {F : Hp} {vs : List V} {ds : List D} (r : RepAll K F vs ds) (lo hi : Option Int) : RepAll K F (cutV vs lo hi) (cutD ds lo hi) := by
  unfold cutV cutD
  rw [r.length]
  exact (r.drop _).take _
theorem cut_all {ds : List D} {lo hi : Option Int} (h : HT.sIx ds.length 0 lo = 0 ∧ HT.sIx ds.length ds.length hi = ds.length) : cutD ds lo hi = ds := by
  unfold cutD
  rw [h.1, h.2, List.drop_zero, Nat.sub_zero, List.take_length]
def rSlE (K : PySem.W.Frag) (cA : Nat → Addr) (W : WX) : V → Option Int → Option Int → Hp → VK → Prop := fun x lo hi H Q => ∃ (σ : L2.St) (F : Hp) (Af : Nat → List Addr) (env : Env) (d : D), SR K F H σ env Af ∧ Rep K F x d ∧ PG K cA W (rO K) σ F H Af (resO (slice1 d lo hi) env) Q
theorem sl_E : L2.SlR X (rSlE X.K cA W) := by
  refine L2.SlR.mono (L2.SlR.or sl_list sl_tupA) fun x lo hi H Q ⟨σ, F, Af, env, d, S, r, p⟩ => ?_
  cases d with
  | list ds =>
    obtain ⟨a, xs, rfl, e2, e3⟩ := r.lst_inv
    exact .inl ⟨a, xs, rfl, SqL.of (S.ex _ _ e2), fun q hq => PG.newL p S (rep_cut e3 lo hi) hq⟩
  | tuple ds =>
    obtain ⟨a, xs, rfl, e2, e3⟩ := r.tup_inv
    refine .inr ⟨a, xs, rfl, ex_t S.ex e2, fun h => ?_, fun _ q hq => PG.newT p S (rep_cut e3 lo hi) hq⟩
    rw [e3.length] at h
    have p' : PG X.K cA W (rO X.K) σ F H Af (.ok (O.val (.tuple (cutD ds lo hi)), env)) Q := p
    rw [cut_all h] at p'
    exact p'.nowV S r
  | _ => exact p.elim
theorem e_slice (hX : At nm T cA fA n W X) {x : E} {lo hi : Option E} {a : Expr} {l u : Option Expr} {p2 pos : Pos} (ha : PE X a (TO X cA W (ev x))) (hl : PO X l (TP X cA W (optI ev lo))) (hu : PO X u (TP X cA W (optI ev hi))) :
    PE X (.Subscript a (.Slice l u none p2) pos) (TO X cA W (stepE T ev exs (.slice x lo hi))) := by
  refine (pe_slice (sl_E (cA := cA) (W := W)) ha.toD hl hu).mono fun σ H Q h => ?_
  have h' : TO X cA W (fun env => (evD ev x env).bind fun p => (optI ev lo p.2).bind fun q => (optI ev hi q.2).bind fun r => resO (slice1 p.1 q.1 r.1) r.2) σ H Q := h
  refine TG.bind (rep := rD X.K) (r := evD ev x) (k := fun d env => (optI ev lo env).bind fun q => (optI ev hi q.2).bind fun r => resO (slice1 d q.1 r.1) r.2) h' fun d env1 v F1 H1 Af1 C s1 r1 nd un q => ?_
  refine PG.tg s1 (PG.bind (rep := rI) (k := fun i env => (optI ev hi env).bind fun r => resO (slice1 d i r.1) r.2) q fun i env2 j F2 H2 Af2 C2 _ s2 t2 r2 nd2 un2 q2 => ?_)
  refine PG.tg s2 (PG.bind (rep := rI) (k := fun i' env => resO (slice1 d i i') env) q2 fun i' env3 j' F3 H3 Af3 C3 _ s3 t3 r3 nd3 un3 q3 => ?_)
  obtain rfl : j = i := r2.2
  obtain rfl : j' = i' := r3.2
  exact ⟨σ, F3, Af3, env3, d, s3, (r1.2.mono t2.ex).mono t3.ex, q3⟩

/-- x[::-1] -/
def tBack (K : PySem.W.Frag) (te : TE) : TE := fun σ H Q => te σ H fun x H1 => (∃ a xs, x = .ref a ∧ SqL K H1 a xs ∧ ∀ p, H1 p = none → Q (.ref p) (upd H1 p (.lst xs.reverse))) ∨ (∃ a xs, x = .ref a ∧ SqT K H1 a xs ∧ ∀ p, H1 p = none → Q (.ref p) (upd H1 p (.tup xs.reverse)))
theorem _root_.L2.Vals.reverse' {xs : List V} {us : List Value} (r : Vals xs us) : Vals xs.reverse us.reverse := r.reverse
theorem pe_back {e : Expr} {te : TE} {p1 p2 p3 pos : Pos} {kd : Nat} (he : PE X e te) : PE X (.Subscript e (.Slice none none (some (.UnaryOp .USub (.Constant (.int 1) kd p1) p2)) p3) pos) (tBack X.K te) := by
  refine ⟨fun pins s σ H Q I h => ?_⟩
  refine Subscript_ (thn (he.run pins s σ H _ I h) fun v s1 ⟨x, H1, I1, r1, q1⟩ => ?_)
  refine wpAny_Slice ?_
  rw [evalPart_none]
  refine wpAny_pure ?_
  refine wpAny_pure ?_
  have hp : PO X (some (.UnaryOp .USub (.Constant (.int 1) kd p1) p2)) (tPart (tUn _ (tC (.int 1)))) := po_some (pe_un un_neg pe_int)
  refine thn (hp.run pins s1 σ H1 (fun o H' => o = some (-1) ∧ H' = H1) I1 ⟨1, rfl, -1, rfl, rfl, rfl⟩) fun vk s2 ⟨o, H2, I2, pk, eo, eh⟩ => ?_
  subst eo eh
  have I4 : Inv X pins σ H2 { s2 with heap := s2.heap.push { cls := .type "slice", data := .fields #[.none, .none, vk] } } := I2.kept (t' := s2.toks) fun b ob q => Heap.get?_push_of_some _ q
  rcases q1 with ⟨a, xs, rfl, hs, q⟩ | ⟨a, xs, rfl, hs, q⟩
  · cases r1
    obtain ⟨its, r, ht, hz⟩ := I4.list hs
    refine tail_any (ops := [.ref a, .ref s2.heap.objs.size]) ht.isList.typeIs slot_list_getitem.lookup ?_ (by with_unfolding_all rfl)
    refine wpAny_getItem_list_slice ht.isList (Heap.IsSliceOf.new ..) .none .none pk (by decide) ?_ (by rw [List.size_toArray, ← r.length]; exact hz)
    rw [PySem.W.krv_pick, show its.toArray.toList.reverse.toArray = its.reverse.toArray from rfl]
    refine ⟨.ref _, _, I4.laid (t' := s2.toks) (o := .lst xs.reverse) (fun b ob q => Heap.get?_push_of_some _ q) (Nat.le_refl _) ?_, rfl, q _ (I4.hok.fresh (Nat.le_refl _))⟩
    exact ⟨by rw [List.length_reverse]; exact hz, _, 0, r.reverse, Heap.get?_push_size _ rfl⟩
  · cases r1
    obtain ⟨its, r, ht, hz⟩ := I4.tuple hs
    refine tail_any (ops := [.ref a, .ref s2.heap.objs.size]) ht.typeIs PyProof.Rows.slot_tuple_getitem.lookup ?_ (by with_unfolding_all rfl)
    refine HT.getItem_tuple_back ht (Heap.IsSliceOf.new ..) pk ?_ (by rw [List.size_toArray, ← r.length]; exact hz)
    rw [show its.toArray.toList.reverse.toArray = its.reverse.toArray from rfl]
    refine ⟨.ref _, _, I4.laid (t' := s2.toks) (o := .tup xs.reverse) (fun b ob q => Heap.get?_push_of_some _ q) (Nat.le_refl _) ?_, rfl, q _ (I4.hok.fresh (Nat.le_refl _))⟩
    exact ⟨by rw [List.length_reverse]; exact hz, _, r.reverse, IsTup.new _ _⟩
theorem e_rev (hX : At nm T cA fA n W X) {x : E} {a : Expr} {p1 p2 p3 pos : Pos} {kd : Nat} (ha : PE X a (TO X cA W (ev x))) : PE X (.Subscript a (.Slice none none (some (.UnaryOp .USub (.Constant (.int 1) kd p1) p2)) p3) pos) (TO X cA W (stepE T ev exs (.op1 .rev x))) := by
  refine (pe_back ha.toD).mono fun σ H Q h => ?_
  refine TG.bind (rep := rD X.K) (r := evD ev x) (k := fun d env => resO (ev1 .rev d) env) h fun d env1 v F1 H1 Af1 C s1 r1 nd un q => ?_
  cases d with
  | list ds =>
    obtain ⟨a, xs, rfl, e2, e3⟩ := r1.2.lst_inv
    exact .inl ⟨a, xs, rfl, SqL.of (s1.ex _ _ e2), fun p hp => PG.newL q s1 e3.reverse hp⟩
  | tuple ds =>
    obtain ⟨a, xs, rfl, e2, e3⟩ := r1.2.tup_inv
    exact .inr ⟨a, xs, rfl, ex_t s1.ex e2, fun p hp => PG.newT q s1 e3.reverse hp⟩
  | _ => exact q.elim

/-! list(range(..)) -/
theorem okRange_spec {i : Int} (h : okRange i = true) : -(2 ^ 62) ≤ i ∧ i < 2 ^ 62 := by
  unfold okRange at h
  simp only [Bool.and_eq_true, decide_eq_true_eq] at h
  omega
theorem rep_rangeD {K : PySem.W.Frag} {F : Hp} (a b : Int) : RepAll K F (rgV a b) (rangeD a b) := by
  unfold rgV rangeD
  induction List.range (b - a).toNat with
  | nil => exact .nil
  | cons x r ih => exact .cons (.int _) ih
theorem e_listRange (hX : At nm T cA fA n W X) {x : E} {b : Expr} {f g : Str} {p0 p1 p2 pos : Pos} (hf : f = "list") (h : Gl X f ∧ f ∈ nm.bl) (hg : g = "range") (h2 : Gl X g ∧ g ∈ nm.bl) (hs : noStar b = true) (hb : PE X b (TO X cA W (ev x))) :
    PE X (.Call (.Name f p0) [.Call (.Name g p1) [b] [] p2] [] pos) (TO X cA W (stepE T ev exs (.op1 .listRange x))) := by
  subst hf hg
  refine (pe_listRg hX.calm h.1 (hX.blt _ h.2) (prg_1 h2.1 (hX.blt _ h2.2) hb.toD (star1 hs _ _))).mono fun σ H Q h => ?_
  refine TG.bind (rep := rD X.K) (r := evD ev x) (k := fun d env => resO (ev1 .listRange d) env) h fun d env1 v F1 H1 Af1 C s1 r1 nd un q => ?_
  cases d with
  | int j =>
    cases r1.2.int_inv
    simp only [ev1] at q
    split at q
    · rename_i hj
      rw [Bool.and_eq_true, decide_eq_true_eq] at hj
      have := okRange_spec hj.1
      have hm : j ≤ 1000000 := hj.2
      exact ⟨j, rfl, ⟨by omega, by omega, by omega, by omega, by omega⟩, fun p hp => PG.newL q s1 (rep_rangeD 0 j) hp⟩
    · exact q.elim
  | _ => exact q.elim
theorem e_listRange2 (hX : At nm T cA fA n W X) {x y : E} {b c : Expr} {f g : Str} {p0 p1 p2 pos : Pos} (hf : f = "list") (h : Gl X f ∧ f ∈ nm.bl) (hg : g = "range") (h2 : Gl X g ∧ g ∈ nm.bl) (hs : noStar b = true) (hs2 : noStar c = true) (hb : PE X b (TO X cA W (ev x))) (hc : PE X c (TO X cA W (ev y))) :
    PE X (.Call (.Name f p0) [.Call (.Name g p1) [b, c] [] p2] [] pos) (TO X cA W (stepE T ev exs (.op2 .listRange2 x y))) := by
  subst hf hg
  refine (pe_listRg hX.calm h.1 (hX.blt _ h.2) (prg_2 h2.1 (hX.blt _ h2.2) hb.toD hc.toD (star1 hs _ _) (star1 hs2 _ _) (by rw [star1 hs2]; rfl))).mono fun σ H Q h => ?_
  refine TG.imp (tOp2 h) fun v H1 q => TG.imp q fun w H2 q2 => ?_
  obtain ⟨σ', F, Af, env, d, e, s1, r1, r2, q⟩ := q2
  obtain ⟨o, eo, q⟩ := res2 q
  cases d with
  | int i =>
    cases e with
    | int j =>
      cases r1.int_inv
      cases r2.int_inv
      simp only [ev2] at eo
      split at eo
      · rename_i hj
        cases eo
        simp only [Bool.and_eq_true, decide_eq_true_eq] at hj
        have := okRange_spec hj.1.1
        have := okRange_spec hj.1.2
        have hm : j - i ≤ 1000000 := hj.2
        exact ⟨i, j, rfl, rfl, ⟨by omega, by omega, by omega, by omega, by omega⟩, fun p hp => PG.newL q s1 (rep_rangeD i j) hp⟩
      · cases eo
    | _ => cases eo
  | _ => cases e <;> cases eo
end
end Ev

end
section
set_option autoImplicit false
set_option linter.all false
set_option maxRecDepth 100000
/-! list(reversed(a list)) -/
namespace Ev
open PySem PySem.Spec PyProof.Rows RT
section
variable {prog : Program} {w : World} {A : Around} {E : Value → Shared → Prop} {s : Shared}
theorem init_rev {R : Result → Shared → Prop} {it l : Addr} {items : Array Value} (hh : A.handled = none) (hit : s.heap.IsRevIter it l ((items.size : Int) - 1)) (hl : s.heap.IsList l items) (hne : l ≠ it) (hn : items.size ≤ sizeLine)
    (S : Addr) (hSi : S ≠ it) (hSl : S ≠ l) (hS : s.heap.get? S = some { cls := .type "list", data := .seq #[] })
    (hR : ∀ h' tk acc' c', (∀ b o, b ≠ S → b ≠ it → s.heap.get? b = some o → h'.get? b = some o) → h'.get? S = some { cls := .type "list", dict := none, data := .seq acc' c', slots := #[] } →
      ItemsOf (fun i v => items[items.size - 1 - i]? = some v) acc' items.size → R (.ok (.ret .none)) { s with heap := h', toks := tk }) :
    wpAny (model prog w) A.in1 (Builtin.«list.__init__» ⟨[.ref S, .ref it], []⟩)
      (fun fin s' => match fin with | .done f => R (.ok f) s' | .again c' => c'.quiet = true ∧ codeAny (model prog w) A c' R s') (fun e s' => R (.error e) s') s := by
  show wpAny _ _ (do let old ← Builtin.List.listItems (.ref S); Builtin.List.listUpdate (.ref S) (fun _ => #[]); letGo old.toList.reverse; Builtin.List.listExtendWith (.ref S) (.ref it) .none) _ _ s
  refine wpAny_bind ?_
  unfold Builtin.List.listItems
  refine wpAny_bind (wpAny_seqItems hS rfl (wpAny_pure ?_))
  show wpAny _ _ (updateSeq S (fun _ => #[]) >>= fun _ => letGo (#[] : Array Value).toList.reverse >>= fun _ => Builtin.List.listExtendWith (.ref S) (.ref it) .none) _ _ s
  refine wpAny_bind (wpAny_updateSeq hS rfl ?_)
  have hS₂ := Heap.get?_update_self (Obj.mapSeq (fun _ => (#[] : Array Value))) hS rfl
  have oth : ∀ b o, b ≠ S → s.heap.get? b = some o → (s.heap.update S (Obj.mapSeq (fun _ => (#[] : Array Value)))).get? b = some o :=
    fun b o hb e => (Heap.get?_update_other _ _ (Ne.symm hb)).trans e
  refine wpAny_bind (wpAny_letGo ?_)
  have hit1 : (s.heap.update S (Obj.mapSeq (fun _ => (#[] : Array Value)))).IsRevIter it l ((items.size : Int) - 1) := hit.at fun o e => oth it o (Ne.symm hSi) e
  have hl1 : (s.heap.update S (Obj.mapSeq (fun _ => (#[] : Array Value)))).IsList l items := hl.at fun o e => oth l o (Ne.symm hSl) e
  have W := (Walks.listRev (prog := prog) (w := w) (A := A.in1) hh it l hne items).toS
  have hSf : S ∉ [it, l] := by simp only [List.mem_cons, List.not_mem_nil, or_false, not_or]; exact ⟨hSi, hSl⟩
  have hT : ({ s with heap := s.heap.update S (Obj.mapSeq (fun _ => (#[] : Array Value))) } : Shared).TypeIs (.ref it) "list_reverseiterator" := Heap.IsRevIter.typeIs (s := { s with heap := s.heap.update S (Obj.mapSeq (fun _ => (#[] : Array Value))) }) hit1
  have h1 : Builtin.List.listSameRef (.ref S) (.ref it) = false := by simp [Builtin.List.listSameRef, hSi]
  unfold Builtin.List.listExtendWith
  refine wpAny_bind (wpAny_typeOf hT ?_)
  rw [if_neg (by rw [h1]; decide)]
  refine wpAny_bind (wpAny_pyIter_revIter (s := { s with heap := s.heap.update S (Obj.mapSeq (fun _ => (#[] : Array Value))) }) hit1 ?_)
  refine wpAny_bind (wpAny_holding ?_)
  unfold Builtin.List.listLengthHint
  refine wpAny_bind (wpAny_specialOf hT nolen_lri ?_)
  show wpAny _ A.in1 (specialOf (Value.ref it) (Str.ofString "__length_hint__") >>= _) _ _ _
  refine wpAny_bind (wpAny_specialOf hT hint_lri ?_)
  generalize hid : ("list_reverseiterator.__length_hint__" : String) = id0
  wp_delta
  rw [show splitId id0 = some ("list_reverseiterator", "__length_hint__") from by subst hid; decide +kernel]
  subst hid
  refine wpAny_bind (wpAny_isInstance (b := true) hT (by rw [isSubtype_type]; kernel_rfl) ?_)
  refine wpAny_pure ?_
  rw [if_neg (by decide)]
  have e0 : ((items.size : Nat) : Int) - 1 - ((0 : Nat) : Int) = (items.size : Int) - 1 := by omega
  refine wpAny_pure ⟨plainId_quiet F.plain_extend_loop _, codeAny_extend_loopS W hn _ hSf _ items.size 0 _ _ _ rfl (Nat.zero_le _) ⟨Nat.zero_le _, by rw [e0]; exact hit1, hl1⟩ hS₂ (ItemsOf.nil _) fun s' acc' c' hm hS' hacc => ?_⟩
  rw [Moved.eq_with hm]
  refine hR s'.heap s'.toks acc' c' (fun b o hb hb2 e => hm.heap b o (fun hmem => ?_) (oth b o hb e)) hS' hacc
  rcases List.mem_cons.mp hmem with e' | hmem
  · exact hb e'
  · exact hb2 (List.mem_singleton.mp hmem)
theorem call_list_rev {it l : Addr} {items : Array Value} {Q : Value → Shared → Prop} (hh : A.handled = none) (hit : s.heap.IsRevIter it l ((items.size : Int) - 1)) (hl : s.heap.IsList l items) (hne : l ≠ it) (hn : items.size ≤ sizeLine)
    (hQ : ∀ h' tk acc' c', (∀ b o, b ≠ it → s.heap.get? b = some o → h'.get? b = some o) → h'.get? s.heap.objs.size = some { cls := .type "list", dict := none, data := .seq acc' c', slots := #[] } →
      ItemsOf (fun i v => items[items.size - 1 - i]? = some v) acc' items.size → Q (.ref s.heap.objs.size) { s with heap := h', toks := tk }) :
    wpAny (model prog w) A (call (.type "list") [.ref it]) Q E s := by
  refine callType_codes (Q₁ := fun obj s₁ => obj = .ref s.heap.objs.size ∧ s₁ = { s with heap := s.heap.push { cls := .type "list", data := .seq #[] } }) PySem.F.called_list (PySem.F.typeCall_list_1 _) PySem.F.entry_list_init
    (code_list_new _ ⟨rfl, rfl⟩) fun obj s₁ h₁ => ?_
  obtain ⟨rfl, rfl⟩ := h₁
  have hS : (s.heap.push { cls := .type "list", data := .seq #[] }).get? s.heap.objs.size = some { cls := .type "list", data := .seq #[] } := Heap.get?_push_size _ rfl
  obtain ⟨oi, hoi, _⟩ := id hit
  obtain ⟨ol, hol, _⟩ := id hl
  refine ⟨⟨_, hS, rfl⟩, PySem.F.args_list_init_2 _ _, init_rev (A := A.in1) hh (hit.at fun o e => Heap.get?_push_of_some _ e) (hl.push _) hne hn _ (Nat.ne_of_gt (Heap.lt_size hoi)) (Nat.ne_of_gt (Heap.lt_size hol)) hS fun h' tk acc' c' hk hS' hacc => ?_⟩
  exact ⟨rfl, hQ h' tk acc' c' (fun b o hb e => hk b o (Nat.ne_of_lt (Heap.lt_size e)) hb (Heap.get?_push_of_some _ e)) hS' hacc⟩
end
open L2
section
variable {X : Cx}
/-- list(reversed(x)), x a list: a new list -/
def tLstRev (K : PySem.W.Frag) (te : TE) : TE := fun σ H Q => te σ H fun v H1 => ∃ (a : Addr) (xs : List V), v = .ref a ∧ SqL K H1 a xs ∧ ∀ q, H1 q = none → Q (.ref q) (upd H1 q (.lst xs.reverse))
theorem pe_lstRev {e : Expr} {te : TE} {p p2 pos pos2 : Pos} (hc : X.calm = true) (hg : Gl X "list") (hm : X.mg "list" = none) (hg2 : Gl X "reversed") (hm2 : X.mg "reversed" = none) (he : PE X e te)
    (hs : starEach [e] X.env = (false, eval e X.env) :: starEach [] X.env)
    (hs2 : starEach [.Call (.Name "reversed" p2) [e] [] pos2] X.env = (false, eval (.Call (.Name "reversed" p2) [e] [] pos2) X.env) :: starEach [] X.env := by rfl) :
    PE X (.Call (.Name "list" p) [.Call (.Name "reversed" p2) [e] [] pos2] [] pos) (tLstRev X.K te) := by
  refine ⟨fun pins s σ H Q I h => ?_⟩
  refine Call_ (ld_blt I hg hm boot_list (PyProof.Rows.callWith_type1 (args_cons (Call_ (ld_blt I hg2 hm2 PyProof.Rows.boot_reversed (PyProof.Rows.callWith_type1 (args_cons (thn (he.run pins s σ H _ I h) fun u s1 ⟨v, H1, I1, r1, q1⟩ => args_nil ?_) hs) hs rfl))) hs2) hs2 rfl))
  obtain ⟨a, xs, ev, hq, q⟩ := q1
  subst ev
  obtain rfl : u = Value.ref a := r1
  obtain ⟨its, rv, p', hz⟩ := I1.list hq
  refine call_reversed_list p'.isList (args_nil ?_)
  have k0 : ∀ b o, s1.heap.get? b = some o → (s1.heap.push (revObj a ((its.toArray.size : Int) - 1))).get? b = some o := fun b o e => Heap.get?_push_of_some _ e
  have I2 : L2.Inv X pins σ H1 { s1 with heap := s1.heap.push (revObj a ((its.toArray.size : Int) - 1)) } := I1.kept (t' := s1.toks) k0
  obtain ⟨f0, f1, f2, f3, f4, f5⟩ := I1.fpOk (H' := H1) (b := s1.heap.objs.size) (Nat.le_refl _) (I1.hok.fresh (Nat.le_refl _))
  have hl := p'.isList
  obtain ⟨ol, hol, _⟩ := id hl
  have hne : a ≠ s1.heap.objs.size := Nat.ne_of_lt (Heap.lt_size hol)
  have hn : its.toArray.size ≤ sizeLine := by rw [List.size_toArray, ← rv.length]; exact hz
  refine call_list_rev (s := { s1 with heap := s1.heap.push (revObj a ((its.toArray.size : Int) - 1)) }) (I1.ok.hd hc) ⟨_, Heap.get?_push_size _ rfl, rfl, rfl⟩ (hl.push _) hne hn fun h' tk acc c' hk hS hi => ?_
  have hfr : H1 (s1.heap.push (revObj a ((its.toArray.size : Int) - 1))).objs.size = none := I2.hok.fresh (Nat.le_refl _)
  refine ⟨.ref _, upd H1 (s1.heap.push (revObj a ((its.toArray.size : Int) - 1))).objs.size (.lst xs.reverse), I1.laid (t' := tk) (fun b o e => hk b o (Nat.ne_of_lt (Heap.lt_size e)) (k0 b o e)) (Nat.le_of_lt (Heap.lt_size (Heap.get?_push_size _ rfl))) (show ObjOk X.prog X.w _ _ _ (.lst xs.reverse) from ⟨by rw [List.length_reverse]; exact hz, acc.toList, c', vals_rev rv hi, ?_⟩), rfl, q _ hfr⟩
  rw [Array.toArray_toList]
  exact hS
end
section
variable {nm : Names} {T : Tab} {cA fA : Nat → Addr} {n : Nat} {W : WX} {X : Cx} {ev : E → Env → Res (O × Env)} {exs : List S → Env → Res (Fl × Env)}
theorem e_listRev (hX : At nm T cA fA n W X) {x : E} {b : Expr} {f g : Str} {p0 p1 p2 pos : Pos} (hf : f = "list") (h : Gl X f ∧ f ∈ nm.bl) (hg : g = "reversed") (h2 : Gl X g ∧ g ∈ nm.bl) (hs : noStar b = true) (hb : PE X b (TO X cA W (ev x))) :
    PE X (.Call (.Name f p0) [.Call (.Name g p1) [b] [] p2] [] pos) (TO X cA W (stepE T ev exs (.op1 .listRev x))) := by
  subst hf hg
  refine (pe_lstRev hX.calm h.1 (hX.blt _ h.2) h2.1 (hX.blt _ h2.2) hb.toD (star1 hs _ _)).mono fun σ H Q h => ?_
  refine TG.bind (rep := rD X.K) (r := evD ev x) (k := fun d env => resO (ev1 .listRev d) env) h fun d env1 v F1 H1 Af1 C s1 r1 nd un q => ?_
  cases d with
  | list ds =>
    obtain ⟨a, xs, rfl, e2, e3⟩ := r1.2.lst_inv
    exact ⟨a, xs, rfl, SqL.of (s1.ex _ _ e2), fun p hp => PG.newL q s1 e3.reverse hp⟩
  | _ => exact q.elim
end
end Ev

end
section
set_option autoImplicit false
set_option linter.all false
set_option maxRecDepth 100000
/-! What changes a state: own lists written, slots set, things frozen. -/
namespace Ev
open PySem L2 PyProof.Rows

section
variable {K : PySem.W.Frag} {F F' H H' : Hp} {σ : L2.St} {env env' : Env} {Af Af' : Nat → List Addr}
theorem getElem_set {α : Type} {l : List α} {i j : Nat} {a b : α} (h : (l.set i a)[j]? = some b) : (j = i ∧ i < l.length ∧ b = a) ∨ (j ≠ i ∧ l[j]? = some b) := by
  by_cases e : j = i
  · subst e
    rw [List.getElem?_set_self'] at h
    cases q : l[j]? with
    | none => rw [q] at h; simp at h
    | some u =>
      rw [q] at h
      have : j < l.length := by
        rcases Nat.lt_or_ge j l.length with k | k
        · exact k
        · rw [List.getElem?_eq_none k] at q; cases q
      exact .inl ⟨rfl, this, by simpa using h.symm⟩
  · rw [List.getElem?_set_ne (Ne.symm e)] at h
    exact .inr ⟨e, h⟩

/-- the own list of a slot, written -/
theorem SR.setL (s : SR K F H σ env Af) {i : Nat} {a : Addr} {os os' : List O} {vs vs' : List V} {C : List Addr} (e : (env[i]?).join = some (.lst os)) (ev : σ[i]? = some (some (.ref a))) (h : H a = some (.lst vs)) (ha : Af i = a :: C)
    (r : ROs K F H vs' os' C) : SR K F (upd H a (.lst vs')) σ (setO env i (.lst os')) Af := by
  have hi : a ∈ Af i := by rw [ha]; exact List.mem_cons_self
  have hnd := s.nd i
  rw [ha] at hnd
  have hna : a ∉ C := (List.nodup_cons.mp hnd).1
  refine ⟨fun b o q => ?_, by unfold setO; rw [List.length_set]; exact s.len, fun j o q => ?_, s.nd, s.dj, s.un, fun j b hb => ?_⟩
  · rw [upd_ne]
    · exact s.ex b o q
    · intro z; subst z; rw [s.un i b hi] at q; cases q
  · rcases getElem_set q with ⟨rfl, _, q⟩ | ⟨hj, q⟩
    · cases q
      refine ⟨.ref a, ev, ?_⟩
      rw [ha]
      exact .lst upd_same (r.mono (Ex.refl _) fun b hb => upd_ne fun z => hna (z ▸ hb))
    · obtain ⟨v, h1, h2⟩ := s.at_ j o q
      exact ⟨v, h1, h2.mono (Ex.refl _) fun b hb => upd_ne fun z => hj (s.dj j i a (z ▸ hb) hi)⟩
  · unfold upd
    split
    · exact fun z => nomatch z
    · exact s.th j b hb
theorem Stp.setL {i : Nat} {a : Addr} {o : HO} (hi : a ∈ Af i) : Stp F H Af F (upd H a o) Af [] :=
  ⟨Ex.refl _, fun b u h n => by
    rw [upd_ne]
    · exact h
    · intro z; subst z; exact n ⟨i, hi⟩, fun b h => by
    unfold upd; split
    · exact fun z => nomatch z
    · exact h, fun a h => .inl h, fun a h => .inl h, fun a h => nomatch h⟩
theorem SR.own (s : SR K F H σ env Af) {i : Nat} {os : List O} (e : (env[i]?).join = some (.lst os)) : ∃ a vs C, σ[i]? = some (some (.ref a)) ∧ H a = some (.lst vs) ∧ Af i = a :: C ∧ ROs K F H vs os C := by
  obtain ⟨v, h1, h2⟩ := s.at_ i _ (join_some e)
  generalize hC : Af i = C0 at h2
  cases h2 with
  | lst h r => exact ⟨_, _, _, h1, h, rfl, r⟩
theorem ROs.append_val {vs : List V} {os : List O} {C : List Addr} {v : V} {d : D} (r : Rep K F v d) : ROs K F H vs os C → ROs K F H (vs ++ [v]) (os ++ [.val d]) C := by
  intro h
  induction os generalizing vs C with
  | nil => cases h; exact .cons (C := []) (C' := []) (.val r) .nil
  | cons o os ih => cases h with | cons h1 h2 => exact .cons h1 (ih h2)
theorem ROs.last_val : ∀ {os : List O} {vs : List V} {C : List Addr} {d : D}, ROs K F H vs os C → os.getLast? = some (.val d) → ∃ v, vs[vs.length - 1]? = some v ∧ Rep K F v d ∧ ROs K F H vs.dropLast os.dropLast C
  | [], _, _, _, .nil, e => by cases e
  | [o], _, _, d, .cons h .nil, e => by
    cases e
    obtain ⟨r, rfl⟩ := RO.val_inv h
    exact ⟨_, rfl, r, .nil⟩
  | o :: o2 :: os, _, _, d, .cons (vs := vs) h r, e => by
    obtain ⟨w, h1, h2, h3⟩ := ROs.last_val r (by simpa using e)
    cases r with
    | cons h' r' => exact ⟨w, by simpa using h1, h2, .cons h h3⟩
theorem ROs.all_val : ∀ {os : List O} {vs : List V} {C : List Addr}, ROs K F H vs os C → allVal os = true → C = [] ∧ ∃ ds, os = ds.map .val ∧ RepAll K F vs ds
  | [], _, _, .nil, _ => ⟨rfl, [], rfl, .nil⟩
  | o :: os, _, _, .cons h r, e => by
    cases o with
    | val d =>
      have e : allVal os = true := e
      obtain ⟨rfl, ds, rfl, q⟩ := ROs.all_val r e
      obtain ⟨r', rfl⟩ := RO.val_inv h
      exact ⟨rfl, d :: ds, rfl, .cons r' q⟩
    | _ => cases e
theorem RepAll.set : ∀ {vs : List V} {ds : List D} {v : V} {d : D} (k : Nat), RepAll K F vs ds → Rep K F v d → RepAll K F (vs.set k v) (ds.set k d)
  | _, _, _, _, _, .nil, _ => .nil
  | _, _, _, _, 0, .cons _ r, h => .cons h r
  | _, _, _, _, k + 1, .cons h' r, h => .cons h' (RepAll.set k r h)
theorem ROs.length : ∀ {os : List O} {vs : List V} {C : List Addr}, ROs K F H vs os C → vs.length = os.length
  | _, _, _, .nil => rfl
  | _, _, _, .cons _ r => by rw [List.length_cons, List.length_cons, ROs.length r]

/-! a snapshot -/
def OwnE (Af : Nat → List Addr) (env : Env) (a : Addr) : Prop := ∃ i, a ∈ Af i ∧ ∃ o, env[i]? = some (some o)
open Classical in
/-- everything that is owned, frozen too -/
noncomputable def frzH (F H : Hp) (Af : Nat → List Addr) (env : Env) : Hp := fun a => if OwnE Af env a then H a else F a
open Classical in
noncomputable def unfH (F : Hp) (Af : Nat → List Addr) : Hp := fun a => if Own Af a then none else F a
theorem SR.frzEx (s : SR K F H σ env Af) : Ex F (frzH F H Af env) := fun a o e => by
  unfold frzH
  rw [if_neg]
  · exact e
  · rintro ⟨i, h, _⟩; rw [s.un i a h] at e; cases e
theorem SR.frozen (s : SR K F H σ env Af) : SR K (frzH F H Af env) H σ (frozen env) (fun _ => []) := by
  refine ⟨fun a o e => ?_, by unfold Ev.frozen; rw [List.length_map]; exact s.len, fun i o e => ?_, fun _ => .nil, fun _ _ _ h => (nomatch h), fun _ _ h => (nomatch h), fun _ _ h => (nomatch h)⟩
  · unfold frzH at e
    split at e
    · exact e
    · exact s.ex a o e
  · unfold Ev.frozen at e
    rw [List.getElem?_map] at e
    cases q : env[i]? with
    | none => rw [q] at e; cases e
    | some u =>
      rw [q] at e
      cases u with
      | none => cases e
      | some u =>
        simp only [Option.map_some, Option.some.injEq] at e
        split at e
        · rename_i ht
          cases e
          obtain ⟨v, h1, h2⟩ := s.at_ i u q
          exact ⟨v, h1, .val (h2.freeze s.frzEx (fun a ha => by unfold frzH; rw [if_pos ⟨i, ha, u, q⟩]) ht)⟩
        · cases e
theorem SR.frzOwn (s : SR K F H σ env Af) {F' : Hp} (h : Ex (frzH F H Af env) F') (pr : ∀ a, F' a ≠ none → frzH F H Af env a ≠ none ∨ H a = none) : ∀ a, Own Af a → F' a = none ∨ (∃ xs, F' a = some (.lst xs)) ∨ (∃ kvs, F' a = some (.dK kvs)) := by
  intro a ho
  by_cases hp : OwnE Af env a
  · obtain ⟨i, hi, o, e⟩ := hp
    obtain ⟨v, h1, h2⟩ := s.at_ i o e
    have hz : frzH F H Af env a = H a := by unfold frzH; rw [if_pos ⟨i, hi, o, e⟩]
    rcases h2.there a hi with ⟨xs, q⟩ | ⟨xs, q⟩
    · exact .inr (.inl ⟨xs, h a _ (hz.trans q)⟩)
    · exact .inr (.inr ⟨xs, h a _ (hz.trans q)⟩)
  · refine .inl (Classical.byContradiction fun hn => ?_)
    obtain ⟨i, hi⟩ := ho
    rcases pr a hn with q | q
    · unfold frzH at q
      rw [if_neg hp] at q
      exact q (s.un i a hi)
    · exact s.th i a hi q
mutual
theorem flat_rep {F' : Hp} (un : ∀ a, Own Af a → F' a = none ∨ (∃ xs, F' a = some (.lst xs)) ∨ (∃ kvs, F' a = some (.dK kvs))) : ∀ {d : D} {v : V}, Rep K F' v d → flat d = true → Rep K (unfH F' Af) v d
  | _, _, .non, _ => .non
  | _, _, .bl b, _ => .bl b
  | _, _, .int i, _ => .int i
  | _, _, .str x, _ => .str x
  | _, _, .lst _ _, h => by cases h
  | _, _, .dK _ _, h => by cases h
  | _, _, .tup (a := a) (ds := ds) (xs := xs) h r, hf => by
    have hf' : flats ds = true := hf
    refine .tup ?_ (flats_rep un r hf')
    rcases h with h | h
    · refine .inl ?_
      have key : ¬ Own Af a := fun ho => by
        rcases un a ho with q | ⟨ys, q⟩ | ⟨ys, q⟩ <;> rcases h with h | ⟨o, h⟩ <;> rw [q] at h <;> cases h
      rcases h with h | ⟨o, h⟩
      · exact .inl (by unfold unfH; rw [if_neg key]; exact h)
      · exact .inr ⟨o, by unfold unfH; rw [if_neg key]; exact h⟩
    · exact .inr h
theorem flats_rep {F' : Hp} (un : ∀ a, Own Af a → F' a = none ∨ (∃ xs, F' a = some (.lst xs)) ∨ (∃ kvs, F' a = some (.dK kvs))) : ∀ {ds : List D} {vs : List V}, RepAll K F' vs ds → flats ds = true → RepAll K (unfH F' Af) vs ds
  | _, _, .nil, _ => .nil
  | d :: ds, _, .cons h r, hf => by
    have hf' : (flat d && flats ds) = true := hf
    rw [Bool.and_eq_true] at hf'
    exact .cons (flat_rep un h hf'.1) (flats_rep un r hf'.2)
end
theorem looses_rep {F' H' : Hp} (un : ∀ a, Own Af a → F' a = none ∨ (∃ xs, F' a = some (.lst xs)) ∨ (∃ kvs, F' a = some (.dK kvs))) : ∀ {os : List O} {vs : List V} {C : List Addr}, ROs K F' H' vs os C → looses os = true → ROs K (unfH F' Af) H' vs os C
  | [], _, _, .nil, _ => .nil
  | o :: os, _, _, .cons h r, e => by
    cases o with
    | val d =>
      have e : (flat d && looses os) = true := e
      rw [Bool.and_eq_true] at e
      obtain ⟨r', rfl⟩ := RO.val_inv h
      exact .cons (.val (flat_rep un r' e.1)) (looses_rep un r e.2)
    | _ => cases e
theorem rep_loose {F' H' : Hp} (un : ∀ a, Own Af a → F' a = none ∨ (∃ xs, F' a = some (.lst xs)) ∨ (∃ kvs, F' a = some (.dK kvs))) {v : V} {o : O} {C : List Addr} (r : RO K F' H' v o C) (hl : loose o = true) : RO K (unfH F' Af) H' v o C := by
  cases r with
  | val r => exact .val (flat_rep un r hl)
  | lst h1 r => exact .lst h1 (looses_rep un r hl)
  | _ => cases hl
/-- what was made of a snapshot, back in the state -/
theorem SR.unfrozen (s : SR K F H σ env Af) {F' H' : Hp} {Af' : Nat → List Addr} {C : List Addr} (s' : SR K F' H' σ env' Af') (t : Stp (frzH F H Af env) H (fun _ => []) F' H' Af' C) :
    SR K (unfH F' Af) H' σ env Af ∧ Stp F H Af (unfH F' Af) H' Af C ∧ ∀ x ∈ C, (F' x = none ∧ ¬ Own Af' x) → unfH F' Af x = none ∧ ¬ Own Af x := by
  have no : ∀ a, ¬ Own (fun _ => ([] : List Addr)) a := fun a ⟨i, h⟩ => nomatch h
  have hexF : Ex F (unfH F' Af) := fun a o e => by
    unfold unfH
    rw [if_neg]
    · exact t.ex a o (s.frzEx a o e)
    · rintro ⟨i, h⟩; rw [s.un i a h] at e; cases e
  have kp : ∀ a, Own Af a → H' a = H a := fun a ⟨i, h⟩ => by
    cases q : H a with
    | none => exact absurd q (s.th i a h)
    | some o => exact t.frame a o q (no a)
  refine ⟨⟨fun a o e => ?_, s.len, fun i o e => ?_, s.nd, s.dj, fun i a h => by unfold unfH; rw [if_pos ⟨i, h⟩], fun i a h => t.dom a (s.th i a h)⟩, ⟨hexF, fun a o e _ => t.frame a o e (no a), t.dom, fun a h => ?_, fun a h => .inl h, fun a h => ?_⟩, fun x hx h => ⟨?_, ?_⟩⟩
  · unfold unfH at e
    split at e
    · cases e
    · exact s'.ex a o e
  · obtain ⟨v, h1, h2⟩ := s.at_ i o e
    exact ⟨v, h1, h2.mono hexF fun a ha => kp a ⟨i, ha⟩⟩
  · unfold unfH at h
    split at h
    · exact absurd rfl h
    · rename_i ho
      rcases t.prF a h with q | q | q
      · unfold frzH at q
        rw [if_neg (fun ⟨i, hi, _⟩ => ho ⟨i, hi⟩)] at q
        exact .inl q
      · exact .inr (.inl q)
      · exact absurd q (no a)
  · rcases t.prC a h with q | q
    · exact absurd q (no a)
    · exact .inr q
  · unfold unfH
    split
    · rfl
    · exact h.1
  · rintro ⟨i, hi⟩
    rcases t.prC x hx with q | q
    · exact no x q
    · exact s.th i x hi q
end
section
variable {nm : Names} {T : Tab} {cA fA : Nat → Addr} {n : Nat} {W : WX} {X : Cx} {ev : E → Env → Res (O × Env)} {exs : List S → Env → Res (Fl × Env)}
theorem snap_mono {x : E} {σ : L2.St} {H : Hp} {Q : VK} (h : TO X cA W (stepE T ev exs (.snap x)) σ H Q) : TO X cA W (ev x) σ H Q := by
  obtain ⟨F, Af, env, s, p⟩ := h
  rw [stepE_snap] at p
  refine ⟨frzH F H Af env, fun _ => [], frozen env, s.frozen, ?_⟩
  cases e : ev x (frozen env) with
  | stuck => rw [e] at p; exact p
  | err c =>
    rw [e] at p
    intro F' H' e1 e2 fr
    exact p F' H' (s.frzEx.trans e1) e2 fun a o q _ => fr a o q fun ⟨i, h⟩ => nomatch h
  | ok z =>
    obtain ⟨o, env'⟩ := z
    rw [e] at p
    simp only [Res.bind] at p
    split at p
    · rename_i hl
      intro v F' H' Af' C s' t r nd un
      obtain ⟨g1, g2, g3⟩ := s.unfrozen s' t
      have ow := s.frzOwn t.ex fun a h => by
        rcases t.prF a h with q | q | ⟨i, q⟩
        · exact .inl q
        · exact .inr q
        · cases q
      refine p v (unfH F' Af) H' Af C g1 g2 ?_ nd fun y hy => g3 y hy (un y hy)
      exact rep_loose ow r hl
    · exact p.elim
theorem e_snap {x : E} {a : Expr} (h : PE X a (TO X cA W (ev x))) : PE X a (TO X cA W (stepE T ev exs (.snap x))) := h.mono fun _ _ _ q => snap_mono q
theorem snapT_mono {x : E} {σ : L2.St} {H : Hp} {Q : Bool → Hp → Prop} (h : TT' X cA W (truthE (stepE T ev exs) (.snap x)) σ H Q) : TT' X cA W (truthE ev x) σ H Q := by
  obtain ⟨F, Af, env, s, p⟩ := h
  rw [truthE_eq, stepE_snap] at p
  refine ⟨frzH F H Af env, fun _ => [], frozen env, s.frozen, ?_⟩
  rw [truthE_eq]
  cases e : ev x (frozen env) with
  | stuck => rw [e] at p; exact p
  | err c =>
    rw [e] at p
    intro F' H' e1 e2 fr
    exact p F' H' (s.frzEx.trans e1) e2 fun a o q _ => fr a o q fun ⟨i, h⟩ => nomatch h
  | ok z =>
    obtain ⟨o, env'⟩ := z
    rw [e] at p
    have p : PG X.K cA W rB σ F H Af ((((if loose o then .ok (o, env) else .stuck : Res (O × Env))).bind fzD).bind fun p => match truth p.1 with | some b => .ok (b, p.2) | none => .stuck) Q := p
    show PG X.K cA W rB σ _ H _ ((fzD (o, env')).bind fun p => match truth p.1 with | some b => .ok (b, p.2) | none => .stuck) Q
    by_cases hl : loose o = true
    · rw [if_pos hl] at p
      have p : PG X.K cA W rB σ F H Af ((fzD (o, env)).bind fun p => match truth p.1 with | some b => .ok (b, p.2) | none => .stuck) Q := p
      by_cases ht : o.tree = true
      · have e1 : ∀ env : Env, fzD (o, env) = .ok (o.toD, env) := fun env => if_pos ht
        rw [e1] at p ⊢
        simp only [Res.bind] at p ⊢
        cases hb : truth o.toD with
        | none => simp only [hb] at p; exact p.elim
        | some b =>
          simp only [hb] at p ⊢
          intro b' F' H' Af' C s' t r nd un
          obtain ⟨rfl, rfl⟩ := r
          obtain ⟨g1, g2, g3⟩ := s.unfrozen s' t
          exact p b' (unfH F' Af) H' Af [] g1 g2 ⟨rfl, rfl⟩ .nil fun _ z => nomatch z
      · have e1 : ∀ env : Env, fzD (o, env) = .stuck := fun env => if_neg ht
        rw [e1] at p
        exact p.elim
    · rw [if_neg hl] at p
      exact p.elim
theorem e_lenScr (hX : At nm T cA fA n W X) {i : Nat} {f x : Str} {p0 p1 pos : Pos} (hf : f = "len") (h : Gl X f ∧ f ∈ nm.bl) (hv : isVr X.N X.env.scope i x = true) : PE X (.Call (.Name f p0) [.Name x p1] [] pos) (TO X cA W (stepE T ev exs (.lenScr i))) := by
  subst hf
  obtain ⟨h1, h2, h3, h4⟩ := isVr_spec hv
  refine (pe_callB call_len_seq h.1 (hX.blt _ h.2) boot_len (pa_cons (pe_var h1 h2 h3 h4) pa_nil rfl) (by decide) (by decide) rfl rfl).mono fun σ H Q ⟨F, Af, env, s, p⟩ => ?_
  rw [stepE_lenScr] at p
  split at p
  · rename_i is e
    obtain ⟨v, e1, r⟩ := s.at_ i _ (join_some e)
    obtain ⟨a, rfl, rs⟩ := r.scr_inv
    refine ⟨_, e1, _, _, rfl, .inl (ex_l s.ex rs), ?_⟩
    rw [List.length_map]
    exact p.nowV s (.int _)
  · exact p.elim
theorem e_ixScr (hX : At nm T cA fA n W X) {i : Nat} {x : Str} {p1 pos : Pos} {y : E} {c : Expr} (hs : (match c with | .Slice _ _ _ _ => false | _ => true) = true) (hv : isVr X.N X.env.scope i x = true) (hc : PE X c (TO X cA W (ev y))) : PE X (.Subscript (.Name x p1) c pos) (TO X cA W (stepE T ev exs (.ixScr i y))) := by
  obtain ⟨h1, h2, h3, h4⟩ := isVr_spec hv
  refine (pe_ix ix_list (pe_var h1 h2 h3 h4) hc.toD (by cases c <;> first | (intro _ _; rfl) | cases hs)).mono fun σ H Q ⟨F, Af, env, s, p⟩ => ?_
  rw [stepE_ixScr] at p
  split at p
  · rename_i is e
    obtain ⟨v, e1, r⟩ := s.at_ i _ (join_some e)
    obtain ⟨a, rfl, rs⟩ := r.scr_inv
    refine ⟨_, e1, PG.tg s (PG.bind (k := fun d env => match d with
      | .int j => match L2.atI is j with
        | some k => .ok (O.val (.int k), env)
        | none => .stuck
      | _ => .stuck) p fun d env2 w F2 H2 Af2 C2 _ s2 t2 r2 nd2 un2 q2 => ?_)⟩
    cases d with
    | int j =>
      cases r2.2.int_inv
      cases hk : L2.atI is j with
      | some k =>
        simp only [hk] at q2
        refine ⟨a, is.map V.int, j, .int k, rfl, rfl, ex_l s2.ex (ex_l t2.ex rs), ?_, q2.nowV s2 (.int _)⟩
        obtain ⟨u, h5, h6⟩ := atI_lt hk
        unfold atI
        rw [List.length_map, h5]
        show (is.map V.int)[u]? = _
        rw [List.getElem?_map, h6]; rfl
      | none =>
        simp only [hk] at q2
        exact q2.elim
    | _ => exact q2.elim
  · exact p.elim
/-! x.pop() -/
theorem e_pop (hX : At nm T cA fA n W X) {i : Nat} {x : Str} {p1 ap pos : Pos} (hl : (ap.endLine == pos.line) = true) (hv : isVr X.N X.env.scope i x = true) : PE X (.Call (.Attribute (.Name x p1) "pop" ap) [] [] pos) (TO X cA W (stepE T ev exs (.pop i))) := by
  obtain ⟨h1, h2, h3, h4⟩ := isVr_spec hv
  refine (pe_bm0 PySem.F.plainAttrs_list PySem.F.slot_list_pop PySem.F.type_list_pop mt_pop (pe_var h1 h2 h3 h4) rfl hl).mono fun σ H Q ⟨F, Af, env, s, p⟩ => ?_
  rw [stepE_pop] at p
  split at p
  · rename_i os e
    obtain ⟨a, vs, C, e1, e2, e3, r⟩ := s.own e
    split at p
    · rename_i d ed
      obtain ⟨v, hv, rv, r'⟩ := r.last_val ed
      refine ⟨_, e1, .inl ⟨rfl, vs, SqL.of e2⟩, a, vs, v, rfl, rfl, e2, hv, ?_⟩
      exact p v F (upd H a (.lst vs.dropLast)) Af [] (s.setL e e1 e2 e3 r') (Stp.setL (i := i) (by rw [e3]; exact List.mem_cons_self)) (.val rv) .nil fun _ z => nomatch z
    · exact p.elim
  · exact p.elim
end
end Ev

end
section
set_option autoImplicit false
set_option linter.all false
set_option maxRecDepth 100000
/-! Walks, targets, list comprehensions. -/
namespace Ev
open PySem L2 PyProof.Rows RZ

section
variable {K : PySem.W.Frag} {F F' H H' : Hp} {σ : L2.St} {env env' : Env} {Af Af' : Nat → List Addr}

/-- more stands -/
structure Grow (F H F' H' : Hp) : Prop where
  f : Ex F F'
  h : Ex H H'
  fh : Ex F' H'
  pr : ∀ a, F' a ≠ none → F a ≠ none ∨ H a = none
theorem SR.grow (s : SR K F H σ env Af) (g : Grow F H F' H') : SR K F' H' σ env Af := by
  have kp : ∀ i a, a ∈ Af i → H' a = H a := fun i a h => by
    cases q : H a with
    | none => exact absurd q (s.th i a h)
    | some o => exact g.h a o q
  exact ⟨g.fh, s.len, fun i o e => by
    obtain ⟨v, h1, h2⟩ := s.at_ i o e
    exact ⟨v, h1, h2.mono g.f fun a ha => kp i a ha⟩, s.nd, s.dj, fun i a h => Classical.byContradiction fun n => by
    rcases g.pr a n with q | q
    · exact q (s.un i a h)
    · exact s.th i a h q, fun i a h => by rw [kp i a h]; exact s.th i a h⟩
theorem Stp.grow (g : Grow F H F' H') : Stp F H Af F' H' Af [] :=
  ⟨g.f, fun a o e _ => g.h a o e, fun a h => by
    cases q : H a with
    | none => exact absurd q h
    | some o => rw [g.h a o q]; exact fun z => (nomatch z), fun a h => (g.pr a h).imp id .inl, fun a h => .inl h, fun a h => (nomatch h)⟩
theorem Grow.refl (e : Ex F H) : Grow F H F H := ⟨Ex.refl _, Ex.refl _, e, fun _ h => .inl h⟩

/-- an iterator that gives what ds say -/
structure Walk (K : PySem.W.Frag) (F0 : Hp) (J : It) (ds : List D) : Prop where
  go : ∀ (i : Nat) (F H : Hp), Ex F0 F → Ex F H → i < ds.length → J.go i H
  stop : ∀ (F H : Hp), Ex F0 F → Ex F H → J.stop ds.length H
  yld : ∀ (i : Nat) (F H : Hp) (x : V) (H' : Hp) (d : D), Ex F0 F → Ex F H → ds[i]? = some d → J.yld i H x H' → ∃ F', Grow F H F' H' ∧ Rep K F' x d
def rIt (K : PySem.W.Frag) : Rp (List D) It := fun F H J ds C => C = [] ∧ Walk K F J ds
theorem Walk.list {a : Addr} {xs : List V} {ds : List D} (h : F a = some (.lst xs)) (r : RepAll K F xs ds) : Walk K F (Itl K a) ds where
  go := fun i F1 H1 e1 e2 hi => by
    rw [← r.length] at hi
    exact ⟨xs, xs[i], SqL.of (e2 _ _ (e1 _ _ h)), List.getElem?_eq_getElem hi⟩
  stop := fun F1 H1 e1 e2 => ⟨xs, SqL.of (e2 _ _ (e1 _ _ h)), by rw [r.length]; exact Nat.le_refl _⟩
  yld := fun i F1 H1 x H' d e1 e2 hd y => by
    obtain ⟨rfl, hx⟩ := y
    obtain ⟨v, h1, h2⟩ := r.at hd
    have := hx xs (SqL.of (e2 _ _ (e1 _ _ h)))
    rw [h1] at this
    cases this
    exact ⟨F1, Grow.refl e2, h2.mono e1⟩
theorem Walk.tup {a : Addr} {xs : List V} {ds : List D} (h : SqT K F a xs) (r : RepAll K F xs ds) : Walk K F (Itt K a) ds where
  go := fun i F1 H1 e1 e2 hi => by
    rw [← r.length] at hi
    exact ⟨xs, xs[i], ex_t e2 (ex_t e1 h), List.getElem?_eq_getElem hi⟩
  stop := fun F1 H1 e1 e2 => ⟨xs, ex_t e2 (ex_t e1 h), by rw [r.length]; exact Nat.le_refl _⟩
  yld := fun i F1 H1 x H' d e1 e2 hd y => by
    obtain ⟨rfl, hx⟩ := y
    obtain ⟨v, h1, h2⟩ := r.at hd
    have := hx xs (ex_t e2 (ex_t e1 h))
    rw [h1] at this
    cases this
    exact ⟨F1, Grow.refl e2, h2.mono e1⟩
theorem Walk.range (i0 : Int) (n : Nat) : Walk K F (Itr i0 n) ((List.range n).map fun (k : Nat) => .int (i0 + (k : Int))) where
  go := fun i F1 H1 e1 e2 hi => by simpa [Itr] using hi
  stop := fun F1 H1 e1 e2 => by simp [Itr]
  yld := fun i F1 H1 x H' d e1 e2 hd y => by
    obtain ⟨rfl, rfl⟩ := y
    rw [List.getElem?_map] at hd
    cases hi : (List.range n)[i]? with
    | none => rw [hi] at hd; cases hd
    | some k =>
      rw [hi] at hd
      obtain ⟨_, hk⟩ := List.getElem?_eq_some_iff.mp hi
      rw [List.getElem_range] at hk
      subst hk
      cases hd
      exact ⟨F1, Grow.refl e2, .int _⟩
theorem Walk.rangeS (i0 c : Int) (n : Nat) : Walk K F (Itc i0 c n) ((List.range n).map fun (k : Nat) => .int (i0 + (k : Int) * c)) where
  go := fun i F1 H1 e1 e2 hi => by simpa [Itc] using hi
  stop := fun F1 H1 e1 e2 => by simp [Itc]
  yld := fun i F1 H1 x H' d e1 e2 hd y => by
    obtain ⟨rfl, rfl⟩ := y
    rw [List.getElem?_map] at hd
    cases hi : (List.range n)[i]? with
    | none => rw [hi] at hd; cases hd
    | some k =>
      rw [hi] at hd
      obtain ⟨_, hk⟩ := List.getElem?_eq_some_iff.mp hi
      rw [List.getElem_range] at hk
      subst hk
      cases hd
      exact ⟨F1, Grow.refl e2, .int _⟩
theorem Grow.tup {p : Addr} {vs : List V} (e : Ex F H) (hp : H p = none) : Grow F H (upd F p (.tup vs)) (upd H p (.tup vs)) := by
  have hf : F p = none := by
    cases q : F p with
    | none => rfl
    | some o => rw [e p o q] at hp; cases hp
  exact ⟨Ex.new hf, Ex.new hp, fun a o q => by
    by_cases h : a = p
    · subst h; rw [upd_same] at q ⊢; exact q
    · rw [upd_ne h] at q ⊢; exact e a o q, fun a h => by
    by_cases z : a = p
    · exact .inr (z ▸ hp)
    · rw [upd_ne z] at h; exact .inl h⟩
theorem Walk.enum {a : Addr} {xs : List V} {ds : List D} (h : F a = some (.lst xs)) (r : RepAll K F xs ds) : Walk K F (Ite K a) (ds.mapIdx fun i x => .tuple [.int i, x]) where
  go := fun i F1 H1 e1 e2 hi => by
    rw [List.length_mapIdx, ← r.length] at hi
    exact ⟨xs, xs[i], SqL.of (e2 _ _ (e1 _ _ h)), List.getElem?_eq_getElem hi⟩
  stop := fun F1 H1 e1 e2 => ⟨xs, SqL.of (e2 _ _ (e1 _ _ h)), by rw [List.length_mapIdx, r.length]; exact Nat.le_refl _⟩
  yld := fun i F1 H1 x H' d e1 e2 hd y => by
    obtain ⟨p, x, rfl, hp, rfl, hx⟩ := y
    rw [List.getElem?_mapIdx] at hd
    cases hi : ds[i]? with
    | none => rw [hi] at hd; cases hd
    | some d0 =>
      rw [hi] at hd
      cases hd
      obtain ⟨v, h1, h2⟩ := r.at hi
      have := hx xs (SqL.of (e2 _ _ (e1 _ _ h)))
      rw [h1] at this
      cases this
      have g := Grow.tup (vs := [V.int (i : Nat), x]) e2 hp
      exact ⟨_, g, .tup (.inl (.inl upd_same)) (.cons (.int _) (.cons (h2.mono (e1.trans g.f)) .nil))⟩
theorem zipW_get {α β γ : Type} {f : α → β → γ} : ∀ {xs : List α} {ys : List β} {i : Nat} {z : γ}, (List.zipWith f xs ys)[i]? = some z → ∃ x y, xs[i]? = some x ∧ ys[i]? = some y ∧ z = f x y
  | [], _, _, _, h => by simp at h
  | _ :: _, [], _, _, h => by simp at h
  | x :: xs, y :: ys, 0, _, h => by simp at h; exact ⟨x, y, rfl, rfl, h.symm⟩
  | x :: xs, y :: ys, i + 1, _, h => by
    obtain ⟨a, b, h1, h2, h3⟩ := zipW_get (f := f) (xs := xs) (ys := ys) (i := i) (by simpa using h)
    exact ⟨a, b, by simpa using h1, by simpa using h2, h3⟩
theorem Walk.zipL {a b : Addr} {xs ys : List V} {ds es : List D} (h : F a = some (.lst xs)) (r : RepAll K F xs ds) (h' : F b = some (.lst ys)) (r' : RepAll K F ys es) : Walk K F (Itz K a b) (List.zipWith (fun x y => .tuple [x, y]) ds es) where
  go := fun i F1 H1 e1 e2 hi => by
    rw [List.length_zipWith, ← r.length, ← r'.length] at hi
    exact ⟨xs, ys, xs[i]'(by omega), ys[i]'(by omega), SqL.of (e2 _ _ (e1 _ _ h)), SqL.of (e2 _ _ (e1 _ _ h')), List.getElem?_eq_getElem _, List.getElem?_eq_getElem _⟩
  stop := fun F1 H1 e1 e2 => ⟨xs, ys, SqL.of (e2 _ _ (e1 _ _ h)), SqL.of (e2 _ _ (e1 _ _ h')), by rw [List.length_zipWith, r.length, r'.length]; omega⟩
  yld := fun i F1 H1 x H' d e1 e2 hd y => by
    obtain ⟨p, x, y, rfl, hp, rfl, hx, hy⟩ := y
    obtain ⟨d1, d2, k1, k2, rfl⟩ := zipW_get hd
    obtain ⟨v, h1, h2⟩ := r.at k1
    obtain ⟨w, h3, h4⟩ := r'.at k2
    have z := hx xs (SqL.of (e2 _ _ (e1 _ _ h)))
    rw [h1] at z
    cases z
    have z := hy ys (SqL.of (e2 _ _ (e1 _ _ h')))
    rw [h3] at z
    cases z
    have g := Grow.tup (vs := [x, y]) e2 hp
    exact ⟨_, g, .tup (.inl (.inl upd_same)) (.cons (h2.mono (e1.trans g.f)) (.cons (h4.mono (e1.trans g.f)) .nil))⟩
theorem Walk.zipT {a b : Addr} {xs ys : List V} {ds es : List D} (h : SqT K F a xs) (r : RepAll K F xs ds) (h' : SqT K F b ys) (r' : RepAll K F ys es) : Walk K F (ItzT K a b) (List.zipWith (fun x y => .tuple [x, y]) ds es) where
  go := fun i F1 H1 e1 e2 hi => by
    rw [List.length_zipWith, ← r.length, ← r'.length] at hi
    exact ⟨xs, ys, xs[i]'(by omega), ys[i]'(by omega), ex_t e2 (ex_t e1 h), ex_t e2 (ex_t e1 h'), List.getElem?_eq_getElem _, List.getElem?_eq_getElem _⟩
  stop := fun F1 H1 e1 e2 => ⟨xs, ys, ex_t e2 (ex_t e1 h), ex_t e2 (ex_t e1 h'), by rw [List.length_zipWith, r.length, r'.length]; omega⟩
  yld := fun i F1 H1 x H' d e1 e2 hd y => by
    obtain ⟨p, x, y, rfl, hp, rfl, hx, hy⟩ := y
    obtain ⟨d1, d2, k1, k2, rfl⟩ := zipW_get hd
    obtain ⟨v, h1, h2⟩ := r.at k1
    obtain ⟨w, h3, h4⟩ := r'.at k2
    have z := hx xs (ex_t e2 (ex_t e1 h))
    rw [h1] at z
    cases z
    have z := hy ys (ex_t e2 (ex_t e1 h'))
    rw [h3] at z
    cases z
    have g := Grow.tup (vs := [x, y]) e2 hp
    exact ⟨_, g, .tup (.inl (.inl upd_same)) (.cons (h2.mono (e1.trans g.f)) (.cons (h4.mono (e1.trans g.f)) .nil))⟩

/-! setting slots -/
theorem SR.set (s : SR K F H σ env Af) {i : Nat} {v : V} {o : O} {C : List Addr} (hi : i < env.length) (r : RO K F H v o C) (nd : C.Nodup) (un : ∀ x ∈ C, F x = none ∧ ¬ Own Af x) : SR K F H (σ.set i (some v)) (setO env i o) (fun j => if j = i then C else Af j) := by
  refine ⟨s.ex, by unfold setO; rw [List.length_set, List.length_set]; exact s.len, fun j u e => ?_, fun j => ?_, fun j k a h1 h2 => ?_, fun j a h1 => ?_, fun j a h1 => ?_⟩
  · rcases getElem_set e with ⟨rfl, _, q⟩ | ⟨hj, q⟩
    · cases q
      refine ⟨v, ?_, ?_⟩
      · rw [List.getElem?_set_self (by rw [s.len]; exact hi)]
      · rw [if_pos rfl]; exact r
    · obtain ⟨w, h1, h2⟩ := s.at_ j u q
      refine ⟨w, ?_, ?_⟩
      · rw [List.getElem?_set_ne (Ne.symm hj)]; exact h1
      · rw [if_neg hj]; exact h2
  · show (if j = i then C else Af j).Nodup
    split
    · exact nd
    · exact s.nd j
  · have h1 : a ∈ (if j = i then C else Af j) := h1
    have h2 : a ∈ (if k = i then C else Af k) := h2
    split at h1 <;> split at h2
    · rename_i a1 a2; rw [a1, a2]
    · exact absurd ⟨k, h2⟩ (un a h1).2
    · exact absurd ⟨j, h1⟩ (un a h2).2
    · exact s.dj _ _ a h1 h2
  · have h1 : a ∈ (if j = i then C else Af j) := h1
    split at h1
    · exact (un a h1).1
    · exact s.un j a h1
  · have h1 : a ∈ (if j = i then C else Af j) := h1
    split at h1
    · rcases r.there a h1 with ⟨xs, q⟩ | ⟨xs, q⟩ <;> rw [q] <;> exact fun z => nomatch z
    · exact s.th j a h1
/-- fewer things are owned -/
def Less (Af Af' : Nat → List Addr) : Prop := ∀ i, Af' i = Af i ∨ Af' i = []
theorem Less.own (l : Less Af Af') {a : Addr} : Own Af' a → Own Af a := fun ⟨i, h⟩ => by
  rcases l i with q | q
  · exact ⟨i, q ▸ h⟩
  · rw [q] at h; cases h
theorem Stp.less (l : Less Af Af') : Stp F H Af F H Af' [] := ⟨Ex.refl _, fun _ _ h _ => h, fun _ h => h, fun _ h => .inl h, fun _ h => .inl (l.own h), fun _ h => nomatch h⟩
theorem Less.refl : Less Af Af := fun _ => .inl rfl
theorem Less.trans {Af1 Af2 Af3 : Nat → List Addr} (a : Less Af1 Af2) (b : Less Af2 Af3) : Less Af1 Af3 := fun i => by
  rcases b i with q | q
  · rcases a i with p | p
    · exact .inl (q.trans p)
    · exact .inr (q.trans p)
  · exact .inr q
theorem Less.set (i : Nat) : Less Af (fun j => if j = i then [] else Af j) := fun j => by
  show (if j = i then [] else Af j) = _ ∨ (if j = i then [] else Af j) = _
  split
  · exact .inr rfl
  · exact .inl rfl

/-! targets -/
/-- a, b, .. = a tuple, a list of that length -/
def gTL (K : PySem.W.Frag) (n : Nat) (t : L2.TGs) : L2.TG := fun v σ H Q => gTup K n t v σ H Q ∨ gLst K n t v σ H Q
theorem pg_tl {X : Cx} {pos : Pos} {es : List Expr} {k : Nat} {t : L2.TGs} {n : Nat} (hc : X.calm = true) (h : PGs X es t)
    (hn : (assignEach es X.env).length = n) (hst : (assignEach es X.env).findIdx? (·.1) = none) : L2.PG X (.Tuple es k pos) (gTL X.K n t) :=
  ⟨fun pins s σ H v u Q I r hw => hw.elim (fun q => (pg_tup hc h hn hst).run pins s σ H v u Q I r q) (fun q => (pg_lst hc h hn hst).run pins s σ H v u Q I r q)⟩
mutual
def gT (K : PySem.W.Frag) : Tgt → L2.TG
  | .nm i => gName i
  | .tup ts => gTL K ts.length (gTs K ts)
def gTs (K : PySem.W.Frag) : List Tgt → TGs
  | [] => gNil
  | t :: ts => gCons (gT K t) (gTs K ts)
end
/-- σ' is σ but for the slots of is -/
def Same (is : List Nat) (σ σ' : L2.St) : Prop := σ'.length = σ.length ∧ ∀ j, j ∉ is → σ'[j]? = σ[j]?
theorem Same.refl (is : List Nat) (σ : L2.St) : Same is σ σ := ⟨rfl, fun _ _ => rfl⟩
theorem Same.trans {is js : List Nat} {σ1 σ2 σ3 : L2.St} (a : Same is σ1 σ2) (b : Same js σ2 σ3) : Same (is ++ js) σ1 σ3 := ⟨b.1.trans a.1, fun j hj => by
  rw [List.mem_append, not_or] at hj
  exact (b.2 j hj.2).trans (a.2 j hj.1)⟩
theorem Same.mono {is js : List Nat} {σ1 σ2 : L2.St} (a : Same is σ1 σ2) (h : ∀ i ∈ is, i ∈ js) : Same js σ1 σ2 := ⟨a.1, fun j hj => a.2 j fun z => hj (h j z)⟩
theorem Same.set (i : Nat) (v : Option V) (σ : L2.St) : Same [i] σ (σ.set i v) := ⟨List.length_set, fun j hj => List.getElem?_set_ne (fun z => hj (by simp [z]))⟩
mutual
theorem gT_ok : ∀ (t : Tgt) {d : D} {x : V} {env env' : Env} {σ : L2.St} {H : Hp} {Af : Nat → List Addr} {Q : L2.St → Hp → Prop}, assignT t d env = some env' → SR K F H σ env Af → Rep K F x d →
    (∀ σ' Af', SR K F H σ' env' Af' → Less Af Af' → Same (tslots t) σ σ' → Q σ' H) → gT K t x σ H Q
  | .nm i, d, x, env, env', σ, H, Af, Q, e, s, r, q => by
    have e : (if i < env.length then some (setO env i (.val d)) else none) = some env' := e
    split at e
    · rename_i hi
      cases e
      exact q _ _ (s.set hi (.val r) .nil fun _ z => nomatch z) (Less.set i) (Same.set i _ σ)
    · cases e
  | .tup ts, d, x, env, env', σ, H, Af, Q, e, s, r, q => by
    cases d with
    | tuple ds =>
      have e : assignTs ts ds env = some env' := e
      obtain ⟨a, xs, rfl, h1, h2⟩ := r.tup_inv
      have hl : xs.length = ts.length := by rw [h2.length]; exact assignTs_len e
      exact .inl ⟨a, xs, rfl, ex_t s.ex h1, hl, gTs_ok ts e s h2 q⟩
    | list ds =>
      have e : assignTs ts ds env = some env' := e
      obtain ⟨a, xs, rfl, h1, h2⟩ := r.lst_inv
      have hl : xs.length = ts.length := by rw [h2.length]; exact assignTs_len e
      exact .inr ⟨a, xs, rfl, SqL.of (s.ex _ _ h1), hl, gTs_ok ts e s h2 q⟩
    | _ => cases e
theorem gTs_ok : ∀ (ts : List Tgt) {ds : List D} {xs : List V} {env env' : Env} {σ : L2.St} {H : Hp} {Af : Nat → List Addr} {Q : L2.St → Hp → Prop}, assignTs ts ds env = some env' → SR K F H σ env Af → RepAll K F xs ds →
    (∀ σ' Af', SR K F H σ' env' Af' → Less Af Af' → Same (tslotss ts) σ σ' → Q σ' H) → gTs K ts xs σ H Q
  | [], ds, xs, env, env', σ, H, Af, Q, e, s, r, q => by
    cases r with
    | nil =>
      cases e
      exact ⟨rfl, q σ Af s Less.refl (Same.refl _ _)⟩
    | cons _ _ => cases e
  | t :: ts, ds, xs, env, env', σ, H, Af, Q, e, s, r, q => by
    cases r with
    | nil => cases e
    | cons h1 h2 =>
      rename_i v vs d ds
      have e : (match assignT t d env with | some env' => assignTs ts ds env' | none => none) = some env' := e
      cases h : assignT t d env with
      | none => rw [h] at e; cases e
      | some env1 =>
        rw [h] at e
        exact ⟨v, vs, rfl, gT_ok t h s h1 fun σ1 Af1 s1 l1 m1 => gTs_ok ts e s1 h2 fun σ2 Af2 s2 l2 m2 => q σ2 Af2 s2 (l1.trans l2) (m1.trans m2)⟩
theorem assignTs_len : ∀ {ts : List Tgt} {ds : List D} {env env' : Env}, assignTs ts ds env = some env' → ds.length = ts.length
  | [], [], _, _, _ => rfl
  | [], _ :: _, _, _, e => by cases e
  | _ :: _, [], _, _, e => by cases e
  | t :: ts, d :: ds, env, env', e => by
    have e : (match assignT t d env with | some env' => assignTs ts ds env' | none => none) = some env' := e
    cases h : assignT t d env with
    | none => rw [h] at e; cases e
    | some env1 => rw [h] at e; rw [List.length_cons, List.length_cons, assignTs_len e]
end
end
end Ev

end
section
set_option autoImplicit false
set_option linter.all false
set_option maxRecDepth 100000
/-! List comprehensions. -/
namespace Ev
open PySem L2 PyProof.Rows RZ

theorem _root_.L2.PI.mono {X : Cx} {tg it : Expr} {t t' : TI} (h : PI X tg it t) (m : ∀ σ H Q, t' σ H Q → t σ H Q) : PI X tg it t' := ⟨fun pins s σ H Q I q => h.run pins s σ H Q I (m σ H Q q)⟩
section
variable {nm : Names} {T : Tab} {cA fA : Nat → Addr} {n : Nat} {W : WX} {X : Cx} {ev : E → Env → Res (O × Env)} {exs : List S → Env → Res (Fl × Env)} {tg : Expr}
abbrev TIt (X : Cx) (cA : Nat → Addr) (W : WX) (r : Env → Res (List D × Env)) : TI := TG X.K cA W (rIt X.K) r

def iSeq (K : PySem.W.Frag) (te : TE) : TI := fun σ H R => te σ H fun x H1 => ∃ a xs, x = .ref a ∧ ((SqL K H1 a xs ∧ R (Itl K a) H1) ∨ (SqT K H1 a xs ∧ R (Itt K a) H1))
theorem pi_seq {l : Expr} {tl : TE} (hl : PE X l tl) : PI X tg l (iSeq X.K tl) := by
  refine ⟨fun pins s σ H R I h => ?_⟩
  refine thn (hl.run pins s σ H _ I h) fun v s1 ⟨x, H1, I1, r1, q1⟩ => ?_
  obtain ⟨a, xs, e, q1⟩ := q1
  subst e
  cases r1
  rcases q1 with ⟨hq, q⟩ | ⟨hq, q⟩
  · obtain ⟨its, rv, p, hz⟩ := I1.list hq
    refine wpAny_pyIter_list p.isList ?_
    refine ⟨s1.heap.objs.size, [s1.heap.objs.size], _, _, H1, rfl, I1.kept (t' := s1.toks) fun b o e => Heap.get?_push_of_some _ e, turn_list a _, ⟨_, Heap.get?_push_size _ rfl, rfl, rfl⟩, fun b hb => ?_, q⟩
    have e : b = s1.heap.objs.size := by simpa using hb
    subst e
    exact I1.fpOk (Nat.le_refl _) (I1.hok.fresh (Nat.le_refl _))
  · obtain ⟨its, rv, p, hz⟩ := I1.tuple hq
    refine wpAny_pyIter_tuple (show s1.heap.IsTuple a its.toArray from p) ?_
    refine ⟨s1.heap.objs.size, [s1.heap.objs.size], _, _, H1, rfl, I1.kept (t' := s1.toks) fun b o e => Heap.get?_push_of_some _ e, turn_tuple a _, ⟨_, Heap.get?_push_size _ rfl, rfl, rfl⟩, fun b hb => ?_, q⟩
    have e : b = s1.heap.objs.size := by simpa using hb
    subst e
    exact I1.fpOk (Nat.le_refl _) (I1.hok.fresh (Nat.le_refl _))
theorem i_seq {e : E} {a : Expr} (h : PE X a (TO X cA W (ev e))) : PI X tg a (TIt X cA W (items ev (.seq e))) := by
  refine (pi_seq h.toD).mono fun σ H Q h => ?_
  refine TG.bind (rep := rD X.K) (r := evD ev e) (k := fun d env => match d with | .list xs => .ok (xs, env) | .tuple xs => .ok (xs, env) | _ => .stuck) h fun d env1 v F1 H1 Af1 C s1 r1 nd un q => ?_
  cases d with
  | list ds =>
    obtain ⟨a, xs, rfl, e2, e3⟩ := r1.2.lst_inv
    exact ⟨a, xs, rfl, .inl ⟨SqL.of (s1.ex _ _ e2), PG.now q s1 ⟨rfl, .list e2 e3⟩⟩⟩
  | tuple ds =>
    obtain ⟨a, xs, rfl, e2, e3⟩ := r1.2.tup_inv
    exact ⟨a, xs, rfl, .inr ⟨ex_t s1.ex e2, PG.now q s1 ⟨rfl, .tup e2 e3⟩⟩⟩
  | _ => exact q.elim
theorem i_scr (hX : At nm T cA fA n W X) {i : Nat} {x : Str} {p : Pos} (hv : isVr X.N X.env.scope i x = true) : PI X tg (.Name x p) (TIt X cA W (items ev (.scr i))) := by
  obtain ⟨h1, h2, h3, h4⟩ := isVr_spec hv
  refine (pi_seq (pe_var h1 h2 h3 h4)).mono fun σ H Q ⟨F, Af, env, s, p⟩ => ?_
  have p : PG X.K cA W (rIt X.K) σ F H Af (match (env[i]?).join with | some (.scr is) => .ok (is.map .int, env) | _ => .stuck) Q := p
  split at p
  · rename_i is e
    obtain ⟨v, e1, r⟩ := s.at_ i _ (join_some e)
    obtain ⟨a, rfl, rs⟩ := r.scr_inv
    refine ⟨_, e1, a, _, rfl, .inl ⟨ex_l s.ex rs, PG.now p s ⟨rfl, ?_⟩⟩⟩
    exact ⟨fun i F1 H1 e1 e2 hi => ⟨is.map V.int, (is.map V.int)[i]'(by simpa using hi), ex_l e2 (ex_l e1 rs), List.getElem?_eq_getElem _⟩,
      fun F1 H1 e1 e2 => ⟨_, ex_l e2 (ex_l e1 rs), by simp⟩, fun i F1 H1 x H' d e1 e2 hd y => by
        obtain ⟨rfl, hx⟩ := y
        have := hx _ (ex_l e2 (ex_l e1 rs))
        rw [List.getElem?_map] at this hd
        cases hi : is[i]? with
        | none => rw [hi] at hd; cases hd
        | some k =>
          rw [hi] at hd this
          cases hd
          cases this
          exact ⟨F1, Grow.refl e2, .int _⟩⟩
  · exact p.elim
theorem i_range (hX : At nm T cA fA n W X) {e : E} {b : Expr} {f : Str} {p0 pos : Pos} (hf : f = "range") (h : Gl X f ∧ f ∈ nm.bl) (hs : noStar b = true) (hb : PE X b (TO X cA W (ev e))) : PI X tg (.Call (.Name f p0) [b] [] pos) (TIt X cA W (items ev (.range e))) := by
  subst hf
  refine (pi_range1 h.1 (hX.blt _ h.2) (pa_cons hb.toD pa_nil (star1 hs _ _)) (star1 hs [] _)).mono fun σ H Q h => ?_
  refine TG.bind (rep := rD X.K) (r := evD ev e) (k := fun d env => match d with | .int j => if okRange j && decide (j ≤ most) then .ok (rangeD 0 j, env) else .stuck | _ => .stuck) h fun d env1 v F1 H1 Af1 C s1 r1 nd un q => ?_
  cases d with
  | int j =>
    cases r1.2.int_inv
    have q : PG X.K cA W (rIt X.K) σ F1 H1 Af1 (if okRange j && decide (j ≤ most) then .ok (rangeD 0 j, env1) else .stuck) Q := q
    split at q
    · rename_i hj
      rw [Bool.and_eq_true, decide_eq_true_eq] at hj
      have := okRange_spec hj.1
      refine ⟨j, rfl, this.1, this.2, PG.now q s1 ⟨rfl, ?_⟩⟩
      have e : (j - 0).toNat = j.toNat := by rw [Int.sub_zero]
      unfold rangeD
      rw [e]
      exact Walk.range 0 j.toNat
    · exact q.elim
  | _ => exact q.elim
theorem i_range2 (hX : At nm T cA fA n W X) {e g : E} {b c : Expr} {f : Str} {p0 pos : Pos} (hf : f = "range") (h : Gl X f ∧ f ∈ nm.bl) (hs : noStar b = true) (hs2 : noStar c = true) (hb : PE X b (TO X cA W (ev e))) (hc : PE X c (TO X cA W (ev g))) : PI X tg (.Call (.Name f p0) [b, c] [] pos) (TIt X cA W (items ev (.range2 e g))) := by
  subst hf
  refine (pi_range2 h.1 (hX.blt _ h.2) (pa_cons hb.toD (pa_cons hc.toD pa_nil (star1 hs2 _ _)) (star1 hs _ _)) (by rw [star1 hs, star1 hs2]; rfl) (star1 hs2 [] _)).mono fun σ H Q h => ?_
  refine TG.bind (rep := rD X.K) (r := evD ev e) (k := fun d env => (evD ev g env).bind fun q => match d, q.1 with | .int i, .int j => if okRange i && okRange j && decide (j - i ≤ most) then .ok (rangeD i j, q.2) else .stuck | _, _ => .stuck) h fun d env1 v F1 H1 Af1 C s1 r1 nd un q => ?_
  refine PG.tg s1 (PG.bind (rep := rD X.K) (k := fun e env => match d, e with | .int i, .int j => if okRange i && okRange j && decide (j - i ≤ most) then .ok (rangeD i j, env) else .stuck | _, _ => .stuck) q fun e env2 w F2 H2 Af2 C2 _ s2 t2 r2 nd2 un2 q2 => ?_)
  cases d with
  | int i =>
    cases e with
    | int j =>
      cases r1.2.int_inv
      cases r2.2.int_inv
      have q2 : PG X.K cA W (rIt X.K) σ F2 H2 Af2 (if okRange i && okRange j && decide (j - i ≤ most) then .ok (rangeD i j, env2) else .stuck) Q := q2
      split at q2
      · rename_i hj
        simp only [Bool.and_eq_true, decide_eq_true_eq] at hj
        have h1 := okRange_spec hj.1.1
        have h2 := okRange_spec hj.1.2
        exact ⟨i, j, rfl, ⟨h1.1, h1.2, h2.1, h2.2⟩, PG.now q2 s2 ⟨rfl, Walk.range i (j - i).toNat⟩⟩
      · exact q2.elim
    | _ => exact q2.elim
  | _ => exact q2.elim
theorem stepN_small {i j c : Int} (h1 : -(2 ^ 62) ≤ i) (h2 : i < 2 ^ 62) (h3 : -(2 ^ 62) ≤ j) (h4 : j < 2 ^ 62) (hc : 0 < c) (hm : c ≤ 1000000) : L2.RgC i j c (stepN i j c) := by
  have hn : Builtin.Range.rangeSize i j c = (stepN i j c : Nat) := by
    unfold Builtin.Range.rangeSize stepN
    rw [if_pos hc]
    split
    · have : 0 ≤ (j - i - 1) / c := Int.ediv_nonneg (by omega) (by omega)
      omega
    · rfl
  refine ⟨by omega, by omega, ?_, hn⟩
  unfold Builtin.Range.small
  rw [hn]
  have hb : (stepN i j c : Int) ≤ j - i ∨ (stepN i j c : Int) = 0 := by
    unfold stepN
    split
    · rename_i hlt
      have q1 : 0 ≤ (j - i - 1) / c := Int.ediv_nonneg (by omega) (by omega)
      have q2 : (j - i - 1) / c ≤ j - i - 1 := Int.ediv_le_self _ (by omega)
      exact .inl (by omega)
    · exact .inr rfl
  simp only [Builtin.Range.rangeFitsLong, Bool.and_eq_true, Bool.or_eq_true, decide_eq_true_eq, beq_iff_eq, hc, if_true]
  omega
theorem i_range3 (hX : At nm T cA fA n W X) {e g : E} {ci : Int} {kc : Nat} {pc : Pos} {b c : Expr} {f : Str} {p0 pos : Pos} (hf : f = "range") (h : Gl X f ∧ f ∈ nm.bl) (hs : noStar b = true) (hs2 : noStar c = true) (hb : PE X b (TO X cA W (ev e))) (hc : PE X c (TO X cA W (ev g))) : PI X tg (.Call (.Name f p0) [b, c, .Constant (.int ci) kc pc] [] pos) (TIt X cA W (items ev (.range3 e g ci))) := by
  subst hf
  refine (pi_range3 h.1 (hX.blt _ h.2) (pa_cons hb.toD (pa_cons hc.toD (pa_cons pe_int pa_nil rfl) (star1 hs2 _ _)) (star1 hs _ _)) (star1 hs _ _) (by rw [star1 hs2]; rfl)).mono fun σ H Q h => ?_
  refine TG.bind (rep := rD X.K) (r := evD ev e) (k := fun d env => (evD ev g env).bind fun q => match d, q.1 with | .int i, .int j => if okRange i && okRange j && decide (0 < ci) && decide (ci ≤ most) && decide (j - i ≤ most) then .ok (rangeS i j ci, q.2) else .stuck | _, _ => .stuck) h fun d env1 v F1 H1 Af1 C s1 r1 nd un q => ?_
  refine PG.tg s1 (PG.bind (rep := rD X.K) (k := fun e env => match d, e with | .int i, .int j => if okRange i && okRange j && decide (0 < ci) && decide (ci ≤ most) && decide (j - i ≤ most) then .ok (rangeS i j ci, env) else .stuck | _, _ => .stuck) q fun e env2 w F2 H2 Af2 C2 _ s2 t2 r2 nd2 un2 q2 => ?_)
  cases d with
  | int i =>
    cases e with
    | int j =>
      cases r1.2.int_inv
      cases r2.2.int_inv
      have q2 : PG X.K cA W (rIt X.K) σ F2 H2 Af2 (if okRange i && okRange j && decide (0 < ci) && decide (ci ≤ most) && decide (j - i ≤ most) then .ok (rangeS i j ci, env2) else .stuck) Q := q2
      split at q2
      · rename_i hj
        simp only [Bool.and_eq_true, decide_eq_true_eq] at hj
        have h1 := okRange_spec hj.1.1.1.1
        have h2 := okRange_spec hj.1.1.1.2
        exact ⟨i, j, ci, stepN i j ci, rfl, stepN_small h1.1 h1.2 h2.1 h2.2 hj.1.1.2 hj.1.2, PG.now q2 s2 ⟨rfl, Walk.rangeS i ci _⟩⟩
      · exact q2.elim
    | _ => exact q2.elim
  | _ => exact q2.elim
theorem i_rangeE (hX : At nm T cA fA n W X) {e g k : E} {b c d : Expr} {f : Str} {p0 pos : Pos} (hf : f = "range") (h : Gl X f ∧ f ∈ nm.bl) (hs : noStar b = true) (hs2 : noStar c = true) (hs3 : noStar d = true) (hb : PE X b (TO X cA W (ev e))) (hc : PE X c (TO X cA W (ev g))) (hd : PE X d (TO X cA W (ev k))) : PI X tg (.Call (.Name f p0) [b, c, d] [] pos) (TIt X cA W (items ev (.rangeE e g k))) := by
  subst hf
  refine (pi_range3 h.1 (hX.blt _ h.2) (pa_cons hb.toD (pa_cons hc.toD (pa_cons hd.toD pa_nil (star1 hs3 _ _)) (star1 hs2 _ _)) (star1 hs _ _)) (star1 hs _ _) (by rw [star1 hs2, star1 hs3]; rfl)).mono fun σ H Q h => ?_
  refine TG.bind (rep := rD X.K) (r := evD ev e) (k := fun d env => (evD ev g env).bind fun q => (evD ev k q.2).bind fun r => match d, q.1, r.1 with | .int i, .int j, .int k => if okRange i && okRange j && decide (0 < k) && decide (k ≤ most) && decide (j - i ≤ most) then .ok (rangeS i j k, r.2) else .stuck | _, _, _ => .stuck) h fun d1 env1 v F1 H1 Af1 C s1 r1 nd un q => ?_
  refine PG.tg s1 (PG.bind (rep := rD X.K) (k := fun e env => (evD ev k env).bind fun r => match d1, e, r.1 with | .int i, .int j, .int k => if okRange i && okRange j && decide (0 < k) && decide (k ≤ most) && decide (j - i ≤ most) then .ok (rangeS i j k, r.2) else .stuck | _, _, _ => .stuck) q fun d2 env2 w F2 H2 Af2 C2 _ s2 t2 r2 nd2 un2 q2 => ?_)
  refine PG.tg s2 (PG.bind (rep := rD X.K) (k := fun z env => match d1, d2, z with | .int i, .int j, .int k => if okRange i && okRange j && decide (0 < k) && decide (k ≤ most) && decide (j - i ≤ most) then .ok (rangeS i j k, env) else .stuck | _, _, _ => .stuck) q2 fun d3 env3 u F3 H3 Af3 C3 _ s3 t3 r3 nd3 un3 q3 => ?_)
  cases d1 with
  | int i =>
    cases d2 with
    | int j =>
      cases d3 with
      | int c =>
        cases r1.2.int_inv
        cases r2.2.int_inv
        cases r3.2.int_inv
        have q3 : PG X.K cA W (rIt X.K) σ F3 H3 Af3 (if okRange i && okRange j && decide (0 < c) && decide (c ≤ most) && decide (j - i ≤ most) then .ok (rangeS i j c, env3) else .stuck) Q := q3
        split at q3
        · rename_i hj
          simp only [Bool.and_eq_true, decide_eq_true_eq] at hj
          have h1 := okRange_spec hj.1.1.1.1
          have h2 := okRange_spec hj.1.1.1.2
          exact ⟨i, j, c, stepN i j c, rfl, stepN_small h1.1 h1.2 h2.1 h2.2 hj.1.1.2 hj.1.2, PG.now q3 s3 ⟨rfl, Walk.rangeS i c _⟩⟩
        · exact q3.elim
      | _ => exact q3.elim
    | _ => exact q3.elim
  | _ => exact q3.elim
theorem i_enum (hX : At nm T cA fA n W X) {e : E} {b : Expr} {f : Str} {p0 pos tp : Pos} {els : List Expr} {kk : Nat} (hf : f = "enumerate") (h : Gl X f ∧ f ∈ nm.bl) (hs : noStar b = true) (hb : PE X b (TO X cA W (ev e))) : PI X (.Tuple els kk tp) (.Call (.Name f p0) [b] [] pos) (TIt X cA W (items ev (.enum e))) := by
  subst hf
  refine (pi_enum h.1 (hX.blt _ h.2) (pa_cons hb.toD pa_nil (star1 hs _ _)) (star1 hs [] _)).mono fun σ H Q h => ?_
  refine TG.bind (rep := rD X.K) (r := evD ev e) (k := fun d env => match d with | .list xs => .ok (xs.mapIdx fun i x => PyData.tuple [.int i, x], env) | _ => .stuck) h fun d env1 v F1 H1 Af1 C s1 r1 nd un q => ?_
  cases d with
  | list ds =>
    obtain ⟨a, xs, rfl, e2, e3⟩ := r1.2.lst_inv
    exact ⟨a, xs, rfl, SqL.of (s1.ex _ _ e2), PG.now q s1 ⟨rfl, .enum e2 e3⟩⟩
  | _ => exact q.elim
theorem i_zip (hX : At nm T cA fA n W X) {e g : E} {b c : Expr} {f : Str} {p0 pos tp : Pos} {els : List Expr} {kk : Nat} (hf : f = "zip") (h : Gl X f ∧ f ∈ nm.bl) (hs : noStar b = true) (hs2 : noStar c = true) (hb : PE X b (TO X cA W (ev e))) (hc : PE X c (TO X cA W (ev g))) : PI X (.Tuple els kk tp) (.Call (.Name f p0) [b, c] [] pos) (TIt X cA W (items ev (.zip e g))) := by
  subst hf
  refine (pi_zipA h.1 (hX.blt _ h.2) (pa_cons hb.toD (pa_cons hc.toD pa_nil (star1 hs2 _ _)) (star1 hs _ _)) (star1 hs _ _) (by rw [star1 hs2]; rfl)).mono fun σ H Q h => ?_
  refine TG.bind (rep := rD X.K) (r := evD ev e) (k := fun d env => (evD ev g env).bind fun q => match d, q.1 with | .list xs, .list ys => .ok (List.zipWith (fun x y => PyData.tuple [x, y]) xs ys, q.2) | .tuple xs, .tuple ys => .ok (List.zipWith (fun x y => PyData.tuple [x, y]) xs ys, q.2) | _, _ => .stuck) h fun d env1 v F1 H1 Af1 C s1 r1 nd un q => ?_
  refine PG.tg s1 (PG.bind (rep := rD X.K) (k := fun e env => match d, e with | .list xs, .list ys => .ok (List.zipWith (fun x y => PyData.tuple [x, y]) xs ys, env) | .tuple xs, .tuple ys => .ok (List.zipWith (fun x y => PyData.tuple [x, y]) xs ys, env) | _, _ => .stuck) q fun e env2 w F2 H2 Af2 C2 _ s2 t2 r2 nd2 un2 q2 => ?_)
  have r1 := r1.2.mono t2.ex
  cases d with
  | list ds =>
    cases e with
    | list es =>
      obtain ⟨a, xs, rfl, e2, e3⟩ := r1.lst_inv
      obtain ⟨b, ys, rfl, e4, e5⟩ := r2.2.lst_inv
      exact ⟨a, b, xs, ys, rfl, .inl ⟨SqL.of (s2.ex _ _ e2), SqL.of (s2.ex _ _ e4), PG.now q2 s2 ⟨rfl, .zipL e2 e3 e4 e5⟩⟩⟩
    | _ => exact q2.elim
  | tuple ds =>
    cases e with
    | tuple es =>
      obtain ⟨a, xs, rfl, e2, e3⟩ := r1.tup_inv
      obtain ⟨b, ys, rfl, e4, e5⟩ := r2.2.tup_inv
      exact ⟨a, b, xs, ys, rfl, .inr ⟨ex_t s2.ex e2, ex_t s2.ex e4, PG.now q2 s2 ⟨rfl, .zipT e2 e3 e4 e5⟩⟩⟩
    | _ => exact q2.elim
  | _ => exact q2.elim
/-! list(range(a, b, c)), tuple(range(a, b, c)) -/
def PRg3 (X : Cx) (e : Expr) (t : L2.St → Hp → (Int → Int → Int → Hp → Prop) → Prop) : Prop :=
  ∀ (pins : List (Addr × Obj)) (s : Shared) (σ : L2.St) (H : Hp) (Q : Int → Int → Int → Hp → Prop), Inv X pins σ H s → t σ H Q →
    wpAny (model X.prog X.w) X.A (eval e X.env) (fun x s' => ∃ r a b c t u v H', x = .ref r ∧ IsRange s'.heap r a b c t u v ∧ Inv X pins σ H' s' ∧ Q a b c H') X.xe s
theorem prg_3 {a b c : Expr} {ta : TA} {p pos : Pos} (hg : Gl X "range") (hm : X.mg "range" = none) (ha : PA X [a, b, c] ta) (hs : starEach [a, b, c] X.env = (false, eval a X.env) :: starEach [b, c] X.env := by rfl) (hpl : (backTo pos (starEach [b, c] X.env)).any (·.1) = false := by rfl) :
    PRg3 X (.Call (.Name "range" p) [a, b, c] [] pos) (fun σ H Q => ta σ H fun vs H1 => ∃ i j k, vs = [.int i, .int j, .int k] ∧ (k ≠ 0 ∧ k.natAbs < 1073741824) ∧ Q i j k H1) := by
  intro pins s σ H Q I h
  refine Call_ (ld_blt I hg hm boot_range (PyProof.Rows.callWith_type1 (thn (ha.run pos pins s σ H _ I h) fun us s1 ⟨vs, H1, I1, r1, q1⟩ => ?_) hs hpl))
  obtain ⟨i, j, k, e, ⟨c0, c1⟩, q⟩ := q1
  subst e
  cases r1 with
  | cons r rr =>
    cases rr with
    | cons r' rr =>
      cases rr with
      | cons r'' rr =>
        cases rr
        obtain ⟨t, rfl⟩ := r
        obtain ⟨t', rfl⟩ := r'
        obtain ⟨t'', rfl⟩ := r''
        exact call_range_3 c0 ⟨_, i, j, k, _, _, _, H1, rfl, IsRange.new .., I1.kept (t' := s1.toks) (fun b o e => Heap.get?_push_of_some _ e), q⟩ (.inl (PyProof.noPylong_small c1))
def rgV3 (i c : Int) (n : Nat) : List V := (List.range n).map fun k => V.int (i + (k : Nat) * c)
theorem rep_rangeS {K : PySem.W.Frag} {F : Hp} (i j c : Int) : RepAll K F (rgV3 i c (stepN i j c)) (rangeS i j c) := by
  unfold rgV3 rangeS
  induction List.range (stepN i j c) with
  | nil => exact .nil
  | cons x r ih => exact .cons (.int _) ih
theorem vals_rg3 {i c : Int} {n : Nat} {acc : Array Value} (h : ItemsOf (fun k v => ∃ t, v = .int (i + k * c) t) acc n) : Vals (rgV3 i c n) acc.toList := by
  have e : acc.toList.length = n := by rw [Array.length_toList]; exact h.1
  unfold rgV3
  rw [← e]
  refine vals_of_get acc.toList _ fun j u hj => ?_
  obtain ⟨t, rfl⟩ := h.2 j u (by rw [← hj, Array.getElem?_toList])
  exact ⟨t, rfl⟩
theorem pe_rg3 {e : Expr} {te : L2.St → Hp → (Int → Int → Int → Hp → Prop) → Prop} {x : Str} {p pos : Pos} (t : Bool) (hx : x = if t then ("tuple" : Str) else ("list" : Str)) (hc : X.calm = true) (hg : Gl X x) (hm : X.mg x = none) (he : PRg3 X e te) (na : starEach [e] X.env = (false, eval e X.env) :: starEach [] X.env := by rfl) :
    PE X (.Call (.Name x p) [e] [] pos) (fun σ H Q => te σ H fun i j c H1 => ∃ n, L2.RgC i j c n ∧ n ≤ 2 ^ 24 ∧ ∀ q, H1 q = none → Q (.ref q) (upd H1 q (if t then .tup (rgV3 i c n) else .lst (rgV3 i c n)))) := by
  subst hx
  refine ⟨fun pins s σ H Q I h => ?_⟩
  cases t with
  | false =>
    refine Call_ (ld_blt I hg hm boot_list (PyProof.Rows.callWith_type1 (args_cons (thn (he pins s σ H _ I h) fun x s1 ⟨r, a, b, c, t, u, v, H1, ex, hr, I1, q⟩ => args_nil ?_) na) na))
    subst ex
    obtain ⟨n, ⟨c0, c1, c2, c3⟩, b5, q⟩ := q
    refine call_list_range (n := n) (I1.ok.hd hc) hr c2 c3 b5 fun h' tk acc c' hk e' hi => ?_
    refine ⟨.ref s1.heap.objs.size, upd H1 s1.heap.objs.size (.lst (rgV3 a c n)), I1.laid hk (Nat.le_refl _) (show ObjOk X.prog X.w _ _ _ (.lst (rgV3 a c n)) from ⟨?_, acc.toList, c', vals_rg3 hi, ?_⟩), rfl, q _ (I1.hok.fresh (Nat.le_refl _))⟩
    · unfold rgV3; rw [List.length_map, List.length_range, sizeLine_eq]; omega
    · rw [Array.toArray_toList]; exact e'
  | true =>
    refine Call_ (ld_blt I hg hm boot_tuple (PyProof.Rows.callWith_type1 (args_cons (thn (he pins s σ H _ I h) fun x s1 ⟨r, a, b, c, t, u, v, H1, ex, hr, I1, q⟩ => args_nil ?_) na) na))
    subst ex
    obtain ⟨n, ⟨c0, c1, c2, c3⟩, b5, q⟩ := q
    refine call_tuple_range (n := n) (I1.ok.hd hc) hr c2 c3 b5 fun h' tk acc hk hi => ?_
    have I2 : Inv X pins σ H1 { s1 with heap := h', toks := tk } := I1.kept hk
    refine ⟨.ref h'.objs.size, upd H1 h'.objs.size (.tup (rgV3 a c n)), I2.laid (t' := tk) (fun c o e => Heap.get?_push_of_some _ e) (Nat.le_refl _) (show ObjOk X.prog X.w _ _ _ (.tup (rgV3 a c n)) from ⟨?_, acc.toList, vals_rg3 hi, ?_⟩), rfl, q _ (I2.hok.fresh (Nat.le_refl _))⟩
    · unfold rgV3; rw [List.length_map, List.length_range, sizeLine_eq]; omega
    · rw [Array.toArray_toList]; exact IsTup.new _ _
theorem stepN_le {i j c : Int} (hm : j - i ≤ 1000000) (hc : 0 < c) : stepN i j c ≤ 2 ^ 24 := by
  unfold stepN
  split
  · rename_i hlt
    have q1 : 0 ≤ (j - i - 1) / c := Int.ediv_nonneg (by omega) (by omega)
    have q2 : (j - i - 1) / c ≤ j - i - 1 := Int.ediv_le_self _ (by omega)
    omega
  · exact Nat.zero_le _
theorem e_rng3 {exs : List S → Env → Res (Fl × Env)} (hX : At nm T cA fA n W X) (t : Bool) {x y z : E} {b c d : Expr} {f g : Str} {p0 p1 p2 pos : Pos} (hf : f = if t then ("tuple" : Str) else ("list" : Str)) (h : Gl X f ∧ f ∈ nm.bl) (hg : g = "range") (h2 : Gl X g ∧ g ∈ nm.bl) (hs : noStar b = true) (hs2 : noStar c = true) (hs3 : noStar d = true) (hb : PE X b (TO X cA W (ev x))) (hc : PE X c (TO X cA W (ev y))) (hd : PE X d (TO X cA W (ev z))) :
    PE X (.Call (.Name f p0) [.Call (.Name g p1) [b, c, d] [] p2] [] pos) (TO X cA W (stepE T ev exs (.rng3 t x y z))) := by
  subst hg
  refine (pe_rg3 t hf hX.calm h.1 (hX.blt _ h.2) (prg_3 h2.1 (hX.blt _ h2.2) (pa_cons hb.toD (pa_cons hc.toD (pa_cons hd.toD pa_nil (star1 hs3 _ _)) (star1 hs2 _ _)) (star1 hs _ _)) (star1 hs _ _) (by rw [star1 hs2, star1 hs3]; rfl))).mono fun σ H Q h => ?_
  refine TG.bind (rep := rD X.K) (r := evD ev x) (k := fun d env => (evD ev y env).bind fun q => (evD ev z q.2).bind fun r => match d, q.1, r.1 with | .int i, .int j, .int k => if okRange i && okRange j && decide (0 < k) && decide (k ≤ most) && decide (j - i ≤ most) then .ok (if t then O.val (.tuple (rangeS i j k)) else O.lst ((rangeS i j k).map .val), r.2) else .stuck | _, _, _ => .stuck) h fun d1 env1 v F1 H1 Af1 C s1 r1 nd un q => ?_
  refine PG.tg s1 (PG.bind (rep := rD X.K) (k := fun e env => (evD ev z env).bind fun r => match d1, e, r.1 with | .int i, .int j, .int k => if okRange i && okRange j && decide (0 < k) && decide (k ≤ most) && decide (j - i ≤ most) then .ok (if t then O.val (.tuple (rangeS i j k)) else O.lst ((rangeS i j k).map .val), r.2) else .stuck | _, _, _ => .stuck) q fun d2 env2 w F2 H2 Af2 C2 _ s2 t2 r2 nd2 un2 q2 => ?_)
  refine PG.tg s2 (PG.bind (rep := rD X.K) (k := fun e env => match d1, d2, e with | .int i, .int j, .int k => if okRange i && okRange j && decide (0 < k) && decide (k ≤ most) && decide (j - i ≤ most) then .ok (if t then O.val (.tuple (rangeS i j k)) else .lst ((rangeS i j k).map .val), env) else .stuck | _, _, _ => .stuck) q2 fun d3 env3 u F3 H3 Af3 C3 _ s3 t3 r3 nd3 un3 q3 => ?_)
  cases d1 with
  | int i =>
    cases d2 with
    | int j =>
      cases d3 with
      | int c =>
        cases r1.2.int_inv
        cases r2.2.int_inv
        cases r3.2.int_inv
        have q3 : PG X.K cA W (rO X.K) σ F3 H3 Af3 (if okRange i && okRange j && decide (0 < c) && decide (c ≤ most) && decide (j - i ≤ most) then .ok (if t then O.val (.tuple (rangeS i j c)) else .lst ((rangeS i j c).map .val), env3) else .stuck) Q := q3
        split at q3
        · rename_i hj
          simp only [Bool.and_eq_true, decide_eq_true_eq] at hj
          have h1 := okRange_spec hj.1.1.1.1
          have h2 := okRange_spec hj.1.1.1.2
          have hm : c ≤ 1000000 := hj.1.2
          refine ⟨i, j, c, rfl, ⟨by have := hj.1.1.2; omega, by have := hj.1.1.2; omega⟩, stepN i j c, stepN_small h1.1 h1.2 h2.1 h2.2 hj.1.1.2 hj.1.2, stepN_le hj.2 hj.1.1.2, fun p hp => ?_⟩
          cases t with
          | true => exact PG.newT q3 s3 (rep_rangeS i j c) hp
          | false => exact PG.newL q3 s3 (rep_rangeS i j c) hp
        · exact q3.elim
      | _ => exact q3.elim
    | _ => exact q3.elim
  | _ => exact q3.elim
/-! tuple(range(a)) -/
theorem okb' {α β : Type} (a : α) (f : α → Res β) : (Res.ok a).bind f = f a := rfl
theorem prg_1t {a : Expr} {te : TE} {p pos : Pos} (hg : Gl X "range") (hm : X.mg "range" = none) (ha : PE X a te) (na : starEach [a] X.env = (false, eval a X.env) :: starEach [] X.env) :
    PRg3 X (.Call (.Name "range" p) [a] [] pos) (fun σ H Q => te σ H fun v H1 => ∃ n, v = .int n ∧ Q 0 n 1 H1) := by
  intro pins s σ H Q I h
  refine Call_ (ld_blt I hg hm boot_range (PyProof.Rows.callWith_type1 (one_arg ha I h (fun v s2 x H2 I2 r q => ?_) na) na))
  obtain ⟨n, rfl, q⟩ := q
  obtain ⟨t, rfl⟩ := r
  exact call_range_1 ⟨_, 0, n, 1, _, _, _, H2, rfl, IsRange.new .., I2.kept fun b u e => Heap.get?_push_of_some _ e, q⟩
theorem e_rngT {exs : List S → Env → Res (Fl × Env)} (hX : At nm T cA fA n W X) (hev : ∀ i env, ev (.int i) env = .ok (.val (.int i), env) ∨ ev (.int i) env = .stuck) {y : E} {c : Expr} {f g : Str} {p0 p1 p2 pos : Pos} (hf : f = ("tuple" : Str)) (h : Gl X f ∧ f ∈ nm.bl) (hg : g = "range") (h2 : Gl X g ∧ g ∈ nm.bl) (hs2 : noStar c = true) (hc : PE X c (TO X cA W (ev y))) :
    PE X (.Call (.Name f p0) [.Call (.Name g p1) [c] [] p2] [] pos) (TO X cA W (stepE T ev exs (.rng3 true (.int 0) y (.int 1)))) := by
  subst hg
  refine (pe_rg3 true hf hX.calm h.1 (hX.blt _ h.2) (prg_1t h2.1 (hX.blt _ h2.2) hc.toD (star1 hs2 _ _))).mono fun σ H Q h => ?_
  obtain ⟨F, Af, env, s, p⟩ := h
  rw [stepE_rng3] at p
  have e0 : ∀ i env, evD ev (.int i) env = .ok (.int i, env) ∨ evD ev (.int i) env = .stuck := fun i env => by
    unfold evD
    rcases hev i env with e | e <;> rw [e]
    · exact .inl rfl
    · exact .inr rfl
  rcases e0 0 env with e | e
  rotate_left
  · rw [e] at p; exact p.elim
  rw [e, okb'] at p
  refine PG.tg s (PG.bind (rep := rD X.K) (k := fun d env => (evD ev (.int 1) env).bind fun r => match PyData.int 0, d, r.1 with | .int i, .int j, .int k => if okRange i && okRange j && decide (0 < k) && decide (k ≤ most) && decide (j - i ≤ most) then .ok (if true then O.val (.tuple (rangeS i j k)) else O.lst ((rangeS i j k).map .val), r.2) else .stuck | _, _, _ => .stuck) p fun d2 env2 w F2 H2 Af2 C2 _ s2 t2 r2 nd2 un2 q2 => ?_)
  rcases e0 1 env2 with e | e
  rotate_left
  · rw [e] at q2; exact q2.elim
  rw [e, okb'] at q2
  cases d2 with
  | int j =>
    cases r2.2.int_inv
    have q2 : PG X.K cA W (rO X.K) σ F2 H2 Af2 (if okRange 0 && okRange j && decide ((0 : Int) < 1) && decide ((1 : Int) ≤ most) && decide (j - 0 ≤ most) then .ok (O.val (.tuple (rangeS 0 j 1)), env2) else .stuck) Q := q2
    split at q2
    · rename_i hj
      simp only [Bool.and_eq_true, decide_eq_true_eq] at hj
      have h1 := okRange_spec hj.1.1.1.1
      have h2 := okRange_spec hj.1.1.1.2
      refine ⟨j, rfl, stepN 0 j 1, stepN_small h1.1 h1.2 h2.1 h2.2 (by decide) (by decide), stepN_le hj.2 (by decide), fun p hp => ?_⟩
      exact PG.newT q2 s2 (rep_rangeS 0 j 1) hp
    · exact q2.elim
  | _ => exact q2.elim
/-! targets -/
mutual
theorem g_tgt (hN : X.N.Nodup) (hc : X.calm = true) {sc : Scope} (hcel : ∀ x, locB sc x = true → Loc X.env.scope x ∧ (X.fn x = true ∨ X.env.scope.names.lookup x = some .local)) : ∀ (t : Tgt) {a : Expr}, chkT X.N sc t a = true → L2.PG X a (gT X.K t)
  | .nm i, a, h => by
    cases a with
    | Name x p =>
      have h : isLc X.N sc i x = true := h
      unfold isLc at h
      rw [Bool.and_eq_true, decide_eq_true_eq] at h
      have hl := hcel x h.1
      exact pg_name hN h.2 hl.1 hl.2
    | _ => cases h
  | .tup ts, a, h => by
    cases a with
    | Tuple as k p =>
      have h : chkTs X.N sc ts as = true := h
      obtain ⟨h1, h2, h3⟩ := g_tgts hN hc hcel ts h
      exact pg_tl hc h1 h2 h3
    | _ => cases h
theorem g_tgts (hN : X.N.Nodup) (hc : X.calm = true) {sc : Scope} (hcel : ∀ x, locB sc x = true → Loc X.env.scope x ∧ (X.fn x = true ∨ X.env.scope.names.lookup x = some .local)) : ∀ (ts : List Tgt) {as : List Expr}, chkTs X.N sc ts as = true → PGs X as (gTs X.K ts) ∧ (assignEach as X.env).length = ts.length ∧ (assignEach as X.env).findIdx? (·.1) = none
  | [], [], _ => ⟨pgs_nil, rfl, rfl⟩
  | [], _ :: _, h => by cases h
  | _ :: _, [], h => by cases h
  | t :: ts, a :: as, h => by
    have h : (chkT X.N sc t a && chkTs X.N sc ts as) = true := h
    rw [Bool.and_eq_true] at h
    obtain ⟨h1, h2, h3⟩ := g_tgts hN hc hcel ts h.2
    have hs : assignEach (a :: as) X.env = (false, assign a X.env) :: assignEach as X.env := by
      cases t with
      | nm i => cases a with
        | Name x p => rfl
        | _ => cases h.1
      | tup us => cases a with
        | Tuple bs k p => rfl
        | _ => cases h.1
    refine ⟨pgs_cons (g_tgt hN hc hcel t h.1) h1 (by rw [hs]; rfl), by rw [hs, List.length_cons, List.length_cons, h2], ?_⟩
    rw [hs, List.findIdx?_cons]
    show Option.map _ _ = none
    rw [h3]; rfl
end
end
end Ev

end
section
set_option autoImplicit false
set_option linter.all false
set_option maxRecDepth 100000
/-! List comprehensions: the rule. -/
namespace Ev
open PySem L2 PyProof.Rows RZ

section
variable {K : PySem.W.Frag} {F F' H H' : Hp} {σ : L2.St} {env env' : Env} {Af Af' : Nat → List Addr}
theorem wipe_get (σ : L2.St) (j : Nat) : ∀ vs : List Nat, (j ∉ vs → (L2.wipe σ vs)[j]? = σ[j]?) ∧ (j ∈ vs → ∀ u, (L2.wipe σ vs)[j]? ≠ some (some u))
  | [] => ⟨fun _ => rfl, fun h => nomatch h⟩
  | v :: vs => by
    obtain ⟨h1, h2⟩ := wipe_get σ j vs
    refine ⟨fun h => ?_, fun h u e => ?_⟩
    · rw [List.mem_cons, not_or] at h
      show ((L2.wipe σ vs).set v none)[j]? = _
      rw [List.getElem?_set_ne (Ne.symm h.1)]; exact h1 h.2
    · rcases getElem_set e with ⟨_, _, q⟩ | ⟨hj, q⟩
      · cases q
      · rcases List.mem_cons.mp h with h | h
        · exact hj h
        · exact h2 h u q
theorem wipeE_get (env : Env) (j : Nat) : ∀ vs : List Nat, (j ∉ vs → (wipeE env vs)[j]? = env[j]?) ∧ (j ∈ vs → ∀ u, (wipeE env vs)[j]? ≠ some (some u))
  | [] => ⟨fun _ => rfl, fun h => nomatch h⟩
  | v :: vs => by
    obtain ⟨h1, h2⟩ := wipeE_get env j vs
    refine ⟨fun h => ?_, fun h u e => ?_⟩
    · rw [List.mem_cons, not_or] at h
      show ((wipeE env vs).set v none)[j]? = _
      rw [List.getElem?_set_ne (Ne.symm h.1)]; exact h1 h.2
    · rcases getElem_set e with ⟨_, _, q⟩ | ⟨hj, q⟩
      · cases q
      · rcases List.mem_cons.mp h with h | h
        · exact hj h
        · exact h2 h u q
theorem wipeE_length (env : Env) : ∀ vs : List Nat, (wipeE env vs).length = env.length
  | [] => rfl
  | v :: vs => by show ((wipeE env vs).set v none).length = _; rw [List.length_set, wipeE_length env vs]
theorem SR.wipe (s : SR K F H σ env Af) (vs : List Nat) : SR K F H (L2.wipe σ vs) (wipeE env vs) Af :=
  ⟨s.ex, by rw [wipe_length, wipeE_length]; exact s.len, fun i o e => by
    by_cases h : i ∈ vs
    · exact absurd e ((wipeE_get env i vs).2 h o)
    · rw [(wipeE_get env i vs).1 h] at e
      rw [(wipe_get σ i vs).1 h]
      exact s.at_ i o e, s.nd, s.dj, s.un, s.th⟩
theorem backE_length (env0 env : Env) : ∀ vs : List Nat, (backE env0 env vs).length = env.length
  | [] => rfl
  | v :: vs => by show ((backE env0 env vs).set v _).length = _; rw [List.length_set, backE_length env0 env vs]
theorem backE_get (env0 env : Env) (j : Nat) : ∀ vs : List Nat, (j ∉ vs → (backE env0 env vs)[j]? = env[j]?) ∧ (j ∈ vs → ∀ u, (backE env0 env vs)[j]? = some (some u) → env0[j]? = some (some u))
  | [] => ⟨fun _ => rfl, fun h => nomatch h⟩
  | v :: vs => by
    obtain ⟨h1, h2⟩ := backE_get env0 env j vs
    refine ⟨fun h => ?_, fun h u e => ?_⟩
    · rw [List.mem_cons, not_or] at h
      show ((backE env0 env vs).set v _)[j]? = _
      rw [List.getElem?_set_ne (Ne.symm h.1)]; exact h1 h.2
    · rcases getElem_set e with ⟨rfl, _, q⟩ | ⟨hj, q⟩
      · exact join_some q.symm
      · rcases List.mem_cons.mp h with h | h
        · exact absurd h hj
        · exact h2 h u q
theorem Less.clear (vs : List Nat) : Less Af (fun j => if j ∈ vs then [] else Af j) := fun j => by
  show (if j ∈ vs then [] else Af j) = _ ∨ (if j ∈ vs then [] else Af j) = _
  split
  · exact .inr rfl
  · exact .inl rfl
theorem SR.back {F1 H1 : Hp} {env1 : Env} {Af1 : Nat → List Addr} {vs : List Nat} (s : SR K F H (L2.wipe σ vs) (wipeE env vs) Af) (s1 : SR K F1 H1 σ env1 Af1) (e : Ex F1 F) (pl : vs.all (plainAt env1) = true) :
    SR K F H σ (backE env1 env vs) (fun j => if j ∈ vs then [] else Af j) := by
  have hl : σ.length = env.length := by rw [← wipe_length σ vs, s.len, wipeE_length]
  refine ⟨s.ex, by rw [backE_length]; exact hl, fun j o q => ?_, fun j => ?_, fun j k a h1 h2 => ?_, fun j a h1 => ?_, fun j a h1 => ?_⟩
  · by_cases h : j ∈ vs
    · have q1 := (backE_get env1 env j vs).2 h o q
      obtain ⟨v, h1, h2⟩ := s1.at_ j o q1
      refine ⟨v, h1, ?_⟩
      rw [if_pos h]
      have := List.all_eq_true.mp pl j h
      unfold plainAt at this
      rw [q1] at this
      cases o with
      | val d => exact .val (h2.val_inv.1.mono e)
      | _ => cases this
    · rw [(backE_get env1 env j vs).1 h] at q
      rw [if_neg h]
      obtain ⟨v, h1, h2⟩ := s.at_ j o (by rw [(wipeE_get env j vs).1 h]; exact q)
      rw [(wipe_get σ j vs).1 h] at h1
      exact ⟨v, h1, h2⟩
  · show (if j ∈ vs then [] else Af j).Nodup
    split
    · exact .nil
    · exact s.nd j
  · have h1 : a ∈ (if j ∈ vs then [] else Af j) := h1
    have h2 : a ∈ (if k ∈ vs then [] else Af k) := h2
    split at h1 <;> split at h2
    · cases h1
    · cases h1
    · cases h2
    · exact s.dj _ _ a h1 h2
  · have h1 : a ∈ (if j ∈ vs then [] else Af j) := h1
    split at h1
    · cases h1
    · exact s.un j a h1
  · have h1 : a ∈ (if j ∈ vs then [] else Af j) := h1
    split at h1
    · cases h1
    · exact s.th j a h1
/-- a thing that nobody knows -/
structure Apart (F H : Hp) (Af : Nat → List Addr) (d : Addr) (o : HO) : Prop where
  f : F d = none
  a : ¬ Own Af d
  h : H d = some o
theorem Apart.step {d : Addr} {o : HO} {C : List Addr} (p : Apart F H Af d o) (t : Stp F H Af F' H' Af' C) : Apart F' H' Af' d o :=
  ⟨Classical.byContradiction fun n => (by
    rcases t.prF d n with q | q | q
    · exact q p.f
    · rw [p.h] at q; cases q
    · exact p.a q), fun q => (by
    rcases t.prA d q with q | q
    · exact p.a q
    · rw [p.h] at q; cases q), t.frame d o p.h p.a⟩
theorem SR.other (s : SR K F H σ env Af) {d : Addr} (hf : F d = none) (ha : ¬ Own Af d) (o : HO) : SR K F (upd H d o) σ env Af :=
  ⟨fun a u e => by rw [upd_ne (fun z => by subst z; rw [hf] at e; cases e)]; exact s.ex a u e, s.len, fun i u e => by
    obtain ⟨v, h1, h2⟩ := s.at_ i u e
    exact ⟨v, h1, h2.mono (Ex.refl _) fun a h => upd_ne fun z => ha ⟨i, z ▸ h⟩⟩, s.nd, s.dj, s.un, fun i a h => by rw [upd_ne (fun z : a = d => ha ⟨i, by rw [← z]; exact h⟩)]; exact s.th i a h⟩
theorem Stp.patch {C : List Addr} (t : Stp F H Af F' H' Af' C) {d : Addr} (hd : H d = none) (o : HO) : Stp F H Af F' (upd H' d o) Af' C :=
  ⟨t.ex, fun a u e n => by rw [upd_ne (fun z => by subst z; rw [hd] at e; cases e)]; exact t.frame a u e n, fun a h => by
    unfold upd; split
    · exact fun z => nomatch z
    · exact t.dom a h, t.prF, t.prA, t.prC⟩
end
theorem wipe_set (σ : L2.St) {i : Nat} (v : Option V) : ∀ {vs : List Nat}, i ∈ vs → L2.wipe (σ.set i v) vs = L2.wipe σ vs
  | [], h => nomatch h
  | w :: vs, h => by
    show (L2.wipe (σ.set i v) vs).set w none = (L2.wipe σ vs).set w none
    by_cases hi : i ∈ vs
    · rw [wipe_set σ v hi]
    · have e : i = w := by
        rcases List.mem_cons.mp h with e | e
        · exact e
        · exact absurd e hi
      subst e
      apply List.ext_getElem?
      intro j
      by_cases hj : i = j
      · subst hj
        rw [List.getElem?_set_self', List.getElem?_set_self', (wipe_get _ i vs).1 hi, (wipe_get _ i vs).1 hi, List.getElem?_set_self']
        cases σ[i]? <;> rfl
      · rw [List.getElem?_set_ne hj, List.getElem?_set_ne hj]
        by_cases hjv : j ∈ vs
        · -- both forgotten
          have key : ∀ (σ : L2.St) (vs : List Nat), j ∈ vs → (L2.wipe σ vs)[j]? = (σ[j]?).map fun _ => none := by
            intro σ vs
            induction vs with
            | nil => intro h; cases h
            | cons a r ih =>
              intro h
              show ((L2.wipe σ r).set a none)[j]? = _
              by_cases ha : a = j
              · subst ha
                rw [List.getElem?_set_self']
                by_cases hr : a ∈ r
                · rw [ih hr]; cases σ[a]? <;> rfl
                · rw [(wipe_get σ a r).1 hr]; cases σ[a]? <;> rfl
              · rw [List.getElem?_set_ne ha]
                rcases List.mem_cons.mp h with e | e
                · exact absurd e.symm ha
                · exact ih e
          rw [key _ _ hjv, key _ _ hjv, List.getElem?_set_ne hj]
        · rw [(wipe_get _ j vs).1 hjv, (wipe_get _ j vs).1 hjv, List.getElem?_set_ne hj]
theorem wipe_same {σ σ' : L2.St} {vs is : List Nat} (h : Same is σ σ') (hs : ∀ i ∈ is, i ∈ vs) : L2.wipe σ' vs = L2.wipe σ vs := by
  have key : ∀ (σ : L2.St) (vs : List Nat) (j : Nat), j ∈ vs → (L2.wipe σ vs)[j]? = (σ[j]?).map fun _ => none := by
    intro σ vs j
    induction vs with
    | nil => intro h; cases h
    | cons a r ih =>
      intro h
      show ((L2.wipe σ r).set a none)[j]? = _
      by_cases ha : a = j
      · subst ha
        rw [List.getElem?_set_self']
        by_cases hr : a ∈ r
        · rw [ih hr]; cases σ[a]? <;> rfl
        · rw [(wipe_get σ a r).1 hr]; cases σ[a]? <;> rfl
      · rw [List.getElem?_set_ne ha]
        rcases List.mem_cons.mp h with e | e
        · exact absurd e.symm ha
        · exact ih e
  apply List.ext_getElem?
  intro j
  by_cases hj : j ∈ vs
  · rw [key _ _ _ hj, key _ _ _ hj]
    rcases Nat.lt_or_ge j σ.length with hl | hl
    · rw [List.getElem?_eq_getElem hl, List.getElem?_eq_getElem (by rw [h.1]; exact hl)]; rfl
    · rw [List.getElem?_eq_none hl, List.getElem?_eq_none (by rw [h.1]; exact hl)]
  · rw [(wipe_get _ j vs).1 hj, (wipe_get _ j vs).1 hj]
    exact h.2 j fun z => hj (hs j z)
def WF : WX := fun _ _ _ _ => False
/-- how far a comprehension has come -/
structure CI (K : PySem.W.Frag) (ev : E → Env → Res (O × Env)) (elt : E) (t : Tgt) (c : Option E) (σ : L2.St) (F1 H1 : Hp) (Af1 : Nat → List Addr) (env1 : Env) (ds : List D) (total : List O) (envE : Env) (d : Addr) (i : Nat) (H : Hp) : Prop where
  w : ∃ (F : Hp) (Af : Nat → List Addr) (env : Env) (acc : List V) (as : List D) (rest : List O), SR K F H (L2.wipe σ (tslots t)) (wipeE env (tslots t)) Af ∧ Stp F1 H1 Af1 F H Af [] ∧ Apart F H Af d (.lst acc) ∧ RepAll K F acc as ∧ acc.length ≤ i ∧
    turns ev elt t c (tslots t) (ds.drop i) env = .ok (rest, envE) ∧ total = as.map .val ++ rest
section
variable {nm : Names} {T : Tab} {cA fA : Nat → Addr} {n : Nat} {W : WX} {X : Cx} {ev : E → Env → Res (O × Env)} {exs : List S → Env → Res (Fl × Env)}
/-- a comprehension's test -/
def tIf1 (X : Cx) (cA : Nat → Addr) (ev : E → Env → Res (O × Env)) : Option E → L2.TT
  | none => tYes
  | some c => TT' X cA WF (truthE ev c)
theorem t_lc {elt : E} {t : Tgt} {it : I} {c : Option E} {σ : L2.St} {H : Hp} {Q : VK} (h : TO X cA W (stepE T ev exs (.comp elt t it c)) σ H Q) :
    tLc (TIt X cA W (items ev it)) (gT X.K t) (tIf1 X cA ev c) (TD X cA WF (evD ev elt)) (tslots t) σ H Q := by
  refine TG.bind (rep := rIt X.K) (r := items ev it) (k := fun ds env => if ds.length ≤ most ∧ (tslots t).all (plainAt env) = true then
      (noErr (turns ev elt t c (tslots t) ds env)).bind fun q => .ok (O.lst q.1, backE env q.2 (tslots t)) else .stuck) h fun ds env1 J F1 H1 Af1 C s1 r1 nd un q => ?_
  split at q
  case isFalse => exact q.elim
  rename_i hz
  obtain ⟨hz, hpl⟩ := hz
  cases hT : turns ev elt t c (tslots t) ds env1 with
  | stuck => rw [hT] at q; exact q.elim
  | err k => rw [hT] at q; exact q.elim
  | ok z =>
  obtain ⟨total, envE⟩ := z
  rw [hT] at q
  have q : PG X.K cA W (rO X.K) σ F1 H1 Af1 (.ok (O.lst total, backE env1 envE (tslots t))) Q := q
  intro d hd
  have hd1 : ¬ Own Af1 d ∧ F1 d = none := fresh_own s1 hd
  refine ⟨fun i m H => m = ds.length - i ∧ i ≤ ds.length ∧ CI X.K ev elt t c σ F1 H1 Af1 env1 ds total envE d i H, ⟨ds.length, by simp, Nat.zero_le _, ⟨F1, Af1, env1, [], [], total, ?_, ?_, ?_, .nil, Nat.le_refl _, hT, rfl⟩⟩, ?_⟩
  · exact (s1.other hd1.2 hd1.1 _).wipe _
  · exact Stp.refl.patch hd _
  · exact ⟨hd1.2, hd1.1, upd_same⟩
  rintro i m H ⟨rfl, hi, ⟨F, Af, env, acc, as, rest, s, tt, ap, ra, hl, hr, ht⟩⟩
  have eF : Ex F1 F := tt.ex
  by_cases hlt : i < ds.length
  · refine .inr ⟨r1.2.go i F H eF s.ex hlt, CI X.K ev elt t c σ F1 H1 Af1 env1 ds total envE d (i + 1), fun H' w => ⟨ds.length - (i + 1), by omega, rfl, hlt, w⟩, fun x H' y => ?_⟩
    have hdrop : ds.drop i = ds[i] :: ds.drop (i + 1) := List.drop_eq_getElem_cons hlt
    obtain ⟨F', g, rx⟩ := r1.2.yld i F H x H' ds[i] eF s.ex (List.getElem?_eq_getElem hlt) y
    have s2 := s.grow g
    have t2 : Stp F1 H1 Af1 F' H' Af [] := tt.trans (Stp.grow g)
    have ap2 := ap.step (Stp.grow (Af := Af) g)
    have ra2 := ra.mono g.f
    rw [hdrop] at hr
    have hr : (match assignT t ds[i] (wipeE env (tslots t)) with
      | none => Res.stuck
      | some env1 => (match c with
          | none => Res.ok (true, env1)
          | some c => truthE ev c env1).bind fun p =>
        if p.1 then (evD ev elt p.2).bind fun q => (turns ev elt t c (tslots t) (ds.drop (i + 1)) q.2).bind fun r => .ok (O.val q.1 :: r.1, r.2)
        else turns ev elt t c (tslots t) (ds.drop (i + 1)) p.2) = .ok (rest, envE) := hr
    cases ha : assignT t ds[i] (wipeE env (tslots t)) with
    | none => rw [ha] at hr; cases hr
    | some env2 =>
    rw [ha] at hr
    refine gT_ok t ha s2 rx fun σ2 Af2 s3 l3 m3 => ⟨wipe_same m3 (fun i h => h) |>.trans ?_, ?_⟩
    · -- wiped twice
      exact wipe_same (is := tslots t) ⟨wipe_length _ _, fun j hj => (wipe_get σ j _).1 hj⟩ fun i h => h
    have t3 : Stp F1 H1 Af1 F' H' Af2 [] := t2.trans (Stp.less l3)
    have ap3 := ap2.step (Stp.less (F := F') (H := H') l3)
    have hw3 : L2.wipe σ2 (tslots t) = L2.wipe σ (tslots t) := (wipe_same m3 (fun i h => h)).trans (wipe_same (is := tslots t) ⟨wipe_length _ _, fun j hj => (wipe_get σ j _).1 hj⟩ fun i h => h)
    -- behind the test
    have key : ∀ (b : Bool) (env3 : Env) (F4 H4 : Hp) (Af4 : Nat → List Addr), (if b then (evD ev elt env3).bind fun q => (turns ev elt t c (tslots t) (ds.drop (i + 1)) q.2).bind fun r => .ok (O.val q.1 :: r.1, r.2)
        else turns ev elt t c (tslots t) (ds.drop (i + 1)) env3) = .ok (rest, envE) → SR X.K F4 H4 σ2 env3 Af4 → Stp F' H' Af2 F4 H4 Af4 [] →
        (if b = true then TD X cA WF (evD ev elt) σ2 H4 (fun y H5 => ∃ acc, H5 d = some (.lst acc) ∧ acc.length < sizeLine ∧ CI X.K ev elt t c σ F1 H1 Af1 env1 ds total envE d (i + 1) (upd H5 d (.lst (acc ++ [y]))))
          else CI X.K ev elt t c σ F1 H1 Af1 env1 ds total envE d (i + 1) H4) := by
      intro b env3 F4 H4 Af4 hr s4 t4
      have t14 := t3.trans t4
      have ap4 := ap3.step t4
      cases b with
      | false =>
        refine ⟨F4, Af4, env3, acc, as, rest, ?_, t14, ap4, ra2.mono t4.ex, Nat.le_succ_of_le hl, hr, ht⟩
        rw [← hw3]; exact s4.wipe _
      | true =>
        simp only [if_true] at hr ⊢
        cases he : evD ev elt env3 with
        | stuck => rw [he] at hr; cases hr
        | err k => rw [he] at hr; cases hr
        | ok z =>
        obtain ⟨v, env4⟩ := z
        rw [he] at hr
        have hr : ((turns ev elt t c (tslots t) (ds.drop (i + 1)) env4).bind fun r => .ok (O.val v :: r.1, r.2)) = .ok (rest, envE) := hr
        refine ⟨F4, Af4, env3, s4, ?_⟩
        rw [he]
        intro y F5 H5 Af5 C5 s5 t5 r5 nd5 un5
        obtain ⟨rfl, r5⟩ := r5
        have ap5 := ap4.step t5
        refine ⟨acc, ap5.h, ?_, ?_⟩
        · have := hz
          have h9 := most_line
          have : most < sizeLine := by decide
          omega
        · obtain ⟨r, hr1, hr2⟩ := Res.bind_ok hr
          cases hr2
          refine ⟨F5, Af5, env4, acc ++ [y], as ++ [v], r.1, ?_, (t14.trans t5).patch hd _, ⟨ap5.f, ap5.a, upd_same⟩, (ra2.mono (t4.ex.trans t5.ex)).append (.cons r5 .nil), by rw [List.length_append, List.length_singleton]; omega, hr1, ?_⟩
          · rw [← hw3]; exact (s5.other ap5.f ap5.a _).wipe _
          · rw [ht, List.map_append, List.append_assoc]; rfl
    cases c with
    | none => exact key true env2 F' H' Af2 hr s3 Stp.refl
    | some c =>
      obtain ⟨⟨b, env3⟩, h1, h2⟩ := Res.bind_ok hr
      have h1 : truthE ev c env2 = .ok (b, env3) := h1
      refine ⟨F', Af2, env2, s3, ?_⟩
      rw [h1]
      intro b' F4 H4 Af4 C4 s4 t4 r4 nd4 un4
      obtain ⟨rfl, rfl⟩ := r4
      exact key b' env3 F4 H4 Af4 h2 s4 t4
  · have e : i = ds.length := by omega
    subst e
    rw [List.drop_length] at hr
    cases hr
    refine .inl ⟨r1.2.stop F H eF s.ex, ?_⟩
    have sb := s.back s1 eF hpl
    refine q (.ref d) F H _ [d] sb ?_ ?_ (by simp) fun x hx => ?_
    · have tl := tt.trans (Stp.less (F := F) (H := H) (Less.clear (Af := Af) (tslots t)))
      exact ⟨tl.ex, tl.frame, tl.dom, tl.prF, tl.prA, fun a ha => by
        have : a = d := by simpa using ha
        subst this; exact .inr hd⟩
    · rw [ht, List.append_nil]
      exact .lst ap.h (ROs.vals ra)
    · have : x = d := by simpa using hx
      subst this
      exact ⟨ap.f, fun h => ap.a ((Less.clear (Af := Af) (tslots t)).own h)⟩
end
end Ev

end
section
set_option autoImplicit false
set_option linter.all false
set_option maxRecDepth 100000
set_option maxHeartbeats 4000000
/-! set(a list, a tuple of ints), sorted. -/
namespace Ev
open PySem PySem.Spec PyProof.Rows L2
theorem keyB {x : Int} {y : Str} : (Sum.inl x : Key) ≠ Sum.inr y := fun z => nomatch z
section
variable {X : Cx}
/-- set(x), x a list, a tuple of ints -/
def rSetOfL (K : PySem.W.Frag) (w : World) : List V → Hp → VK → Prop := fun xs H Q => ∃ (a : Addr) (ns : List Int), xs = [V.ref a] ∧ (SqL K H a (ns.map V.int) ∨ SqT K H a (ns.map V.int)) ∧ ns.length < 64 ∧ ∀ (q : Addr) (c : Nat), H q = none → c ≤ ns.length → Q (.ref q) (upd H q (SetO w q (fun j => decide (j ∈ ns)) c))
theorem cr_setL (hc : X.calm = true) : CallR X (.type "set") (rSetOfL X.K X.w) := by
  intro pins s σ H xs us Q I r h
  obtain ⟨a, ns, rfl, hs, hl, q⟩ := h
  have hn : H s.heap.objs.size = none := I.hok.fresh (Nat.le_refl _)
  rw [Vals.ref1 r]
  rcases hs with hs | hs
  · obtain ⟨its, rv, pl, hz⟩ := I.list hs
    refine call_set_listI ns (I.ok.hd hc) pl.isList (ints_of_vals rv) (by unfold scanBound; omega) fun h' tk c R hcn k => ?_
    exact ⟨.ref _, upd H s.heap.objs.size (SetO X.w s.heap.objs.size (fun j => decide (j ∈ ns)) c), I.laid (t' := tk) k (Nat.le_refl _) (setO_new R), rfl, q _ c hn hcn⟩
  · obtain ⟨its, rv, pl, hz⟩ := I.tuple hs
    refine call_set_tupI ns (I.ok.hd hc) pl (ints_of_vals rv) (by unfold scanBound; omega) fun h' tk c R hcn k => ?_
    exact ⟨.ref _, upd H s.heap.objs.size (SetO X.w s.heap.objs.size (fun j => decide (j ∈ ns)) c), I.laid (t' := tk) k (Nat.le_refl _) (setO_new R), rfl, q _ c hn hcn⟩
theorem dataLe_ints : W.dataLe false PyData.int = fun a b => decide (a ≤ b) := W.dataLe_int (fun x : Int => x)
theorem alike_ints : ∀ ns : List Int, alikeB (ns.map PyData.int) = true
  | [] => rfl
  | n :: ns => by
    rw [List.map_cons]
    unfold alikeB
    rw [alike_ints ns, Bool.and_eq_true]
    refine ⟨List.all_eq_true.mpr fun d hd => ?_, by simp [W.alike, PyData.plain, isNone, PyData.depth]⟩
    obtain ⟨k, _, rfl⟩ := List.mem_map.mp hd
    simp [W.alike]
theorem sortable_ints : ∀ ns : List Int, sortable (ns.map PyData.int) = true
  | [] => rfl
  | n :: ns => by
    show ((ns.map PyData.int).all fun d => match d with | .tuple _ => false | .none => false | _ => true) = true
    refine List.all_eq_true.mpr fun d hd => ?_
    obtain ⟨k, _, rfl⟩ := List.mem_map.mp hd
    rfl
/-- sorted(d) of a dict whose keys are ints -/
theorem call_sortedK (hcalm : X.calm = true) (hu : X.A.units + 64 < cLine) : CallR X (.builtin "sorted") (fun xs H Q => ∃ (a : Addr) (kvs : List (Key × V)) (ks : List Int), xs = [.ref a] ∧ Rd H a (.dK kvs) ∧ kvs.map (·.1) = ks.map Sum.inl ∧
    ∀ (ys : List Int) (p : Addr), ys.Perm ks → ys.Pairwise (· ≤ ·) → H p = none → Q (.ref p) (upd H p (.lst (ys.map V.int)))) := by
  intro pins s σ H xs us Q I r q
  obtain ⟨a, kvs, ks, ex, hd, hks, q⟩ := q
  subst ex
  obtain ⟨u, eu, rx⟩ := vals1 r
  subst eu
  cases rx
  obtain ⟨z, lo, vs, rel, dd⟩ := dk_rd I.hok hd
  obtain ⟨ep, hat⟩ := dd.dictAt
  have hkeys : vs.map (·.1) = ks.map Sum.inl := rel.keys.symm.trans hks
  have hl : vs.length = ks.length := by simpa using congrArg List.length hkeys
  have h16 : vs.length ≤ sizeLine := by rw [← rel.length]; exact z
  refine Calls.call_function_entry PyProof.Rows.kind_sorted PyProof.Rows.plain_sorted PyProof.Rows.entry_sorted (PyProof.Rows.args_sorted1 _) ?_
  unfold Builtin.«sorted»
  refine wpAny_bind (m := checkCount "sorted" 1 1 _) (wpAny_pure ?_)
  refine wpAny_bind (PySem.W.kdu_collect (A := X.A.in1) (PySem.W.kdl_dict (knd := mixKind X.prog X.w) (kvs := vs) (ep := ep) lo) (I.ok.hd hcalm) hat h16 fun h' tk acc hk hacc => ?_)
  have hal : acc.toList.length = ks.length := by rw [Array.length_toList, hacc.1, hl]
  have hS : IntsAre acc.toList ks := ints_each hal fun j v e => by
    obtain ⟨k, x, e1, e2⟩ := hacc.2 j v (by rw [← Array.getElem?_toList]; exact e)
    have e3 : (vs.map (·.1))[j]? = some k := by rw [List.getElem?_map, e1]; rfl
    rw [hkeys, List.getElem?_map] at e3
    cases e4 : ks[j]? with
    | none => rw [e4] at e3; cases e3
    | some y =>
      rw [e4] at e3
      have e5 : Sum.inl y = k := Option.some.inj e3
      subst e5
      rcases keyIs_shape (show keyIs (Sum.inl y) v = true from e2) with ⟨i, t, ek, ev⟩ | ⟨z, t, ek, ev⟩
      · cases ek
        exact ⟨y, t, rfl, ev⟩
      · cases ek
  have I1 : L2.Inv X pins σ H { s with heap := h', toks := tk } := I.kept hk
  refine wpAny_bind (wpAny_newList ?_ (by rw [hal, ← hl]; exact h16))
  have hoL : (h'.push (seqObj "list" acc.toList.toArray 0)).get? h'.objs.size = some (seqObj "list" acc.toList.toArray 0) := Heap.get?_push_size _ rfl
  have hE : PySem.W.EachIs (fun (v : Value) (b : Int) => ∃ t, v = .int b t) acc.toList ks := by
    have : ∀ {us : List Value} {ks : List Int}, IntsAre us ks → PySem.W.EachIs (fun (v : Value) (b : Int) => ∃ t, v = .int b t) us ks := by
      intro us ks h
      induction h with
      | nil => exact .nil
      | cons n t _ ih => exact .cons ⟨t, rfl⟩ ih
    exact this hS
  obtain ⟨g1, g2, g3⟩ := alikeB_all (alike_ints ks)
  refine wpAny_bind (wpAny_holding (wpAny_mono (PySem.W.list_sort_data (enc := PyData.int) (s := { s with heap := h'.push (seqObj "list" acc.toList.toArray 0), toks := tk }) (A := X.A.in1) hoL hE
    (hE.mono fun v b ⟨t, e⟩ => ⟨[], by subst e; constructor, by simp⟩) g1.1 (sortable_of (sortable_ints ks)) (by rw [← hl]; exact h16) (fun b hb => by
      show X.A.in1.units + 1 + (PyData.int b).depth < cLine
      simp only [PyData.depth]
      show X.A.units + 1 + 1 + 0 < cLine
      omega)
    (Q := fun v s' => v = .none ∧ ∃ out : List Value, IntsAre out (ks.mergeSort fun a b => decide (a ≤ b)) ∧ s' = { s with heap := sortedHeap (h'.push (seqObj "list" acc.toList.toArray 0)) h'.objs.size acc.toList out.toArray, toks := tk }) fun out ho eo => ⟨rfl, out, ?_, rfl⟩) (fun v s' x => ?_) fun _ _ e => e))
  · rw [dataLe_ints] at eo
    have : ∀ {us : List Value} {ks : List Int}, PySem.W.EachIs (fun (v : Value) (b : Int) => ∃ t, v = .int b t) us ks → IntsAre us ks := by
      intro us ks h
      induction h with
      | nil => exact .nil
      | cons h _ ih =>
        obtain ⟨t, rfl⟩ := h
        exact .cons _ t ih
    exact this eo
  · obtain ⟨rfl, out, ho, rfl⟩ := x
    obtain ⟨e', he'⟩ := PyProof.Rows.sortedHeap_at (vs := acc.toList) (out := out.toArray) hoL
    have gp : (ks.mergeSort fun a b => decide (a ≤ b)).Perm ks := List.mergeSort_perm _ _
    have gs : (ks.mergeSort fun a b => decide (a ≤ b)).Pairwise (· ≤ ·) := by
      have := List.pairwise_mergeSort (le := fun a b : Int => decide (a ≤ b)) (fun a b c h1 h2 => by simp at h1 h2 ⊢; omega) (fun a b => by simp; omega) ks
      exact this.imp fun h => by simpa using h
    have hlen : ((ks.mergeSort fun a b => decide (a ≤ b)).map V.int).length ≤ sizeLine := by
      rw [List.length_map, gp.length_eq, ← hl]; exact h16
    refine wpAny_pure ⟨_, rfl, .ref h'.objs.size, upd H h'.objs.size (.lst ((ks.mergeSort fun a b => decide (a ≤ b)).map V.int)), I1.laid (t' := tk) (fun b u e => ?_) (Nat.le_refl _)
      (show ObjOk X.prog X.w _ _ _ (.lst ((ks.mergeSort fun a b => decide (a ≤ b)).map V.int)) from ⟨hlen, out, e', vals_of_ints ho, he'⟩), rfl, q _ _ gp gs (I1.hok.fresh (Nat.le_refl _))⟩
    have hb : b < h'.objs.size := Heap.lt_size e
    rw [PyProof.Rows.sortedHeap_old (Nat.ne_of_lt hb) (by rw [size_push']; exact Nat.lt_succ_of_lt hb)]
    exact Heap.get?_push_of_some _ e
end
end Ev

end
section
set_option autoImplicit false
set_option linter.all false
set_option maxRecDepth 100000
/-! sorted(set(..)), sorted({k: .. for ..}) -/
namespace Ev
open PySem L2 PyProof.Rows RZ

theorem ints_mem' : ∀ {ds : List D} {ns : List Int}, ints? ds = some ns → ds = ns.map PyData.int
  | [], _, h => by cases h; rfl
  | d :: ds, ns, h => by
    cases d with
    | int i =>
      have h : (ints? ds).map (i :: ·) = some ns := h
      rw [Option.map_eq_some_iff] at h
      obtain ⟨l, h1, rfl⟩ := h
      rw [List.map_cons, ints_mem' h1]
    | _ => cases h
section
variable {nm : Names} {T : Tab} {cA fA : Nat → Addr} {n : Nat} {W : WX} {X : Cx} {ev : E → Env → Res (O × Env)} {exs : List S → Env → Res (Fl × Env)}
theorem vals_int (ns : List Int) : (ns.map fun i => O.val (.int i)) = (ns.map PyData.int).map O.val := by rw [List.map_map]; rfl
theorem e_sortedSet (hX : At nm T cA fA n W X) {x : E} {b : Expr} {f g : Str} {p0 p1 p2 pos : Pos} (hf : f = "sorted") (h : Gl X f ∧ f ∈ nm.bl) (hg : g = "set") (h2 : Gl X g ∧ g ∈ nm.bl) (hs : noStar b = true) (hb : PE X b (TO X cA W (ev x))) :
    PE X (.Call (.Name f p0) [.Call (.Name g p1) [b] [] p2] [] pos) (TO X cA W (stepE T ev exs (.op1 .sortedSet x))) := by
  subst hf hg
  refine (pe_callB (cr_sortedSet hX.calm) h.1 (hX.blt _ h.2) (by decide +kernel) (pa_cons (pe_callTy (cr_setL hX.calm) h2.1 (hX.blt _ h2.2) (by decide +kernel) (pa_cons hb.toD pa_nil (star1 hs _ _)) (by decide) (by decide) (star1 hs _ _) rfl) pa_nil rfl) (by decide) (by decide) rfl rfl).mono fun σ H Q h => ?_
  refine TG.bind (rep := rD X.K) (r := evD ev x) (k := fun d env => resO (ev1 .sortedSet d) env) h fun d env1 v F1 H1 Af1 C s1 r1 nd un q => ?_
  cases d with
  | list ds =>
    obtain ⟨a, xs, rfl, e2, e3⟩ := r1.2.lst_inv
    obtain ⟨o, eo, q⟩ := res2 q
    have eo : ((ints? ds).bind fun ns => if ns.length < 64 then some (.lst ((sortI ns).map fun i => O.val (.int i))) else none) = some o := eo
    obtain ⟨ns, hns, eo⟩ := Option.bind_eq_some_iff.mp eo
    split at eo
    · rename_i h64
      cases eo
      have exs : xs = ns.map V.int := e3.ints hns
      subst exs
      refine ⟨a, ns, rfl, .inl (SqL.of (s1.ex _ _ e2)), h64, fun p c hp hc => ⟨p, _, c, rfl, upd_same, Nat.lt_of_le_of_lt hc h64, fun ys t hy hm hl ht => ?_⟩⟩
      have ey : ys = sortI ns := sortI_eq hy fun k => (hm k).trans decide_eq_true_iff
      subst ey
      have np := fresh_own s1 hp
      have s2 := s1.other np.2 np.1 (SetO X.w p (fun j => decide (j ∈ ns)) c)
      have nt := fresh_own s2 ht
      rw [vals_int] at q
      have hpt : p ≠ t := fun z => by subst z; rw [upd_same] at ht; cases ht
      refine q (.ref t) F1 _ Af1 [t] (s2.other nt.2 nt.1 _) ?_ (.lst upd_same (ROs.vals Rep.ofInts)) (by simp) fun y hy => by
        have : y = t := by simpa using hy
        subst this; exact ⟨nt.2, nt.1⟩
      have ht1 : H1 t = none := by rw [upd_ne (Ne.symm hpt)] at ht; exact ht
      have st : Stp F1 H1 Af1 F1 (upd (upd H1 p (SetO X.w p (fun j => decide (j ∈ ns)) c)) t (.lst ((sortI ns).map V.int))) Af1 [] := (Stp.refl.patch hp _).patch ht1 _
      exact ⟨st.ex, st.frame, st.dom, st.prF, st.prA, fun y hy => by
        have : y = t := by simpa using hy
        subst this; exact .inr ht1⟩
    · cases eo
  | tuple ds =>
    obtain ⟨a, xs, rfl, e2, e3⟩ := r1.2.tup_inv
    obtain ⟨o, eo, q⟩ := res2 q
    have eo : ((ints? ds).bind fun ns => if ns.length < 64 then some (.lst ((sortI ns).map fun i => O.val (.int i))) else none) = some o := eo
    obtain ⟨ns, hns, eo⟩ := Option.bind_eq_some_iff.mp eo
    split at eo
    · rename_i h64
      cases eo
      have exs : xs = ns.map V.int := e3.ints hns
      subst exs
      refine ⟨a, ns, rfl, .inr (ex_t s1.ex e2), h64, fun p c hp hc => ⟨p, _, c, rfl, upd_same, Nat.lt_of_le_of_lt hc h64, fun ys t hy hm hl ht => ?_⟩⟩
      have ey : ys = sortI ns := sortI_eq hy fun k => (hm k).trans decide_eq_true_iff
      subst ey
      have np := fresh_own s1 hp
      have s2 := s1.other np.2 np.1 (SetO X.w p (fun j => decide (j ∈ ns)) c)
      have nt := fresh_own s2 ht
      rw [vals_int] at q
      have hpt : p ≠ t := fun z => by subst z; rw [upd_same] at ht; cases ht
      refine q (.ref t) F1 _ Af1 [t] (s2.other nt.2 nt.1 _) ?_ (.lst upd_same (ROs.vals Rep.ofInts)) (by simp) fun y hy => by
        have : y = t := by simpa using hy
        subst this; exact ⟨nt.2, nt.1⟩
      have ht1 : H1 t = none := by rw [upd_ne (Ne.symm hpt)] at ht; exact ht
      have st : Stp F1 H1 Af1 F1 (upd (upd H1 p (SetO X.w p (fun j => decide (j ∈ ns)) c)) t (.lst ((sortI ns).map V.int))) Af1 [] := (Stp.refl.patch hp _).patch ht1 _
      exact ⟨st.ex, st.frame, st.dom, st.prF, st.prA, fun y hy => by
        have : y = t := by simpa using hy
        subst this; exact .inr ht1⟩
    · cases eo
  | _ => exact q.elim

/-- how far a dict comprehension has come -/
structure CD (K : PySem.W.Frag) (ev : E → Env → Res (O × Env)) (elt : E) (t : Tgt) (c : Option E) (σ : L2.St) (F1 H1 : Hp) (Af1 : Nat → List Addr) (ds : List D) (total : List O) (envE : Env) (d : Addr) (i : Nat) (H : Hp) : Prop where
  w : ∃ (F : Hp) (Af : Nat → List Addr) (env : Env) (kvs : List (Key × V)) (ks : List Int) (as : List Int) (rest : List O), SR K F H (L2.wipe σ (tslots t)) (wipeE env (tslots t)) Af ∧ Stp F1 H1 Af1 F H Af [] ∧ Apart F H Af d (.dK kvs) ∧ kvs.map (·.1) = ks.map Sum.inl ∧ ks.Nodup ∧
    (∀ k, k ∈ ks ↔ k ∈ as) ∧ kvs.length ≤ i ∧ turns ev elt t c (tslots t) (ds.drop i) env = .ok (rest, envE) ∧ total = (as.map fun i => O.val (.int i)) ++ rest
theorem put_keys {kvs : List (Key × V)} {ks : List Int} {k : Int} {v : V} (h : kvs.map (·.1) = ks.map Sum.inl) (hn : ks.Nodup) : ∃ ks' : List Int, (putK kvs (Sum.inl k) v).map (·.1) = ks'.map Sum.inl ∧ ks'.Nodup ∧ (∀ j, j ∈ ks' ↔ j = k ∨ j ∈ ks) ∧ (putK kvs (Sum.inl k) v).length ≤ kvs.length + 1 := by
  have hm : (kvs.any fun kv => decide (kv.1 = Sum.inl k)) = true ↔ k ∈ ks := by
    rw [List.any_eq_true]
    constructor
    · rintro ⟨kv, h1, h2⟩
      have : kv.1 ∈ ks.map Sum.inl := by rw [← h]; exact List.mem_map_of_mem h1
      rw [of_decide_eq_true h2] at this
      obtain ⟨j, h3, h4⟩ := List.mem_map.mp this
      cases h4; exact h3
    · intro hk
      have : (Sum.inl k : Key) ∈ kvs.map (·.1) := by rw [h]; exact List.mem_map_of_mem hk
      obtain ⟨kv, h1, h2⟩ := List.mem_map.mp this
      exact ⟨kv, h1, decide_eq_true h2⟩
  unfold putK
  split
  · rename_i hy
    refine ⟨ks, ?_, hn, fun j => ⟨.inr, fun q => q.elim (fun e => e ▸ hm.mp hy) id⟩, by rw [List.length_map]; omega⟩
    rw [List.map_map, ← h]
    refine List.map_congr_left fun kv _ => ?_
    show (if kv.1 = Sum.inl k then (kv.1, v) else kv).1 = kv.1
    split <;> rfl
  · rename_i hy
    refine ⟨ks ++ [k], by rw [List.map_append, List.map_append, h]; rfl, ?_, fun j => by rw [List.mem_append, List.mem_singleton]; exact Or.comm, by rw [List.length_append]; exact Nat.le_refl _⟩
    refine List.nodup_append.mpr ⟨hn, by simp, fun a ha b hb e => ?_⟩
    have : b = k := by simpa using hb
    subst this; subst e
    exact hy (hm.mpr ha)
theorem t_dc {elt : E} {t : Tgt} {it : I} {c : Option E} {vb : Bool} {σ : L2.St} {H : Hp} {Q : VK} (h : TO X cA W (stepE T ev exs (.sortedKeys elt t it c)) σ H Q) :
    tDc (TIt X cA W (items ev it)) (gT X.K t) (tIf1 X cA ev c) (TD X cA WF (evD ev elt)) (tC (.bl vb)) (tslots t) σ H (fun x H => ∃ (a : Addr) (kvs : List (Key × V)) (ks : List Int), [x] = [V.ref a] ∧ Rd H a (.dK kvs) ∧ kvs.map (·.1) = ks.map Sum.inl ∧
      ∀ (ys : List Int) (p : Addr), ys.Perm ks → ys.Pairwise (· ≤ ·) → H p = none → Q (.ref p) (upd H p (.lst (ys.map V.int)))) := by
  refine TG.bind (rep := rIt X.K) (r := items ev it) (k := fun ds env => if ds.length ≤ most ∧ (tslots t).all (plainAt env) = true then
      (noErr (turns ev elt t c (tslots t) ds env)).bind fun q => match ints? (O.toDs q.1) with
        | some ns => .ok (O.lst ((sortI ns).map fun i => O.val (.int i)), backE env q.2 (tslots t))
        | none => .stuck
      else .stuck) h fun ds env1 J F1 H1 Af1 C s1 r1 nd un q => ?_
  split at q
  case isFalse => exact q.elim
  rename_i hz
  obtain ⟨hz, hpl⟩ := hz
  cases hT : turns ev elt t c (tslots t) ds env1 with
  | stuck => rw [hT] at q; exact q.elim
  | err k => rw [hT] at q; exact q.elim
  | ok z =>
  obtain ⟨total, envE⟩ := z
  rw [hT] at q
  cases hi0 : ints? (O.toDs total) with
  | none =>
    have q : PG X.K cA W (rO X.K) σ F1 H1 Af1 (match ints? (O.toDs total) with
        | some ns => .ok (O.lst ((sortI ns).map fun i => O.val (.int i)), backE env1 envE (tslots t))
        | none => .stuck) Q := q
    rw [hi0] at q; exact q.elim
  | some ns =>
  have q : PG X.K cA W (rO X.K) σ F1 H1 Af1 (match ints? (O.toDs total) with
        | some ns => .ok (O.lst ((sortI ns).map fun i => O.val (.int i)), backE env1 envE (tslots t))
        | none => .stuck) Q := q
  rw [hi0] at q
  have htot := ints_mem' hi0
  intro d hd
  have hd1 : ¬ Own Af1 d ∧ F1 d = none := fresh_own s1 hd
  refine ⟨fun i m H => m = ds.length - i ∧ i ≤ ds.length ∧ CD X.K ev elt t c σ F1 H1 Af1 ds total envE d i H, ⟨ds.length, by simp, Nat.zero_le _, ⟨F1, Af1, env1, [], [], [], total, ?_, ?_, ?_, rfl, .nil, fun _ => Iff.rfl, Nat.le_refl _, hT, rfl⟩⟩, ?_⟩
  · exact (s1.other hd1.2 hd1.1 _).wipe _
  · exact Stp.refl.patch hd _
  · exact ⟨hd1.2, hd1.1, upd_same⟩
  rintro i m H ⟨rfl, hi, ⟨F, Af, env, kvs, ks, as, rest, s, tt, ap, hkv, hnd, hks, hl, hr, ht⟩⟩
  have eF : Ex F1 F := tt.ex
  by_cases hlt : i < ds.length
  · refine .inr ⟨r1.2.go i F H eF s.ex hlt, CD X.K ev elt t c σ F1 H1 Af1 ds total envE d (i + 1), fun H' w => ⟨ds.length - (i + 1), by omega, rfl, hlt, w⟩, fun x H' y => ?_⟩
    have hdrop : ds.drop i = ds[i] :: ds.drop (i + 1) := List.drop_eq_getElem_cons hlt
    obtain ⟨F', g, rx⟩ := r1.2.yld i F H x H' ds[i] eF s.ex (List.getElem?_eq_getElem hlt) y
    have s2 := s.grow g
    have t2 : Stp F1 H1 Af1 F' H' Af [] := tt.trans (Stp.grow g)
    have ap2 := ap.step (Stp.grow (Af := Af) g)
    rw [hdrop] at hr
    have hr : (match assignT t ds[i] (wipeE env (tslots t)) with
      | none => Res.stuck
      | some env1 => (match c with
          | none => Res.ok (true, env1)
          | some c => truthE ev c env1).bind fun p =>
        if p.1 then (evD ev elt p.2).bind fun q => (turns ev elt t c (tslots t) (ds.drop (i + 1)) q.2).bind fun r => .ok (O.val q.1 :: r.1, r.2)
        else turns ev elt t c (tslots t) (ds.drop (i + 1)) p.2) = .ok (rest, envE) := hr
    cases ha : assignT t ds[i] (wipeE env (tslots t)) with
    | none => rw [ha] at hr; cases hr
    | some env2 =>
    rw [ha] at hr
    have w2 : ∀ (j : Nat), j ∉ tslots t → (L2.wipe σ (tslots t))[j]? = σ[j]? := fun j hj => (wipe_get σ j _).1 hj
    have ww : Same (tslots t) σ (L2.wipe σ (tslots t)) := ⟨wipe_length _ _, w2⟩
    refine gT_ok t ha s2 rx fun σ2 Af2 s3 l3 m3 => ⟨(wipe_same m3 (fun i h => h)).trans (wipe_same ww fun i h => h), ?_⟩
    have t3 : Stp F1 H1 Af1 F' H' Af2 [] := t2.trans (Stp.less l3)
    have ap3 := ap2.step (Stp.less (F := F') (H := H') l3)
    have hw3 : L2.wipe σ2 (tslots t) = L2.wipe σ (tslots t) := (wipe_same m3 (fun i h => h)).trans (wipe_same ww fun i h => h)
    have key : ∀ (b : Bool) (env3 : Env) (F4 H4 : Hp) (Af4 : Nat → List Addr), (if b then (evD ev elt env3).bind fun q => (turns ev elt t c (tslots t) (ds.drop (i + 1)) q.2).bind fun r => .ok (O.val q.1 :: r.1, r.2)
        else turns ev elt t c (tslots t) (ds.drop (i + 1)) env3) = .ok (rest, envE) → SR X.K F4 H4 σ2 env3 Af4 → Stp F' H' Af2 F4 H4 Af4 [] →
        (if b = true then TD X cA WF (evD ev elt) σ2 H4 (fun y H5 => tC (.bl vb) σ2 H5 fun z H6 => ∃ kvs k, y = kV k ∧ H6 d = some (.dK kvs) ∧ kvs.length < sizeLine ∧ CD X.K ev elt t c σ F1 H1 Af1 ds total envE d (i + 1) (upd H6 d (.dK (putK kvs k z))))
          else CD X.K ev elt t c σ F1 H1 Af1 ds total envE d (i + 1) H4) := by
      intro b env3 F4 H4 Af4 hr s4 t4
      have t14 := t3.trans t4
      have ap4 := ap3.step t4
      cases b with
      | false =>
        refine ⟨F4, Af4, env3, kvs, ks, as, rest, ?_, t14, ap4, hkv, hnd, hks, Nat.le_succ_of_le hl, hr, ht⟩
        rw [← hw3]; exact s4.wipe _
      | true =>
        simp only [if_true] at hr ⊢
        cases he : evD ev elt env3 with
        | stuck => rw [he] at hr; cases hr
        | err k => rw [he] at hr; cases hr
        | ok z =>
        obtain ⟨v, env4⟩ := z
        rw [he] at hr
        have hr : ((turns ev elt t c (tslots t) (ds.drop (i + 1)) env4).bind fun r => .ok (O.val v :: r.1, r.2)) = .ok (rest, envE) := hr
        obtain ⟨r, hr1, hr2⟩ := Res.bind_ok hr
        cases hr2
        -- the key is a whole number
        have hv : ∃ k : Int, v = .int k := by
          have h1 : v ∈ O.toDs total := by
            rw [ht]
            have : ∀ (l m : List O), O.toDs (l ++ m) = O.toDs l ++ O.toDs m := by
              intro l m
              induction l with
              | nil => rfl
              | cons a l ih => show a.toD :: O.toDs (l ++ m) = _; rw [ih]; rfl
            rw [this]
            exact List.mem_append_right _ List.mem_cons_self
          rw [htot] at h1
          obtain ⟨k, _, e⟩ := List.mem_map.mp h1
          exact ⟨k, e.symm⟩
        obtain ⟨k, rfl⟩ := hv
        refine ⟨F4, Af4, env3, s4, ?_⟩
        rw [he]
        intro y F5 H5 Af5 C5 s5 t5 r5 nd5 un5
        obtain ⟨rfl, r5⟩ := r5
        cases r5.int_inv
        have ap5 := ap4.step t5
        refine ⟨kvs, Sum.inl k, rfl, ap5.h, ?_, ?_⟩
        · have : most < sizeLine := by decide
          omega
        · obtain ⟨ks', p1, p2, p3, p4⟩ := put_keys (v := V.bl vb) (k := k) hkv hnd
          refine ⟨F5, Af5, env4, _, ks', as ++ [k], r.1, ?_, (t14.trans t5).patch hd _, ⟨ap5.f, ap5.a, upd_same⟩, p1, p2, fun j => ?_, by omega, hr1, ?_⟩
          · rw [← hw3]; exact (s5.other ap5.f ap5.a _).wipe _
          · rw [p3, hks, List.mem_append, List.mem_singleton]; exact Or.comm
          · rw [ht, List.map_append, List.append_assoc]; rfl
    cases c with
    | none => exact key true env2 F' H' Af2 hr s3 Stp.refl
    | some c =>
      obtain ⟨⟨b, env3⟩, h1, h2⟩ := Res.bind_ok hr
      have h1 : truthE ev c env2 = .ok (b, env3) := h1
      refine ⟨F', Af2, env2, s3, ?_⟩
      rw [h1]
      intro b' F4 H4 Af4 C4 s4 t4 r4 nd4 un4
      obtain ⟨rfl, rfl⟩ := r4
      exact key b' env3 F4 H4 Af4 h2 s4 t4
  · have e : i = ds.length := by omega
    subst e
    rw [List.drop_length] at hr
    cases hr
    refine .inl ⟨r1.2.stop F H eF s.ex, d, kvs, ks, rfl, .of ap.h, hkv, fun ys p hy1 hy2 hp => ?_⟩
    have sb := s.back s1 eF hpl
    have hns : ∀ k, k ∈ ks ↔ k ∈ ns := fun k => by
      rw [hks]
      have e1 : O.toDs total = as.map PyData.int := by
        rw [ht, List.append_nil]
        clear ht hks
        induction as with
        | nil => rfl
        | cons a l ih => show PyData.int a :: O.toDs _ = _; rw [ih]; rfl
      rw [e1] at htot
      have : as = ns := List.map_inj_right (fun a b h => by cases h; rfl) |>.mp htot
      rw [this]
    have hyn : ys.Nodup := hy1.nodup_iff.mpr hnd
    have ey : ys = sortI ns := sortI_eq (lt_of_le_nodup ys hy2 hyn) fun k => (hy1.mem_iff).trans (hns k)
    subst ey
    have np := fresh_own sb hp
    have hne : p ≠ d := fun z => by subst z; rw [ap.h] at hp; cases hp
    have hp1 : H1 p = none := Classical.byContradiction fun z => tt.dom p z hp
    have q : PG X.K cA W (rO X.K) σ F1 H1 Af1 (.ok (O.lst ((sortI ns).map fun i => O.val (.int i)), backE env1 envE (tslots t))) Q := q
    rw [vals_int] at q
    have tl := (tt.trans (Stp.less (F := F) (H := H) (Less.clear (Af := Af) (tslots t)))).patch hp1 (.lst ((sortI ns).map V.int))
    refine q (.ref p) F _ _ [p] (sb.other np.2 np.1 _) ⟨tl.ex, tl.frame, tl.dom, tl.prF, tl.prA, fun a ha => by
      have : a = p := by simpa using ha
      subst this; exact .inr hp1⟩ (.lst upd_same (ROs.vals Rep.ofInts)) (by simp) fun y hy => by
        have : y = p := by simpa using hy
        subst this; exact ⟨np.2, np.1⟩
end
end Ev

end
section
set_option autoImplicit false
set_option linter.all false
set_option maxRecDepth 100000
/-! Calls of defs of the text. -/
namespace Ev
open PySem L2 PyProof.Rows RZ

inductive RAs (K : PySem.W.Frag) (σ : L2.St) (F : Hp) : List V → List (Option Nat × D) → Prop
  | nil : RAs K σ F [] []
  | lend {i : Nat} {v : V} {vs : List V} {as : List (Option Nat × D)} : σ[i]? = some (some v) → RAs K σ F vs as → RAs K σ F (v :: vs) ((some i, .none) :: as)
  | val {d : D} {v : V} {vs : List V} {as : List (Option Nat × D)} : Rep K F v d → RAs K σ F vs as → RAs K σ F (v :: vs) ((none, d) :: as)
def rAs (K : PySem.W.Frag) (σ : L2.St) : Rp (List (Option Nat × D)) (List V) := fun F _ vs as C => C = [] ∧ RAs K σ F vs as
section
variable {K : PySem.W.Frag} {F F' H H' : Hp} {σ : L2.St} {env env' : Env} {Af Af' : Nat → List Addr}
theorem RAs.mono (e : Ex F F') : ∀ {vs : List V} {as : List (Option Nat × D)}, RAs K σ F vs as → RAs K σ F' vs as
  | _, _, .nil => .nil
  | _, _, .lend h r => .lend h (RAs.mono e r)
  | _, _, .val h r => .val (h.mono e) (RAs.mono e r)
theorem RAs.length : ∀ {vs : List V} {as : List (Option Nat × D)}, RAs K σ F vs as → vs.length = as.length
  | _, _, .nil => rfl
  | _, _, .lend _ r => by rw [List.length_cons, List.length_cons, RAs.length r]
  | _, _, .val _ r => by rw [List.length_cons, List.length_cons, RAs.length r]
theorem RAs.get : ∀ {vs : List V} {as : List (Option Nat × D)} {j : Nat} {i : Option Nat} {d : D}, RAs K σ F vs as → as[j]? = some (i, d) → ∃ v, vs[j]? = some v ∧ (∀ k, i = some k → σ[k]? = some (some v)) ∧ (i = none → Rep K F v d)
  | _, _, j, _, _, .nil, e => by simp at e
  | _, _, 0, _, _, .lend (v := v) h r, e => by
    cases e
    exact ⟨v, rfl, fun k z => by cases z; exact h, fun z => nomatch z⟩
  | _, _, j + 1, _, _, .lend h r, e => RAs.get (j := j) r e
  | _, _, 0, _, _, .val (v := v) h r, e => by
    cases e
    exact ⟨v, rfl, (fun k z => nomatch z), fun _ => h⟩
  | _, _, j + 1, _, _, .val h r, e => RAs.get (j := j) r e
theorem argOs_get : ∀ {as : List (Option Nat × D)} {os : List O} {j : Nat} {o : O}, argOs env as = some os → os[j]? = some o → ∃ a, as[j]? = some a ∧ argO env a = some o
  | [], os, j, o, e, h => by cases e; simp at h
  | a :: r, os, j, o, e, h => by
    unfold argOs at e
    cases h1 : argO env a with
    | none => rw [h1] at e; cases e
    | some o1 =>
      cases h2 : argOs env r with
      | none => rw [h1, h2] at e; cases e
      | some os1 =>
        rw [h1, h2] at e
        cases e
        cases j with
        | zero => cases h; exact ⟨a, rfl, h1⟩
        | succ j => exact argOs_get (j := j) h2 h
theorem argOs_length : ∀ {as : List (Option Nat × D)} {os : List O}, argOs env as = some os → os.length = as.length
  | [], os, e => by cases e; rfl
  | a :: r, os, e => by
    unfold argOs at e
    cases h1 : argO env a with
    | none => rw [h1] at e; cases e
    | some o1 =>
      cases h2 : argOs env r with
      | none => rw [h1, h2] at e; cases e
      | some os1 =>
        rw [h1, h2] at e
        cases e
        rw [List.length_cons, List.length_cons, argOs_length h2]
theorem mem_lent : ∀ {as : List (Option Nat × D)} {i : Nat}, i ∈ lent as ↔ ∃ (j : Nat) (d : D), as[j]? = some (some i, d)
  | [], i => ⟨(fun h => nomatch h), fun ⟨j, d, h⟩ => by simp at h⟩
  | (some k, d) :: r, i => by
    show i ∈ k :: lent r ↔ _
    rw [List.mem_cons, mem_lent]
    constructor
    · rintro (rfl | ⟨j, d', h⟩)
      · exact ⟨0, d, rfl⟩
      · exact ⟨j + 1, d', h⟩
    · rintro ⟨j, d', h⟩
      cases j with
      | zero => cases h; exact .inl rfl
      | succ j => exact .inr ⟨j, d', h⟩
  | (none, d) :: r, i => by
    show i ∈ lent r ↔ _
    rw [mem_lent]
    constructor
    · rintro ⟨j, d', h⟩; exact ⟨j + 1, d', h⟩
    · rintro ⟨j, d', h⟩
      cases j with
      | zero => cases h
      | succ j => exact ⟨j, d', h⟩
theorem lent_uniq : ∀ {as : List (Option Nat × D)} {i j j' : Nat} {d d' : D}, (lent as).Nodup → as[j]? = some (some i, d) → as[j']? = some (some i, d') → j = j'
  | [], _, j, _, _, _, _, h, _ => by simp at h
  | (some k, e) :: r, i, j, j', d, d', nd, h, h' => by
    have nd : (k :: lent r).Nodup := nd
    obtain ⟨n1, n2⟩ := List.nodup_cons.mp nd
    cases j with
    | zero =>
      cases h
      cases j' with
      | zero => rfl
      | succ j' => exact absurd (mem_lent.mpr ⟨j', d', h'⟩) n1
    | succ j =>
      cases j' with
      | zero => cases h'; exact absurd (mem_lent.mpr ⟨j, d, h⟩) n1
      | succ j' =>
        have h : r[j]? = some (some i, d) := h
        have h' : r[j']? = some (some i, d') := h'
        rw [lent_uniq (j := j) (j' := j') n2 h h']
  | (none, e) :: r, i, j, j', d, d', nd, h, h' => by
    cases j with
    | zero => cases h
    | succ j =>
      cases j' with
      | zero => cases h'
      | succ j' =>
        have h : r[j]? = some (some i, d) := h
        have h' : r[j']? = some (some i, d') := h'
        rw [lent_uniq (as := r) (j := j) (j' := j') (show (lent r).Nodup from nd) h h']
/-- what the callee owns -/
def afc (Af : Nat → List Addr) (as : List (Option Nat × D)) : Nat → List Addr := fun j => match as[j]? with
  | some (some i, _) => Af i
  | _ => []
theorem afc_mem {as : List (Option Nat × D)} {j : Nat} {a : Addr} (h : a ∈ afc Af as j) : ∃ i d, as[j]? = some (some i, d) ∧ a ∈ Af i := by
  unfold afc at h
  split at h
  · rename_i i d e; exact ⟨i, d, e, h⟩
  · cases h
theorem afc_own {as : List (Option Nat × D)} {a : Addr} (h : Own (afc Af as) a) : Own Af a := by
  obtain ⟨j, h⟩ := h
  obtain ⟨i, d, _, h⟩ := afc_mem h
  exact ⟨i, h⟩
theorem SR.enter (s : SR K F H σ env Af) {vs : List V} {as : List (Option Nat × D)} {os : List O} (r : RAs K σ F vs as) (nd : (lent as).Nodup) (ho : argOs env as = some os) : SR K F H (vs.map some) (os.map some) (afc Af as) := by
  refine ⟨s.ex, by rw [List.length_map, List.length_map, r.length, argOs_length ho], fun j o e => ?_, fun j => ?_, fun j k a h1 h2 => ?_, fun j a h => ?_, fun j a h => ?_⟩
  · rw [List.getElem?_map] at e
    cases q : os[j]? with
    | none => rw [q] at e; cases e
    | some o' =>
      rw [q] at e
      cases e
      obtain ⟨⟨i, d⟩, e1, e2⟩ := argOs_get ho q
      obtain ⟨v, h1, h2, h3⟩ := r.get e1
      refine ⟨v, by rw [List.getElem?_map, h1]; rfl, ?_⟩
      cases i with
      | none =>
        cases e2
        have : afc Af as j = [] := by unfold afc; rw [e1]
        rw [this]
        exact .val (h3 rfl)
      | some k =>
        have e2 : (env[k]?).join = some o := e2
        obtain ⟨w, w1, w2⟩ := s.at_ k o (join_some e2)
        rw [h2 k rfl] at w1
        cases w1
        have : afc Af as j = Af k := by unfold afc; rw [e1]
        rw [this]
        exact w2
  · unfold afc
    split
    · exact s.nd _
    · exact .nil
  · obtain ⟨i, d, e1, m1⟩ := afc_mem h1
    obtain ⟨i', d', e2, m2⟩ := afc_mem h2
    have := s.dj i i' a m1 m2
    subst this
    exact lent_uniq nd e1 e2
  · obtain ⟨i, d, e1, m1⟩ := afc_mem h
    exact s.un i a m1
  · obtain ⟨i, d, e1, m1⟩ := afc_mem h
    exact s.th i a m1
theorem backs_get : ∀ {as : List (Option Nat × D)} {env envc : Env} {k : Nat}, (lent as).Nodup → envc.length = as.length → (k ∉ lent as → (backs env as envc)[k]? = env[k]?) ∧
    (k ∈ lent as → ∀ u, (backs env as envc)[k]? = some (some u) → ∃ (j : Nat) (d : D), as[j]? = some (some k, d) ∧ envc[j]? = some (some u))
  | [], env, [], k, _, _ => ⟨fun _ => rfl, (fun h => nomatch h)⟩
  | [], _, _ :: _, _, _, h => by cases h
  | _ :: _, _, [], _, _, h => by cases h
  | (none, d) :: r, env, o :: os, k, nd, hl => by
    obtain ⟨h1, h2⟩ := backs_get (as := r) (env := env) (envc := os) (k := k) nd (by simpa using hl)
    refine ⟨h1, fun h u e => ?_⟩
    obtain ⟨j, d', e1, e2⟩ := h2 h u e
    exact ⟨j + 1, d', e1, e2⟩
  | (some i, d) :: r, env, o :: os, k, nd, hl => by
    have nd : (i :: lent r).Nodup := nd
    obtain ⟨n1, n2⟩ := List.nodup_cons.mp nd
    obtain ⟨h1, h2⟩ := backs_get (as := r) (env := env.set i o) (envc := os) (k := k) n2 (by simpa using hl)
    refine ⟨fun h => ?_, fun h u e => ?_⟩
    · have h : k ∉ i :: lent r := h
      rw [List.mem_cons, not_or] at h
      exact (h1 h.2).trans (List.getElem?_set_ne (Ne.symm h.1))
    · by_cases hk : k ∈ lent r
      · obtain ⟨j, d', e1, e2⟩ := h2 hk u e
        exact ⟨j + 1, d', e1, e2⟩
      · have h : k ∈ i :: lent r := h
        have hki : k = i := by
          rcases List.mem_cons.mp h with q | q
          · exact q
          · exact absurd q hk
        subst hki
        have e : (env.set k o)[k]? = some (some u) := (h1 hk).symm.trans e
        rcases getElem_set e with ⟨_, _, q⟩ | ⟨q, _⟩
        · exact ⟨0, d, rfl, by rw [q]; rfl⟩
        · exact absurd rfl q
theorem backs_length : ∀ {as : List (Option Nat × D)} {env envc : Env}, (backs env as envc).length = env.length
  | [], env, [] => rfl
  | [], env, _ :: _ => rfl
  | (some i, d) :: r, env, [] => rfl
  | (none, d) :: r, env, [] => rfl
  | (none, d) :: r, env, o :: os => backs_length (as := r) (env := env) (envc := os)
  | (some i, d) :: r, env, o :: os => (backs_length (as := r) (env := env.set i o) (envc := os)).trans (by rw [List.length_set])
open Classical in
/-- what the caller owns behind a call -/
noncomputable def afb (Af Ac : Nat → List Addr) (as : List (Option Nat × D)) : Nat → List Addr := fun i => if h : ∃ (j : Nat) (d : D), as[j]? = some (some i, d) then Ac h.choose else Af i
theorem afb_mem {Ac : Nat → List Addr} {as : List (Option Nat × D)} {i : Nat} {a : Addr} (h : a ∈ afb Af Ac as i) : (∃ (j : Nat) (d : D), as[j]? = some (some i, d) ∧ a ∈ Ac j) ∨ (i ∉ lent as ∧ a ∈ Af i) := by
  unfold afb at h
  split at h
  · rename_i q
    obtain ⟨d, e⟩ := q.choose_spec
    exact .inl ⟨q.choose, d, e, h⟩
  · rename_i q
    exact .inr ⟨fun z => q (mem_lent.mp z), h⟩
theorem SR.exit (s : SR K F H σ env Af) {vs : List V} {as : List (Option Nat × D)} (r : RAs K σ F vs as) (nd : (lent as).Nodup) {envc : Env} {Ac : Nat → List Addr} {C : List Addr} (sc : SR K F' H' (vs.map some) envc Ac) (t : Stp F H (afc Af as) F' H' Ac C) :
    SR K F' H' σ (backs env as envc) (afb Af Ac as) ∧ Stp F H Af F' H' (afb Af Ac as) C ∧ ∀ x ∈ C, ¬ Own Ac x → ¬ Own (afb Af Ac as) x := by
  have hl : envc.length = as.length := by rw [← sc.len, List.length_map, r.length]
  have no : ∀ i a, i ∉ lent as → a ∈ Af i → ¬ Own (afc Af as) a := fun i a hi ha ⟨j, h⟩ => by
    obtain ⟨i', d, e1, m1⟩ := afc_mem h
    have := s.dj i i' a ha m1
    subst this
    exact hi (mem_lent.mpr ⟨j, d, e1⟩)
  have noc : ∀ i a, i ∉ lent as → a ∈ Af i → ¬ Own Ac a := fun i a hi ha h => by
    rcases t.prA a h with q | q
    · exact no i a hi ha q
    · exact s.th i a ha q
  have kp : ∀ i a, i ∉ lent as → a ∈ Af i → H' a = H a := fun i a hi ha => by
    cases q : H a with
    | none => exact absurd q (s.th i a ha)
    | some o => exact t.frame a o q (no i a hi ha)
  refine ⟨⟨sc.ex, by rw [backs_length]; exact s.len, fun i o e => ?_, fun i => ?_, fun i k a h1 h2 => ?_, fun i a h => ?_, fun i a h => ?_⟩, ⟨t.ex, fun a o e n => t.frame a o e fun q => n (afc_own q), t.dom, fun a h => ?_, fun a h => ?_, fun a h => ?_⟩, fun x hx n q => ?_⟩
  · by_cases hi : i ∈ lent as
    · obtain ⟨j, d, e1, e2⟩ := (backs_get nd hl).2 hi o e
      obtain ⟨v, h1, h2⟩ := sc.at_ j o e2
      obtain ⟨w, w1, w2, _⟩ := r.get e1
      rw [List.getElem?_map, w1] at h1
      cases h1
      refine ⟨_, w2 i rfl, ?_⟩
      have : afb Af Ac as i = Ac j := by
        have hx : ∃ (j : Nat) (d : D), as[j]? = some (some i, d) := ⟨j, d, e1⟩
        unfold afb
        rw [dif_pos hx]
        obtain ⟨d', e'⟩ := hx.choose_spec
        rw [lent_uniq nd e' e1]
      rw [this]
      exact h2
    · rw [(backs_get nd hl).1 hi] at e
      obtain ⟨v, h1, h2⟩ := s.at_ i o e
      refine ⟨v, h1, ?_⟩
      have : afb Af Ac as i = Af i := by
        unfold afb
        rw [dif_neg fun z => hi (mem_lent.mpr z)]
      rw [this]
      exact h2.mono t.ex fun a ha => kp i a hi ha
  · unfold afb
    split
    · exact sc.nd _
    · exact s.nd i
  · rcases afb_mem h1 with ⟨j, d, e1, m1⟩ | ⟨n1, m1⟩ <;> rcases afb_mem h2 with ⟨j', d', e2, m2⟩ | ⟨n2, m2⟩
    · have := sc.dj j j' a m1 m2
      subst this
      rw [e1] at e2
      cases e2
      rfl
    · exact absurd ⟨j, m1⟩ (noc k a n2 m2)
    · exact absurd ⟨j', m2⟩ (noc i a n1 m1)
    · exact s.dj i k a m1 m2
  · rcases afb_mem h with ⟨j, d, e1, m1⟩ | ⟨n1, m1⟩
    · exact sc.un j a m1
    · exact Classical.byContradiction fun q => by
        rcases t.prF a q with q | q | q
        · exact q (s.un i a m1)
        · exact s.th i a m1 q
        · exact no i a n1 m1 q
  · rcases afb_mem h with ⟨j, d, e1, m1⟩ | ⟨n1, m1⟩
    · exact sc.th j a m1
    · rw [kp i a n1 m1]; exact s.th i a m1
  · rcases t.prF a h with q | q | q
    · exact .inl q
    · exact .inr (.inl q)
    · exact .inr (.inr (afc_own q))
  · obtain ⟨i, h⟩ := h
    rcases afb_mem h with ⟨j, d, e1, m1⟩ | ⟨n1, m1⟩
    · exact (t.prA a ⟨j, m1⟩).imp afc_own id
    · exact .inl ⟨i, m1⟩
  · exact (t.prC a h).imp afc_own id
  · obtain ⟨i, h⟩ := q
    rcases afb_mem h with ⟨j, d, e1, m1⟩ | ⟨n1, m1⟩
    · exact n ⟨j, m1⟩
    · rcases t.prC x hx with q | q
      · exact no i x n1 m1 q
      · exact s.th i x m1 q
end
section
variable {nm : Names} {T : Tab} {cA fA : Nat → Addr} {n : Nat} {W : WX} {X : Cx} {ev : E → Env → Res (O × Env)} {exs : List S → Env → Res (Fl × Env)}
abbrev TAs (X : Cx) (cA : Nat → Addr) (W : WX) (r : Env → Res (List (Option Nat × D) × Env)) : TA := fun σ H Q => TG X.K cA W (rAs X.K σ) r σ H Q
theorem a_args (hX : At nm T cA fA n W X) {chk : Scope → E → Expr → Bool} (HE : ∀ e a, chk X.env.scope e a = true → PE X a (TO X cA W (ev e))) : ∀ (es : List E) (as : List Expr), chkA X.N chk X.env.scope es as = true → PA X as (TAs X cA W (evArgs ev es)) ∧ as.all noStar = true
  | [], [], _ => ⟨pa_nil.mono fun σ H Q ⟨F, Af, env, s, p⟩ => PG.now p s ⟨rfl, .nil⟩, rfl⟩
  | [], _ :: _, h => by cases h
  | e :: es, [], h => by cases e <;> cases h
  | e :: es, a :: as, h => by
    by_cases hs : isLend e = true
    · cases e with
      | lend i =>
        cases a with
        | Name x p =>
          have h' : (isVr X.N X.env.scope i x && chkA X.N chk X.env.scope es as) = true := h
          rw [Bool.and_eq_true] at h'
          obtain ⟨h1, h2, h3, h4⟩ := isVr_spec h'.1
          obtain ⟨k1, k2⟩ := a_args hX HE es as h'.2
          refine ⟨(pa_cons (pe_var h1 h2 h3 h4) k1 rfl).mono fun σ H Q ⟨F, Af, env, s, p⟩ => ?_, by rw [List.all_cons, k2]; rfl⟩
          have p : PG X.K cA W (rAs X.K σ) σ F H Af (match (env[i]?).join with
            | some _ => (evArgs ev es env).bind fun q => .ok ((some i, .none) :: q.1, q.2)
            | none => .stuck) Q := p
          cases e : (env[i]?).join with
          | none => rw [e] at p; exact p.elim
          | some o =>
            rw [e] at p
            obtain ⟨v, e1, r⟩ := s.at_ i _ (join_some e)
            refine ⟨v, e1, PG.tg s (PG.bind (k := fun as env => .ok ((some i, PyData.none) :: as, env)) p fun as env2 vs F2 H2 Af2 C2 _ s2 t2 r2 nd2 un2 q2 => ?_)⟩
            exact PG.now q2 s2 ⟨rfl, .lend e1 r2.2⟩
        | _ => cases h
      | _ => cases hs
    · have hs : isLend e = false := by simpa using hs
      rw [chkA_cons hs] at h
      simp only [Bool.and_eq_true] at h
      obtain ⟨k1, k2⟩ := a_args hX HE es as h.2.2
      refine ⟨(pa_cons (HE e a h.2.1).toD k1 (star1 h.1 _ _)).mono fun σ H Q h => ?_, by rw [List.all_cons, k2, h.1]; rfl⟩
      have h' : TG X.K cA W (rAs X.K σ) (fun env => (evD ev e env).bind fun p => (evArgs ev es p.2).bind fun q => .ok ((none, p.1) :: q.1, q.2)) σ H Q := by
        rw [show evArgs ev (e :: es) = _ from funext (evArgs_cons hs es)] at h; exact h
      refine TG.bind (rep := rD X.K) (r := evD ev e) (k := fun d env => (evArgs ev es env).bind fun q => .ok ((none, d) :: q.1, q.2)) h' fun d env1 v F1 H1 Af1 C s1 r1 nd un q => ?_
      refine PG.tg s1 (PG.bind (rep := rAs X.K σ) (k := fun ys env => .ok ((none, d) :: ys, env)) q fun ys env2 vs F2 H2 Af2 C2 _ s2 t2 r2 nd2 un2 q2 => ?_)
      exact PG.now q2 s2 ⟨rfl, .val (r1.2.mono t2.ex) r2.2⟩
theorem nostars {env : PySem.Env} {pos : Pos} : ∀ {as : List Expr}, as.all noStar = true → (backTo pos (starEach as env)).any (·.1) = false
  | [], _ => rfl
  | a :: as, h => by
    rw [List.all_cons, Bool.and_eq_true] at h
    rw [star1 h.1]
    show (false || (backTo pos (starEach as env)).any (·.1)) = false
    rw [nostars h.2]; rfl
/-- into the callee and back -/
theorem call_sp {j f : Nat} {σ : L2.St} {F H : Hp} {Af : Nat → List Addr} {env : Env} {vs : List V} {as : List (Option Nat × D)} {Q : VK} {E' : XK} (s : SR X.K F H σ env Af) (r : RAs X.K σ F vs as)
    (q : PG X.K cA W (rO X.K) σ F H Af (callA T (exN T j) f as env) Q) (hE : ∀ c d H, W c d σ H → E' c d H) : spF X.K cA T j f vs H Q E' := by
  unfold callA at q
  split at q
  case isFalse => exact q.elim
  rename_i hk
  obtain ⟨nd, lk⟩ := hk
  cases ho : argOs env as with
  | none => rw [ho] at q; exact q.elim
  | some os =>
  rw [ho] at q
  have q : PG X.K cA W (rO X.K) σ F H Af ((callF T (exN T j) f os).bind fun p => .ok (p.1, backs env as p.2)) Q := q
  have se := s.enter r nd ho
  cases hf : T.fs[f]? with
  | none =>
    exfalso
    unfold callF at q
    rw [hf] at q
    exact q.elim
  | some d =>
  by_cases hn : os.length = d.np
  · refine ⟨F, afc Af as, os, d, hf, by rw [r.length, ← argOs_length ho, hn], se, fun k hk => ?_, ?_⟩
    · have : as[k]? = none := List.getElem?_eq_none (by rw [← argOs_length ho]; exact hk)
      unfold afc
      rw [this]
    · cases hc : callF T (exN T j) f os with
      | stuck => rw [hc] at q; exact q.elim
      | err c =>
        rw [hc] at q
        intro F' H' e1 e2 fr dm
        exact hE _ _ _ (q F' H' e1 e2 (fun a o e n => fr a o e fun z => n (afc_own z)) dm)
      | ok z =>
        rw [hc] at q
        intro v F' H' Ac C sc t rv ndC un
        obtain ⟨g1, g2, g3⟩ := s.exit r nd sc t
        exact q v F' H' _ C g1 g2 rv ndC fun x hx => ⟨(un x hx).1, g3 x hx (un x hx).2⟩
  · exfalso
    unfold callF at q
    rw [hf] at q
    simp only [hn, if_false] at q
    exact q.elim
theorem e_call {j f : Nat} {x : Str} {es : List E} {b : Expr} {as : List Expr} {p0 pos : Pos} (hX : At nm T cA fA (j + 1) W X) (hx : isGl nm.fn X.env.scope f x = true) (ha : PA X (b :: as) (TAs X cA W (evArgs (evN T j) es))) (hs : (b :: as).all noStar = true) :
    PE X (.Call (.Name x p0) (b :: as) [] pos) (TO X cA W (stepE T (evN T j) (exN T j) (.call f es))) := by
  obtain ⟨h1, h2, h3⟩ := isGl_spec hx
  obtain ⟨fd, ps, m1, m2, m3, m4⟩ := hX.fns j (Nat.lt_succ_self j) f x h1
  rw [List.all_cons, Bool.and_eq_true] at hs
  refine (pe_callS m4 (hX.room.mono (Nat.le_refl _)) h2 m1 m2 m3 (fun σ => L2N.passAt hX.tk σ) ha h3 (star1 hs.1 _ _) (nostars hs.2)).mono fun σ H Q h => ?_
  refine TG.bind (rep := rAs X.K σ) (r := evArgs (evN T j) es) (k := fun as env => callA T (exN T j) f as env) h fun d env1 v F1 H1 Af1 C s1 r1 nd un q => ?_
  exact call_sp s1 r1.2 q fun _ _ _ h => h
theorem e_call0 {j f : Nat} {x : Str} {p0 pos : Pos} (hX : At nm T cA fA (j + 1) W X) (hx : isGl nm.fn X.env.scope f x = true) :
    PE X (.Call (.Name x p0) [] [] pos) (TO X cA W (stepE T (evN T j) (exN T j) (.call f []))) := by
  obtain ⟨h1, h2, h3⟩ := isGl_spec hx
  obtain ⟨fd, ps, m1, m2, m3, m4⟩ := hX.fns j (Nat.lt_succ_self j) f x h1
  refine (pe_call0 (E := fun c d H => W c d [] H) m4 (hX.room.mono (Nat.le_refl _)) h2 m1 m2 m3 .nil (fun pins σ H s e s' I c => hX.tk e s' (L2N.XE.of_call I (fun _ _ _ h => hX.wσ _ _ _ _ _ h) c)) h3).mono fun σ H Q ⟨F, Af, env, s, p⟩ => ?_
  exact call_sp (vs := []) s .nil p fun _ _ _ h => hX.wσ _ _ _ _ _ h
/-- in a comprehension's block -/
theorem At.blk (hX : At nm T cA fA n W X) (s : Shared) (H : Hp) (scope : Scope) (cenv : PySem.Env) (fp : List Addr) : At nm T cA fA n WF (X.blk s H scope cenv fp) :=
  ⟨hX.nd, hX.calm, hX.room, fun u s' ⟨a, B, sI, pins, σ, H, cls, d, e, I, nb, up, sky, na, os, ag, w⟩ => w, hX.blt, hX.cst, hX.fns, fun _ _ _ _ _ h => h, hX.exn, hX.exm, hX.flg, hX.gd, hX.gdt⟩
/-! a def out of a list of defs -/
theorem a_fs {j : Nat} (hX : At nm T cA fA (j + 1) W X) : ∀ {fs : List Nat} {els : List Expr}, chkFs nm.fn X.env.scope fs els = true → PA X els (fun _ H Q => Q (fs.map fun f => V.ref (fA f)) H)
  | [], [], _ => pa_nil
  | [], _ :: _, h => by cases h
  | f :: fs, els, h => by
    cases els with
    | nil => cases h
    | cons a els =>
      cases a with
      | Name x p =>
        have h : (isGl nm.fn X.env.scope f x && chkFs nm.fn X.env.scope fs els) = true := h
        rw [Bool.and_eq_true] at h
        obtain ⟨h1, h2, h3⟩ := isGl_spec h.1
        obtain ⟨fd, ps, m1, m2, m3, m4⟩ := hX.fns j (Nat.lt_succ_self j) f x h1
        exact (pa_cons (pe_glob (v := .ref (fA f)) h2 m1 rfl h3) (a_fs hX h.2) rfl).mono fun σ H Q q => q
      | _ => cases h
theorem fs_at : ∀ {fs : List Nat} {els : List Expr} {sc : Scope} {fn : List Str}, chkFs fn sc fs els = true → ∀ {i f : Nat}, fs[i]? = some f → ∃ x, fn[f]? = some x
  | [], _, _, _, _, i, f, h => by simp at h
  | g :: fs, els, sc, fn, hc, i, f, h => by
    cases els with
    | nil => cases hc
    | cons a els =>
      cases a with
      | Name x p =>
        have hc : (isGl fn sc g x && chkFs fn sc fs els) = true := hc
        rw [Bool.and_eq_true] at hc
        cases i with
        | zero =>
          cases h
          have q := hc.1
          unfold isGl at q
          simp only [Bool.and_eq_true, decide_eq_true_eq] at q
          exact ⟨x, q.2.2⟩
        | succ i => exact fs_at hc.2 (by simpa using h)
      | _ => cases hc
theorem e_sel {j : Nat} {fs : List Nat} {ix : E} {es : List E} {els : List Expr} {c b : Expr} {as : List Expr} {p1 p2 pos : Pos} (hX : At nm T cA fA (j + 1) W X) (hf : chkFs nm.fn X.env.scope fs els = true) (hcs : (match c with | .Slice _ _ _ _ => false | _ => true) = true)
    (hz : fs.length ≤ 1000) (hi : PE X c (TO X cA W (evN T j ix))) (ha : PA X (b :: as) (TAs X cA W (evArgs (evN T j) es))) (hs : (b :: as).all noStar = true) :
    PE X (.Call (.Subscript (.List els p1) c p2) (b :: as) [] pos) (TO X cA W (stepE T (evN T j) (exN T j) (.sel fs ix es))) := by
  refine ⟨fun pins s σ H Q I h => ?_⟩
  have hfun := pe_ix (pos := p2) (ix_list (X := X)) (pe_lst (pos := p1) (a_fs hX hf)) hi.toD (by cases c <;> first | (intro _ _; rfl) | cases hcs)
  rw [List.all_cons, Bool.and_eq_true] at hs
  have key : tOp (rIxL X.K) (tLst (fun _ H Q => Q (fs.map fun f => V.ref (fA f)) H)) (TD X cA W (evD (evN T j) ix)) σ H (fun v H1 => ∃ (f : Nat) (x : Str), v = .ref (fA f) ∧ nm.fn[f]? = some x ∧ TAs X cA W (evArgs (evN T j) es) σ H1 fun vs H2 => spF X.K cA T j f vs H2 Q (WE W σ)) := by
    obtain ⟨F, Af, env, sr, p⟩ := h
    refine ⟨?_, fun a hp => ?_⟩
    · rw [List.length_map]
      have : (1000 : Nat) ≤ sizeLine := by decide
      omega
    · have p : PG X.K cA W (rO X.K) σ F H Af ((evD (evN T j) ix env).bind fun p => match p.1 with
        | .int i => if 0 ≤ i then match fs[i.toNat]? with
            | some f => (evArgs (evN T j) es p.2).bind fun q => callA T (exN T j) f q.1 q.2
            | none => .stuck
          else .stuck
        | _ => .stuck) Q := p
      have s1 := sr.newO (o := .lst (fs.map fun f => V.ref (fA f))) hp
      have t1 := (Stp.newO (F := F) (H := H) (Af := Af) (o := .lst (fs.map fun f => V.ref (fA f))) hp).drop
      refine PG.tg s1 (PG.bind (rep := rD X.K) (k := fun d env => match d with
        | .int i => if 0 ≤ i then match fs[i.toNat]? with
            | some f => (evArgs (evN T j) es env).bind fun q => callA T (exN T j) f q.1 q.2
            | none => .stuck
          else .stuck
        | _ => .stuck) (PG.step t1 p) fun d env1 w F1 H1 Af1 C1 _ s2 t2 r2 nd2 un2 q2 => ?_)
      cases d with
      | int i =>
        have q2 : PG X.K cA W (rO X.K) σ F1 H1 Af1 (if 0 ≤ i then match fs[i.toNat]? with
            | some f => (evArgs (evN T j) es env1).bind fun q => callA T (exN T j) f q.1 q.2
            | none => .stuck
          else .stuck) Q := q2
        split at q2
        · rename_i h0
          cases hfi : fs[i.toNat]? with
          | none => rw [hfi] at q2; exact q2.elim
          | some f =>
            rw [hfi] at q2
            obtain ⟨x, hx⟩ := fs_at hf hfi
            cases r2.2.int_inv
            have hown : ¬ Own Af a := fun z => (sr.own_th z).1 hp
            have hl := t2.frame a _ (upd_same (H := H) (a := a)) hown
            refine ⟨a, _, i, V.ref (fA f), rfl, rfl, SqL.of hl, ?_, f, x, rfl, hx, PG.tg s2 (PG.bind (rep := rAs X.K σ) (k := fun as env => callA T (exN T j) f as env) q2 fun as env3 vs F3 H3 Af3 C3 _ s3 t3 r3 nd3 un3 q3 => ?_)⟩
            · have e : (fs.map fun f => V.ref (fA f))[i.toNat]? = some (V.ref (fA f)) := by rw [List.getElem?_map, hfi]; rfl
              have := L2.atI_nat e
              rwa [show ((i.toNat : Nat) : Int) = i from Int.toNat_of_nonneg h0] at this
            · exact call_sp s3 r3.2 q3 fun _ _ _ h => h
        · exact q2.elim
      | _ => exact q2.elim
  refine Call_ (thn (hfun.run pins s σ H _ I key) fun v s1 ⟨x, H1, I1, r1, q1⟩ => ?_)
  obtain ⟨f, nme, rfl, hfn, q1⟩ := q1
  obtain ⟨fd, ps, m1, m2, m3, m4⟩ := hX.fns j (Nat.lt_succ_self j) f nme hfn
  have r1 : v = .ref (fA f) := r1
  subst r1
  refine PySem.W.callWith_K (h₀ := X.base) I1.ok.mod.kin m2 (thn (ha.run pos pins s1 σ H1 _ I1 q1) fun us s2 ⟨vs, H2, I2, r, q⟩ => ⟨I2.kIn, ?_⟩) (star1 hs.1 _ _) (nostars hs.2)
  exact run_fnS m4 (hX.room.mono (Nat.le_refl _)) m3 (L2N.passAt hX.tk σ) I2 r q
theorem RAs.vals {σ : L2.St} {F : Hp} : ∀ {vs : List V} {ds : List D}, RepAll X.K F vs ds → RAs X.K σ F vs (ds.map fun d => ((none : Option Nat), d))
  | _, _, .nil => .nil
  | _, _, .cons h r => .val h (RAs.vals r)
/-- a call whose arguments are a list's or a tuple's items -/
theorem e_callS {j f : Nat} {x : Str} {e : E} {b : Expr} {p0 p1 pos : Pos} (hX : At nm T cA fA (j + 1) W X) (hx : isGl nm.fn X.env.scope f x = true) (hb : PE X b (TO X cA W (evN T j e))) :
    PE X (.Call (.Name x p0) [.Starred b p1] [] pos) (TO X cA W (stepE T (evN T j) (exN T j) (.callS f e))) := by
  obtain ⟨h1, h2, h3⟩ := isGl_spec hx
  obtain ⟨fd, ps, m1, m2, m3, m4⟩ := hX.fns j (Nat.lt_succ_self j) f x h1
  refine ⟨fun pins s σ H Q I h => ?_⟩
  have key : TD X cA W (evD (evN T j) e) σ H (fun y H1 => ∃ a xs, y = V.ref a ∧ (SqT X.K H1 a xs ∨ SqL X.K H1 a xs) ∧ spF X.K cA T j f xs H1 Q (WE W σ)) := by
    refine TG.bind (rep := rD X.K) (r := evD (evN T j) e) (k := fun d env => match seq? d with
      | some ds => callA T (exN T j) f (ds.map fun d => (none, d)) env
      | none => .stuck) h fun d env1 v F1 H1 Af1 C s1 r1 nd un q => ?_
    cases d with
    | list ds =>
      obtain ⟨a, xs, rfl, e2, e3⟩ := r1.2.lst_inv
      exact ⟨a, xs, rfl, .inr (SqL.of (s1.ex _ _ e2)), call_sp s1 (RAs.vals e3) q fun _ _ _ h => h⟩
    | tuple ds =>
      obtain ⟨a, xs, rfl, e2, e3⟩ := r1.2.tup_inv
      exact ⟨a, xs, rfl, .inl (ex_t s1.ex e2), call_sp s1 (RAs.vals e3) q fun _ _ _ h => h⟩
    | _ => exact q.elim
  refine wpAny_Call_Name_kw (ld_glob I h2 m1 ?_ h3)
  refine PySem.W.callWith_S (h₀ := X.base) I.ok.mod.kin m2 (thn (hb.toD.run pins s σ H _ I key) fun v s1 ⟨y, H1, I1, ry, a, xs, ey, hxs, q⟩ => ?_) rfl
  subst ey
  obtain rfl : v = Value.ref a := ry
  exact StX.star_any I1 hxs fun us s2 I2 rv => ⟨I2.kIn, run_fnS m4 (hX.room.mono (Nat.le_refl _)) m3 (L2N.passAt hX.tk σ) I2 rv q⟩
end
end Ev

end
section
set_option autoImplicit false
set_option linter.all false
set_option maxRecDepth 100000
/-! Statements. -/
namespace Ev
open PySem L2 PyProof.Rows RZ

section
variable (K : PySem.W.Frag) (cA : Nat → Addr) (W : WX)
def PF (is : List Nat) (σ : L2.St) (F H : Hp) (Af : Nat → List Addr) (R : Res (Fl × Env)) (D : Ends) : Prop :=
  match R with
  | .ok (.next, env') => ∀ (σ' : L2.St) (F' H' : Hp) (Af' : Nat → List Addr), Same is σ σ' → SR K F' H' σ' env' Af' → Stp F H Af F' H' Af' [] → D.nx σ' H'
  | .ok (.brk, env') => ∀ (σ' : L2.St) (F' H' : Hp) (Af' : Nat → List Addr), Same is σ σ' → SR K F' H' σ' env' Af' → Stp F H Af F' H' Af' [] → D.bk σ' H'
  | .ok (.cont, env') => ∀ (σ' : L2.St) (F' H' : Hp) (Af' : Nat → List Addr), Same is σ σ' → SR K F' H' σ' env' Af' → Stp F H Af F' H' Af' [] → D.ct σ' H'
  | .ok (.ret o, env') => ∀ (v : V) (σ' : L2.St) (F' H' : Hp) (Af' : Nat → List Addr) (C : List Addr), Same is σ σ' → SR K F' H' σ' env' Af' → Stp F H Af F' H' Af' C → RO K F' H' v o C → C.Nodup → (∀ x ∈ C, F' x = none ∧ ¬ Own Af' x) → D.rt v H'
  | .err c => ∀ σ' : L2.St, ErrW cA W σ' F H Af c
  | .stuck => False
def TF (is : List Nat) (r : Env → Res (Fl × Env)) : TS := fun D σ H => ∃ F Af env, SR K F H σ env Af ∧ PF K cA W is σ F H Af (r env) D
end
section
variable {K : PySem.W.Frag} {cA : Nat → Addr} {W : WX} {F F' H H' : Hp} {σ σ' : L2.St} {env env' : Env} {Af Af' : Nat → List Addr} {is js : List Nat} {D : Ends}
theorem Same.then {is js : List Nat} {σ1 σ2 σ3 : L2.St} (a : Same is σ1 σ2) (b : Same js σ2 σ3) (h : ∀ i ∈ is, i ∈ js) : Same js σ1 σ3 := (a.trans b).mono fun i hi => (List.mem_append.mp hi).elim (h i) id
theorem PF.step {R : Res (Fl × Env)} {σ1 : L2.St} {F1 H1 : Hp} {Af1 : Nat → List Addr} (hj : ∀ i ∈ js, i ∈ is) (m : Same js σ σ1) (t : Stp F H Af F1 H1 Af1 []) (h : PF K cA W is σ F H Af R D) : PF K cA W is σ1 F1 H1 Af1 R D := by
  cases R with
  | stuck => exact h
  | err c => exact fun σ' => ErrW.step t (h σ')
  | ok p =>
    obtain ⟨fl, env'⟩ := p
    cases fl with
    | next => exact fun σ' F' H' Af' m2 s t2 => h σ' F' H' Af' (m.then m2 hj) s (t.trans t2)
    | brk => exact fun σ' F' H' Af' m2 s t2 => h σ' F' H' Af' (m.then m2 hj) s (t.trans t2)
    | cont => exact fun σ' F' H' Af' m2 s t2 => h σ' F' H' Af' (m.then m2 hj) s (t.trans t2)
    | ret o => exact fun v σ' F' H' Af' C m2 s t2 r nd un => h v σ' F' H' Af' C (m.then m2 hj) s (t.trans t2) r nd un
theorem PF.mono {R : Res (Fl × Env)} (hj : ∀ i ∈ js, i ∈ is) (h : PF K cA W is σ F H Af R D) : PF K cA W js σ F H Af R D := by
  cases R with
  | stuck => exact h
  | err c => exact h
  | ok p =>
    obtain ⟨fl, env'⟩ := p
    cases fl with
    | next => exact fun σ' F' H' Af' m2 s t2 => h σ' F' H' Af' (m2.mono hj) s t2
    | brk => exact fun σ' F' H' Af' m2 s t2 => h σ' F' H' Af' (m2.mono hj) s t2
    | cont => exact fun σ' F' H' Af' m2 s t2 => h σ' F' H' Af' (m2.mono hj) s t2
    | ret o => exact fun v σ' F' H' Af' C m2 s t2 r nd un => h v σ' F' H' Af' C (m2.mono hj) s t2 r nd un
/-- an expression, then the rest -/
theorem PF.bind {α β : Type} {rep : Rp α β} {R : Res (α × Env)} {k : α → Env → Res (Fl × Env)} {Q1 : β → Hp → Prop} (h : PF K cA W is σ F H Af (R.bind fun p => k p.1 p.2) D)
    (hQ : ∀ (a : α) (env1 : Env) (b : β) (F1 H1 : Hp) (Af1 : Nat → List Addr) (C : List Addr), SR K F1 H1 σ env1 Af1 → Stp F H Af F1 H1 Af1 C → rep F1 H1 b a C → C.Nodup → (∀ x ∈ C, F1 x = none ∧ ¬ Own Af1 x) →
      PF K cA W is σ F1 H1 Af1 (k a env1) D → Q1 b H1) : PG K cA W rep σ F H Af R Q1 := by
  cases R with
  | stuck => exact h
  | err c => exact h σ
  | ok p => exact fun b F1 H1 Af1 C s t r nd un => hQ p.1 p.2 b F1 H1 Af1 C s t r nd un (PF.step (js := []) (fun _ z => nomatch z) (Same.refl _ _) t.drop h)
theorem TF.bind {α β : Type} {rep : Rp α β} {r : Env → Res (α × Env)} {k : α → Env → Res (Fl × Env)} {Q1 : β → Hp → Prop} (h : TF K cA W is (fun env => (r env).bind fun p => k p.1 p.2) D σ H)
    (hQ : ∀ (a : α) (env1 : Env) (b : β) (F1 H1 : Hp) (Af1 : Nat → List Addr) (C : List Addr), SR K F1 H1 σ env1 Af1 → rep F1 H1 b a C → C.Nodup → (∀ x ∈ C, F1 x = none ∧ ¬ Own Af1 x) →
      PF K cA W is σ F1 H1 Af1 (k a env1) D → Q1 b H1) : TG K cA W rep r σ H Q1 := by
  obtain ⟨F, Af, env, s, p⟩ := h
  exact ⟨F, Af, env, s, p.bind fun a env1 b F1 H1 Af1 C s1 t1 r1 nd un q => hQ a env1 b F1 H1 Af1 C s1 r1 nd un q⟩
theorem PF.tf {r : Env → Res (Fl × Env)} (s : SR K F H σ env Af) (h : PF K cA W is σ F H Af (r env) D) : TF K cA W is r D σ H := ⟨F, Af, env, s, h⟩

/-! freezing slots -/
theorem SR.freeze1 (s : SR K F H σ env Af) {i : Nat} {o : O} (e : (env[i]?).join = some o) (ht : o.tree = true) : ∃ F', SR K F' H σ (setO env i (.val o.toD)) (fun j => if j = i then [] else Af j) ∧ Stp F H Af F' H (fun j => if j = i then [] else Af j) [] := by
  obtain ⟨v, h1, h2⟩ := s.at_ i o (join_some e)
  have un : ∀ x ∈ Af i, F x = none := fun x h => s.un i x h
  have hex : Ex F (Ev.fz F H (Af i)) := fz_ex un
  have hle : Ex (Ev.fz F H (Af i)) H := fz_le s.ex
  refine ⟨Ev.fz F H (Af i), ⟨hle, by unfold setO; rw [List.length_set]; exact s.len, fun j u q => ?_, fun j => ?_, fun j k a h1 h2 => ?_, fun j a h => ?_, fun j a h => ?_⟩, ⟨hex, fun _ _ h _ => h, fun _ h => h, fun a h => ?_, fun a h => .inl ((Less.set i).own h), fun _ h => (nomatch h)⟩⟩
  · rcases getElem_set q with ⟨rfl, _, q⟩ | ⟨hj, q⟩
    · cases q
      refine ⟨v, h1, ?_⟩
      rw [if_pos rfl]
      exact .val (h2.freeze hex (fun a ha => fz_at ha) ht)
    · obtain ⟨w, w1, w2⟩ := s.at_ j u q
      refine ⟨w, w1, ?_⟩
      rw [if_neg hj]
      exact w2.mono hex fun _ _ => rfl
  · show (if j = i then [] else Af j).Nodup
    split
    · exact .nil
    · exact s.nd j
  · have h1 : a ∈ (if j = i then [] else Af j) := h1
    have h2 : a ∈ (if k = i then [] else Af k) := h2
    split at h1 <;> split at h2
    · cases h1
    · cases h1
    · cases h2
    · exact s.dj _ _ a h1 h2
  · have h : a ∈ (if j = i then [] else Af j) := h
    split at h
    · cases h
    · rename_i hj
      unfold Ev.fz
      rw [if_neg fun z => hj (s.dj j i a h z)]
      exact s.un j a h
  · have h : a ∈ (if j = i then [] else Af j) := h
    split at h
    · cases h
    · exact s.th j a h
  · unfold Ev.fz at h
    split at h
    · rename_i ha; exact .inr (.inr ⟨i, ha⟩)
    · exact .inl h
theorem SR.freezeAt (s : SR K F H σ env Af) : ∀ is : List Nat, ∃ F' Af', SR K F' H σ (freezeAt env is) Af' ∧ Stp F H Af F' H Af' []
  | [] => ⟨F, Af, s, Stp.refl⟩
  | i :: is => by
    obtain ⟨F1, Af1, s1, t1⟩ := s.freezeAt is
    unfold Ev.freezeAt
    split
    · rename_i o e
      split
      · rename_i ht
        obtain ⟨F2, s2, t2⟩ := s1.freeze1 e ht
        exact ⟨F2, _, s2, t1.trans t2⟩
      · exact ⟨F1, Af1, s1, t1⟩
    · exact ⟨F1, Af1, s1, t1⟩
end
section
variable {nm : Names} {T : Tab} {cA fA : Nat → Addr} {n : Nat} {W : WX} {X : Cx} {ev : E → Env → Res (O × Env)} {exs : List S → Env → Res (Fl × Env)}
/-- what stands where statements stand -/
structure AtF (nm : Names) (T : Tab) (cA fA : Nat → Addr) (n : Nat) (W : WX) (X : Cx) : Prop extends At nm T cA fA n W X where
  kind : X.env.scope.kind = .function
  cel : ∀ x, locB X.env.scope x = true → Loc X.env.scope x ∧ (X.fn x = true ∨ X.env.scope.names.lookup x = some .local)
  po : PassesOwn (model X.prog X.w) X.A X.env X.xe
  stk : X.stack = X.env :: X.outer
  frm : X.env.frame = some X.env.locals
abbrev TS' (X : Cx) (cA : Nat → Addr) (W : WX) (is : List Nat) (r : Env → Res (Fl × Env)) : TS := TF X.K cA W is r
theorem s_asg {t : Tgt} {e : E} {te : TE} {σ : L2.St} {H : Hp} {D : Ends} (he : ∀ σ H Q, TD X cA W (evD ev e) σ H Q → te σ H Q) (h : TS' X cA W (tslots t) (one T ev exs (.asg t e)) D σ H) : tAsg te (gT X.K t) D σ H := by
  refine he _ _ _ (TF.bind (rep := rD X.K) (r := evD ev e) (k := fun d env => match assignT t d env with | some env' => .ok (.next, env') | none => .stuck) h fun d env1 v F1 H1 Af1 C s1 r1 nd un q => ?_)
  cases ha : assignT t d env1 with
  | none => rw [ha] at q; exact q.elim
  | some env2 =>
    rw [ha] at q
    exact gT_ok t ha s1 r1.2 fun σ' Af' s2 l m => q σ' F1 H1 Af' m s2 (Stp.less l)
theorem Stp.own {F H F' H' : Hp} {Af Af' : Nat → List Addr} {C : List Addr} (t : Stp F H Af F' H' Af' C) (i : Nat) : Stp F H Af F' H' (fun j => if j = i then C else Af' j) [] :=
  ⟨t.ex, t.frame, t.dom, t.prF, fun a ⟨j, h⟩ => by
    have h : a ∈ (if j = i then C else Af' j) := h
    split at h
    · exact t.prC a h
    · exact t.prA a ⟨j, h⟩, fun _ h => (nomatch h)⟩
theorem s_asgO {i : Nat} {e : E} {te : TE} {σ : L2.St} {H : Hp} {D : Ends} (he : ∀ σ H Q, TO X cA W (ev e) σ H Q → te σ H Q) (h : TS' X cA W [i] (one T ev exs (.asgO i e)) D σ H) : tAsg te (gName i) D σ H := by
  obtain ⟨F, Af, env, s, p⟩ := h
  have p : PF X.K cA W [i] σ F H Af ((ev e env).bind fun p => if i < p.2.length then .ok (.next, setO p.2 i p.1) else .stuck) D := p
  refine he _ _ _ ⟨F, Af, env, s, ?_⟩
  cases hz : ev e env with
  | stuck => rw [hz] at p; exact p
  | err c => rw [hz] at p; exact p σ
  | ok z =>
    obtain ⟨o, env1⟩ := z
    rw [hz] at p
    simp only [Res.bind] at p
    split at p
    · rename_i hi
      exact fun v F1 H1 Af1 C s1 t1 r1 nd un => p _ F1 H1 _ (Same.set i _ σ) (s1.set hi r1 nd un) (t1.own i)
    · exact p.elim
end
end Ev

end
section
set_option autoImplicit false
set_option linter.all false
set_option maxRecDepth 100000
/-! Statements: the rules. -/
namespace Ev
open PySem L2 PyProof.Rows RZ

def rOs (K : PySem.W.Frag) : Rp (List O) (List V) := fun F H vs os C => ROs K F H vs os C
section
variable {K : PySem.W.Frag} {cA : Nat → Addr} {W : WX} {F F' H H' : Hp} {σ σ' : L2.St} {env env' : Env} {Af Af' : Nat → List Addr} {is js : List Nat} {D : Ends}
theorem Stp.both {F1 H1 F2 H2 : Hp} {Af1 Af2 : Nat → List Addr} {C1 C2 : List Addr} (s : Stp F H Af F1 H1 Af1 C1) (t : Stp F1 H1 Af1 F2 H2 Af2 C2) : Stp F H Af F2 H2 Af2 (C1 ++ C2) := by
  have q := s.trans t
  exact ⟨q.ex, q.frame, q.dom, q.prF, q.prA, fun a h => (List.mem_append.mp h).elim (s.prC a) (q.prC a)⟩
def setAll : L2.St → List Nat → List V → L2.St
  | σ, i :: is, v :: vs => setAll (σ.set i (some v)) is vs
  | σ, _, _ => σ
theorem SR.par : ∀ {is : List Nat} {os : List O} {vs : List V} {C : List Addr} {σ : L2.St} {env env' : Env} {Af : Nat → List Addr}, SR K F H σ env Af → ROs K F H vs os C → parAsg is os env = some env' → C.Nodup → (∀ x ∈ C, F x = none ∧ ¬ Own Af x) →
    ∃ Af', SR K F H (setAll σ is vs) env' Af' ∧ (∀ a, Own Af' a → Own Af a ∨ a ∈ C) ∧ Same is σ (setAll σ is vs)
  | [], [], _, _, σ, env, env', Af, s, .nil, e, nd, un => by
    cases e
    exact ⟨Af, s, fun a h => .inl h, Same.refl _ _⟩
  | [], _ :: _, _, _, _, _, _, _, _, _, e, _, _ => by cases e
  | _ :: _, [], _, _, _, _, _, _, _, _, e, _, _ => by cases e
  | i :: is, o :: os, _, _, σ, env, env', Af, s, .cons (v := v) (vs := vs) (C := C1) (C' := C2) h r, e, nd, un => by
    have e : (if i < env.length then parAsg is os (setO env i o) else none) = some env' := e
    split at e
    · rename_i hi
      obtain ⟨n1, n2, n3⟩ := List.nodup_append.mp nd
      have s1 := s.set hi h n1 fun x hx => un x (List.mem_append_left _ hx)
      obtain ⟨Af', s', o', m'⟩ := SR.par s1 r e n2 fun x hx => ⟨(un x (List.mem_append_right _ hx)).1, fun ⟨j, hj⟩ => by
        have hj : x ∈ (if j = i then C1 else Af j) := hj
        split at hj
        · exact n3 x hj x hx rfl
        · exact (un x (List.mem_append_right _ hx)).2 ⟨j, hj⟩⟩
      refine ⟨Af', s', fun a ha => ?_, (Same.set i _ σ).trans m'⟩
      rcases o' a ha with ⟨j, hj⟩ | hj
      · have hj : a ∈ (if j = i then C1 else Af j) := hj
        split at hj
        · exact .inr (List.mem_append_left _ hj)
        · exact .inl ⟨j, hj⟩
      · exact .inr (List.mem_append_right _ hj)
    · cases e
end
section
variable {nm : Names} {T : Tab} {cA fA : Nat → Addr} {n : Nat} {W : WX} {X : Cx} {ev : E → Env → Res (O × Env)} {exs : List S → Env → Res (Fl × Env)}
theorem e_ow {e : E} {a : Expr} (b : Bool) (h : PE X a (TO X cA W (ev e))) : PE X a (TO X cA W (fun env => if b then ev e env else (evD ev e env).bind fun p => .ok (.val p.1, p.2))) := by
  cases b with
  | true => exact h
  | false => exact h.toD.mono fun σ H Q ⟨F, Af, env, s, p⟩ => ⟨F, Af, env, s, PG.ofD p⟩
abbrev TOs (X : Cx) (cA : Nat → Addr) (W : WX) (r : Env → Res (List O × Env)) : TA := TG X.K cA W (rOs X.K) r
theorem a_os (hX : At nm T cA fA n W X) {chk : Scope → E → Expr → Bool} (HE : ∀ e a, chk X.env.scope e a = true → PE X a (TO X cA W (ev e))) : ∀ (bs : List Bool) (es : List E) (as : List Expr), chkPP chk X.env.scope es as = true → PA X as (TOs X cA W (evOs ev bs es)) ∧ as.all noStar = true
  | bs, [], [], _ => ⟨pa_nil.mono fun σ H Q ⟨F, Af, env, s, p⟩ => by
    have p : PG X.K cA W (rOs X.K) σ F H Af (.ok ([], env)) Q := by cases bs <;> exact p
    exact PG.now (rep := rOs X.K) p s .nil, rfl⟩
  | _, [], _ :: _, h => by cases h
  | _, _ :: _, [], h => by cases h
  | [], e :: es, a :: as, h => by
    have h : (noStar a && (chk X.env.scope e a && chkPP chk X.env.scope es as)) = true := h
    simp only [Bool.and_eq_true] at h
    obtain ⟨k1, k2⟩ := a_os hX HE [] es as h.2.2
    exact ⟨(pa_cons (HE e a h.2.1) k1 (star1 h.1 _ _)).mono fun σ H Q ⟨F, Af, env, s, p⟩ => p.elim, by rw [List.all_cons, k2, h.1]; rfl⟩
  | b :: bs, e :: es, a :: as, h => by
    have h : (noStar a && (chk X.env.scope e a && chkPP chk X.env.scope es as)) = true := h
    simp only [Bool.and_eq_true] at h
    obtain ⟨k1, k2⟩ := a_os hX HE bs es as h.2.2
    refine ⟨(pa_cons (e_ow b (HE e a h.2.1)) k1 (star1 h.1 _ _)).mono fun σ H Q ⟨F, Af, env, s, p⟩ => ⟨F, Af, env, s, ?_⟩, by rw [List.all_cons, k2, h.1]; rfl⟩
    have p : PG X.K cA W (rOs X.K) σ F H Af (((if b then ev e env else (evD ev e env).bind fun p => .ok (O.val p.1, p.2))).bind fun p => (evOs ev bs es p.2).bind fun q => .ok (p.1 :: q.1, q.2)) Q := p
    show PG X.K cA W (rO X.K) σ F H Af (if b then ev e env else (evD ev e env).bind fun p => .ok (O.val p.1, p.2)) _
    generalize hz : (if b then ev e env else (evD ev e env).bind fun p => .ok (O.val p.1, p.2)) = z at p ⊢
    cases z with
    | stuck => exact p
    | err c => exact p
    | ok z =>
      obtain ⟨o, env1⟩ := z
      intro v F1 H1 Af1 C1 s1 t1 r1 nd1 un1
      refine ⟨F1, Af1, env1, s1, ?_⟩
      have p : PG X.K cA W (rOs X.K) σ F H Af ((evOs ev bs es env1).bind fun q => .ok (o :: q.1, q.2)) Q := p
      cases hz2 : evOs ev bs es env1 with
      | stuck => rw [hz2] at p; exact p
      | err c => rw [hz2] at p; exact ErrW.step t1 p
      | ok z2 =>
        obtain ⟨os, env2⟩ := z2
        rw [hz2] at p
        intro vs F2 H2 Af2 C2 s2 t2 r2 nd2 un2
        have r1 : RO X.K F1 H1 v o C1 := r1
        have hne : ∀ x ∈ C1, H1 x ≠ none := fun x hx => by
          rcases r1.there x hx with ⟨xs, q⟩ | ⟨xs, q⟩ <;> rw [q] <;> exact fun z => nomatch z
        have kp : ∀ x ∈ C1, H2 x = H1 x := fun x hx => by
          cases q : H1 x with
          | none => exact absurd q (hne x hx)
          | some u => exact t2.frame x u q (un1 x hx).2
        have dj : ∀ x ∈ C1, x ∉ C2 := fun x hx hy => by
          rcases t2.prC x hy with q | q
          · exact (un1 x hx).2 q
          · exact hne x hx q
        refine p (v :: vs) F2 H2 Af2 (C1 ++ C2) s2 (t1.both t2) (.cons (r1.mono t2.ex kp) r2) (List.nodup_append.mpr ⟨nd1, nd2, fun a ha b hb hab => dj a ha (hab ▸ hb)⟩) fun x hx => ?_
        rcases List.mem_append.mp hx with hx | hx
        · refine ⟨Classical.byContradiction fun q => ?_, fun q => ?_⟩
          · rcases t2.prF x q with q | q | q
            · exact q (un1 x hx).1
            · exact hne x hx q
            · exact (un1 x hx).2 q
          · rcases t2.prA x q with q | q
            · exact (un1 x hx).2 q
            · exact hne x hx q
        · exact un2 x hx
theorem s_par {is : List Nat} {own : List Bool} {es : List E} {σ : L2.St} {H : Hp} {D : Ends} (h : TS' X cA W is (one T ev exs (.par is own es)) D σ H) : TOs X cA W (evOs ev own es) σ H (fun vs H1 => vs.length = is.length ∧ D.nx (setAll σ is vs) H1) := by
  obtain ⟨F, Af, env, s, p⟩ := h
  have p : PF X.K cA W is σ F H Af ((evOs ev own es env).bind fun p => match parAsg is p.1 p.2 with
    | some env' => .ok (.next, env')
    | none => .stuck) D := p
  refine ⟨F, Af, env, s, ?_⟩
  cases hz : evOs ev own es env with
  | stuck => rw [hz] at p; exact p
  | err c => rw [hz] at p; exact p σ
  | ok z =>
    obtain ⟨os, env1⟩ := z
    rw [hz] at p
    intro vs F1 H1 Af1 C s1 t1 r1 nd un
    have r1 : ROs X.K F1 H1 vs os C := r1
    have p : PF X.K cA W is σ F H Af (match parAsg is os env1 with
      | some env' => .ok (.next, env')
      | none => .stuck) D := p
    cases ha : parAsg is os env1 with
    | none => rw [ha] at p; exact p.elim
    | some env2 =>
      rw [ha] at p
      obtain ⟨Af', s', o', m'⟩ := SR.par s1 r1 ha nd un
      refine ⟨?_, p _ F1 H1 Af' m' s' ⟨t1.ex, t1.frame, t1.dom, t1.prF, fun a h => ?_, fun _ h => nomatch h⟩⟩
      · have : ∀ {is : List Nat} {os : List O} {env env' : Env}, parAsg is os env = some env' → os.length = is.length := by
          intro is
          induction is with
          | nil => intro os env env' h; cases os with
            | nil => rfl
            | cons => cases h
          | cons i is ih => intro os env env' h; cases os with
            | nil => cases h
            | cons o os =>
              have h : (if i < env.length then parAsg is os (setO env i o) else none) = some env' := h
              split at h
              · rw [List.length_cons, List.length_cons, ih h]
              · cases h
        rw [r1.length, this ha]
      · rcases o' a h with q | q
        · exact t1.prA a q
        · exact t1.prC a q
theorem s_expr {e : E} {σ : L2.St} {H : Hp} {D : Ends} (h : TS' X cA W [] (one T ev exs (.expr e)) D σ H) : tDrop (TO X cA W (ev e)) D σ H := by
  refine TF.bind (rep := rO X.K) (r := ev e) (k := fun _ env => .ok (.next, env)) h fun o env1 v F1 H1 Af1 C s1 r1 nd un q => ?_
  exact q σ F1 H1 Af1 (Same.refl _ _) s1 Stp.refl
theorem s_ret {e : E} {σ : L2.St} {H : Hp} {D : Ends} (h : TS' X cA W [] (one T ev exs (.ret e)) D σ H) : tRet (TD X cA W (evD ev e)) D σ H := by
  refine TF.bind (rep := rD X.K) (r := evD ev e) (k := fun d env => .ok (.ret (.val d), env)) h fun d env1 v F1 H1 Af1 C s1 r1 nd un q => ?_
  exact q v σ F1 H1 Af1 [] (Same.refl _ _) s1 Stp.refl (.val r1.2) .nil fun _ z => nomatch z
theorem s_retO {e : E} {σ : L2.St} {H : Hp} {D : Ends} (h : TS' X cA W [] (one T ev exs (.retO e)) D σ H) : tRet (TO X cA W (ev e)) D σ H := by
  obtain ⟨F, Af, env, s, p⟩ := h
  have p : PF X.K cA W [] σ F H Af ((ev e env).bind fun p => .ok (.ret p.1, p.2)) D := p
  refine ⟨F, Af, env, s, ?_⟩
  cases hz : ev e env with
  | stuck => rw [hz] at p; exact p
  | err c => rw [hz] at p; exact p σ
  | ok z =>
    rw [hz] at p
    exact fun v F1 H1 Af1 C s1 t1 r1 nd un => p v σ F1 H1 Af1 C (Same.refl _ _) s1 t1 r1 nd un
theorem s_if {c : E} {a b : List S} {σ : L2.St} {H : Hp} {D : Ends} (h : TS' X cA W (asgds a ++ asgds b) (one T ev exs (.ifS c a b)) D σ H) : tIfS (TT' X cA W (truthE ev c)) (TS' X cA W (asgds a) (exs a)) (TS' X cA W (asgds b) (exs b)) D σ H := by
  refine TF.bind (rep := rB) (r := truthE ev c) (k := fun k env => if k then exs a env else exs b env) h fun k env1 k' F1 H1 Af1 C s1 r1 nd un q => ?_
  obtain rfl : k' = k := r1.2
  -- the slots that the other suite sets stay too
  have ms : ∀ (z : List Nat) (R : Res (Fl × Env)), (∀ i ∈ z, i ∈ asgds a ++ asgds b) → PF X.K cA W (asgds a ++ asgds b) σ F1 H1 Af1 R D → PF X.K cA W z σ F1 H1 Af1 R D := fun z R hz p => PF.mono hz p
  cases k' with
  | true => exact PF.tf s1 (ms _ _ (fun i hi => List.mem_append_left _ hi) q)
  | false => exact PF.tf s1 (ms _ _ (fun i hi => List.mem_append_right _ hi) q)
theorem s_for {t : Tgt} {it : I} {b : List S} {σ : L2.St} {H : Hp} {D : Ends} (h : TS' X cA W (tslots t ++ asgds b) (one T ev exs (.forS t it b)) D σ H) : tFor (TIt X cA W (items ev it)) (gT X.K t) (TS' X cA W (asgds b) (exs b)) D σ H := by
  refine TF.bind (rep := rIt X.K) (r := items ev it) (k := fun ds env => loopF (exs b) t ds env) h fun ds env1 J F1 H1 Af1 C s1 r1 nd un q => ?_
  refine ⟨fun i m σ' H' => m = ds.length - i ∧ i ≤ ds.length ∧ ∃ F' Af' env', SR X.K F' H' σ' env' Af' ∧ Ex F1 F' ∧ PF X.K cA W (tslots t ++ asgds b) σ' F' H' Af' (loopF (exs b) t (ds.drop i) env') D, ⟨ds.length, by simp, Nat.zero_le _, F1, Af1, env1, s1, Ex.refl _, q⟩, ?_⟩
  rintro i m σ2 H2 ⟨rfl, hi, F2, Af2, env2, s2, e2, q2⟩
  by_cases hlt : i < ds.length
  · refine .inr ⟨r1.2.go i F2 H2 e2 s2.ex hlt, fun σ' H' => i + 1 ≤ ds.length ∧ ∃ F' Af' env', SR X.K F' H' σ' env' Af' ∧ Ex F1 F' ∧ PF X.K cA W (tslots t ++ asgds b) σ' F' H' Af' (loopF (exs b) t (ds.drop (i + 1)) env') D,
      fun σ' H' w => ⟨ds.length - (i + 1), by omega, rfl, w⟩, fun x H3 y => ?_⟩
    have hdrop : ds.drop i = ds[i] :: ds.drop (i + 1) := List.drop_eq_getElem_cons hlt
    obtain ⟨F3, g, rx⟩ := r1.2.yld i F2 H2 x H3 ds[i] e2 s2.ex (List.getElem?_eq_getElem hlt) y
    rw [hdrop] at q2
    have q2 : PF X.K cA W (tslots t ++ asgds b) σ2 F2 H2 Af2 (match assignT t ds[i] env2 with
      | none => .stuck
      | some env1 => (exs b env1).bind fun p => match p.1 with
        | .next => loopF (exs b) t (ds.drop (i + 1)) p.2
        | .cont => loopF (exs b) t (ds.drop (i + 1)) p.2
        | .brk => .ok (.next, p.2)
        | .ret o => .ok (.ret o, p.2)) D := q2
    cases ha : assignT t ds[i] env2 with
    | none => rw [ha] at q2; exact q2.elim
    | some env3 =>
    rw [ha] at q2
    refine gT_ok t ha (s2.grow g) rx fun σ4 Af4 s4 l4 m4 => ?_
    have q4 := PF.step (js := tslots t) (fun i hi => List.mem_append_left _ hi) m4 ((Stp.grow g).trans (Stp.less l4)) q2
    refine ⟨F3, Af4, env3, s4, ?_⟩
    have hb : ∀ i ∈ asgds b, i ∈ tslots t ++ asgds b := fun i hi => List.mem_append_right _ hi
    cases he : exs b env3 with
    | stuck => simp only [he] at q4; exact q4
    | err c => simp only [he] at q4; exact q4
    | ok z =>
      obtain ⟨fl, env5⟩ := z
      simp only [he] at q4
      cases fl with
      | next => exact fun σ5 F5 H5 Af5 m5 s5 t5 => ⟨hlt, F5, Af5, env5, s5, (e2.trans g.f).trans t5.ex, PF.step (js := asgds b) hb m5 t5 q4⟩
      | cont => exact fun σ5 F5 H5 Af5 m5 s5 t5 => ⟨hlt, F5, Af5, env5, s5, (e2.trans g.f).trans t5.ex, PF.step (js := asgds b) hb m5 t5 q4⟩
      | brk => exact fun σ5 F5 H5 Af5 m5 s5 t5 => q4 σ5 F5 H5 Af5 (m5.mono hb) s5 t5
      | ret o => exact fun v σ5 F5 H5 Af5 C5 m5 s5 t5 r5 nd5 un5 => q4 v σ5 F5 H5 Af5 C5 (m5.mono hb) s5 t5 r5 nd5 un5
  · have e : i = ds.length := by omega
    subst e
    rw [List.drop_length] at q2
    exact .inl ⟨r1.2.stop F2 H2 e2 s2.ex, q2 σ2 F2 H2 Af2 (Same.refl _ _) s2 Stp.refl⟩
theorem s_while {c : E} {b : List S} {σ : L2.St} {H : Hp} {D : Ends} (h : TS' X cA W (asgds b) (one T ev exs (.whileS c b)) D σ H) : tWhile (TT' X cA W (truthE ev c)) (TS' X cA W (asgds b) (exs b)) D σ H := by
  obtain ⟨F, Af, env, s, p⟩ := h
  have p : PF X.K cA W (asgds b) σ F H Af (loopW (truthE ev c) (exs b) 100000 env) D := p
  refine ⟨fun m σ' H' => ∃ F' Af' env', SR X.K F' H' σ' env' Af' ∧ PF X.K cA W (asgds b) σ' F' H' Af' (loopW (truthE ev c) (exs b) m env') D, ⟨_, F, Af, env, s, p⟩, ?_⟩
  rintro m σ2 H2 ⟨F2, Af2, env2, s2, q2⟩
  cases m with
  | zero => exact q2.elim
  | succ k =>
    have q2 : PF X.K cA W (asgds b) σ2 F2 H2 Af2 ((truthE ev c env2).bind fun p => if p.1 then (exs b p.2).bind fun q => match q.1 with
        | .next => loopW (truthE ev c) (exs b) k q.2
        | .cont => loopW (truthE ev c) (exs b) k q.2
        | .brk => .ok (.next, q.2)
        | .ret o => .ok (.ret o, q.2)
      else .ok (.next, p.2)) D := q2
    refine PG.tg s2 (PF.bind (rep := rB) (k := fun t env => if t then (exs b env).bind fun q => match q.1 with
        | .next => loopW (truthE ev c) (exs b) k q.2
        | .cont => loopW (truthE ev c) (exs b) k q.2
        | .brk => .ok (.next, q.2)
        | .ret o => .ok (.ret o, q.2)
      else .ok (.next, env)) q2 fun t env3 t' F3 H3 Af3 C s3 t3 r3 nd un q3 => ?_)
    obtain rfl : t' = t := r3.2
    cases t' with
    | false => exact q3 σ2 F3 H3 Af3 (Same.refl _ _) s3 Stp.refl
    | true =>
      refine ⟨fun σ' H' => ∃ F' Af' env', SR X.K F' H' σ' env' Af' ∧ PF X.K cA W (asgds b) σ' F' H' Af' (loopW (truthE ev c) (exs b) k env') D, fun σ' H' w => ⟨k, Nat.lt_succ_self k, w⟩, F3, Af3, env3, s3, ?_⟩
      simp only [if_true] at q3
      cases he : exs b env3 with
      | stuck => simp only [he] at q3; exact q3
      | err c => simp only [he] at q3; exact q3
      | ok z =>
        obtain ⟨fl, env5⟩ := z
        simp only [he] at q3
        cases fl with
        | next => exact fun σ5 F5 H5 Af5 m5 s5 t5 => ⟨F5, Af5, env5, s5, PF.step (js := asgds b) (fun i h => h) m5 t5 q3⟩
        | cont => exact fun σ5 F5 H5 Af5 m5 s5 t5 => ⟨F5, Af5, env5, s5, PF.step (js := asgds b) (fun i h => h) m5 t5 q3⟩
        | brk => exact fun σ5 F5 H5 Af5 m5 s5 t5 => q3 σ5 F5 H5 Af5 m5 s5 t5
        | ret o => exact fun v σ5 F5 H5 Af5 C5 m5 s5 t5 r5 nd5 un5 => q3 v σ5 F5 H5 Af5 C5 m5 s5 t5 r5 nd5 un5
/-- name op= e -/
theorem s_aug {i : Nat} {o : Op2} {e : E} {σ : L2.St} {H : Hp} {D : Ends} {f : Int → Int → Int} (ho : ∀ k j, augF o k j = some (f k j)) (h : TS' X cA W [i] (one T ev exs (.aug i o e)) D σ H) : tAug i (TD X cA W (evD ev e)) (ipI f) D σ H := by
  obtain ⟨F, Af, env, s, p0⟩ := h
  have p : PF X.K cA W [i] σ F H Af (match (env[i]?).join with
    | some (.val (.int k)) => (evD ev e env).bind fun z => match z.1 with
      | .int j => match augF o k j with
        | some r => .ok (.next, setO z.2 i (.val (.int r)))
        | none => .stuck
      | _ => .stuck
    | _ => .stuck) D := p0
  split at p
  · rename_i k ek
    obtain ⟨v, e1, r⟩ := s.rep ek
    cases r.int_inv
    refine ⟨_, e1, PG.tg s (PF.bind (rep := rD X.K) (k := fun d env => match d with
      | .int j => match augF o k j with
        | some r => .ok (.next, setO env i (.val (.int r)))
        | none => .stuck
      | _ => .stuck) p fun d env1 w F1 H1 Af1 C s1 t1 r1 nd un q => ?_)⟩
    have hi : i < env1.length := by
      have : i < σ.length := by
        rcases Nat.lt_or_ge i σ.length with h | h
        · exact h
        · rw [List.getElem?_eq_none h] at e1; cases e1
      rw [← s1.len]; exact this
    cases d with
    | int j =>
      cases r1.2.int_inv
      simp only [ho] at q
      exact ⟨k, j, rfl, rfl, q _ F1 H1 _ (Same.set i _ σ) (s1.set hi (.val (.int _)) .nil fun _ z => nomatch z) (Stp.less (Less.set i))⟩
    | _ => exact q.elim
  · exact p.elim
/-- x.append(e) -/
theorem s_app {i : Nat} {e : E} {σ : L2.St} {H : Hp} {D : Ends} (h : TS' X cA W [] (one T ev exs (.app i e)) D σ H) : tDrop (tBM X.K "list" rAppend (tVar i) (tCons (TD X cA W (evD ev e)) tNil)) D σ H := by
  obtain ⟨F, Af, env, s, p⟩ := h
  have p : PF X.K cA W [] σ F H Af (match (env[i]?).join with
    | some (.lst _) => (evD ev e env).bind fun p => match (p.2[i]?).join with
      | some (.lst xs) => if xs.length < most then .ok (.next, setO p.2 i (.lst (xs ++ [.val p.1]))) else .stuck
      | _ => .stuck
    | _ => .stuck) D := p
  split at p
  · rename_i os0 ek
    obtain ⟨a, vs, C, e1, e2, e3, r⟩ := s.own ek
    refine ⟨_, e1, .inl ⟨rfl, vs, SqL.of e2⟩, PG.tg s (PF.bind (rep := rD X.K) (k := fun d env => match (env[i]?).join with
      | some (.lst xs) => if xs.length < most then .ok (.next, setO env i (.lst (xs ++ [.val d]))) else .stuck
      | _ => .stuck) p fun d env1 w F1 H1 Af1 C s1 t1 r1 nd un q => ?_)⟩
    split at q
    · rename_i os ek1
      split at q
      · rename_i hz
        obtain ⟨a1, vs1, C1, f1, f2, f3, fr⟩ := s1.own ek1
        rw [e1] at f1
        cases f1
        refine ⟨_, vs1, w, rfl, rfl, f2, ?_, ?_⟩
        · rw [fr.length]
          have : most < sizeLine := by decide
          omega
        · exact q σ F1 _ Af1 (Same.refl _ _) (s1.setL ek1 e1 f2 f3 (ROs.append_val r1.2 fr)) (Stp.setL (i := i) (by rw [f3]; exact List.mem_cons_self))
      · exact q.elim
    · exact q.elim
  · exact p.elim
/-- x[j] = e -/
theorem s_setIx {i : Nat} {ix e : E} {σ : L2.St} {H : Hp} {D : Ends} (h : TS' X cA W [] (one T ev exs (.setIx i ix e)) D σ H) : tAsg (TD X cA W (evD ev e)) (gSub (tVar i) (TD X cA W (evD ev ix)) rSetL) D σ H := by
  refine TF.bind (rep := rD X.K) (r := evD ev e) (k := fun d env => match (env[i]?).join with
    | some _ => (evD ev ix env).bind fun q => match (q.2[i]?).join, q.1 with
      | some (.lst xs), .int k => if 0 ≤ k ∧ k < xs.length ∧ allVal xs = true then .ok (.next, setO q.2 i (.lst (xs.set k.toNat (.val d)))) else .stuck
      | _, _ => .stuck
    | none => .stuck) h fun d env1 v F1 H1 Af1 C s1 r1 nd un q => ?_
  cases ek : (env1[i]?).join with
  | none => rw [ek] at q; exact q.elim
  | some o0 =>
  rw [ek] at q
  obtain ⟨w0, e1, r0⟩ := s1.at_ i _ (join_some ek)
  refine ⟨w0, e1, PG.tg s1 (PF.bind (rep := rD X.K) (k := fun j env => match (env[i]?).join, j with
      | some (.lst xs), .int k => if 0 ≤ k ∧ k < xs.length ∧ allVal xs = true then .ok (.next, setO env i (.lst (xs.set k.toNat (.val d)))) else .stuck
      | _, _ => .stuck) q fun j env2 w F2 H2 Af2 C2 s2 t2 r2 nd2 un2 q2 => ?_)⟩
  split at q2
  · rename_i os k ek2
    split at q2
    · rename_i hz
      obtain ⟨h0, h1, hv⟩ := hz
      cases r2.2.int_inv
      obtain ⟨a1, vs1, C1, f1, f2, f3, fr⟩ := s2.own ek2
      rw [e1] at f1
      cases f1
      obtain ⟨rfl, ds, rfl, rd⟩ := fr.all_val hv
      have hl : vs1.length = (ds.map O.val).length := fr.length
      refine ⟨_, vs1, k, k.toNat, rfl, rfl, f2, ?_, ?_⟩
      · unfold ixN
        rw [hl, if_pos h0, if_pos h1]
      · refine q2 σ F2 _ Af2 (Same.refl _ _) (s2.setL ek2 e1 f2 f3 ?_) (Stp.setL (i := i) (by rw [f3]; exact List.mem_cons_self))
        have e : (ds.map O.val).set k.toNat (O.val d) = (ds.set k.toNat d).map O.val := by rw [List.map_set]
        rw [e]
        exact ROs.vals (rd.set k.toNat (r1.2.mono t2.ex))
    · exact q2.elim
  · exact q2.elim
end
end Ev

end
section
set_option autoImplicit false
set_option linter.all false
set_option maxRecDepth 100000
/-! The evaluator is sound: expressions. -/
namespace Ev
open PySem L2 PyProof.Rows RZ

section
variable {nm : Names} {T : Tab} {cA fA : Nat → Addr} {n : Nat} {W : WX} {X : Cx} {exs : List S → Env → Res (Fl × Env)}
/-- an expression, as a value, as a test, assigned -/
structure SE (X : Cx) (cA : Nat → Addr) (W : WX) (ev : E → Env → Res (O × Env)) (e : E) (a : Expr) : Prop where
  pe : PE X a (TO X cA W (ev e))
  pt : PT X a (TT' X cA W (truthE ev e))
  pw : ∀ op es p, a = .BoolOp op es p → PW X a (TT' X cA W (truthE ev e))
  as_ : ∀ (i : Nat) (y : Str) (py spos : Pos), noComp a = false → X.N[i]? = some y → X.env.scope.names.lookup y = some .local → swapsWith a (some (.Name y py)) spos.line X.env = pure true → PS X (.Assign [.Name y py] a spos) (tAsg (TO X cA W (ev e)) (gName i))
variable {ev : E → Env → Res (O × Env)}
theorem SE.dfl (hX : At nm T cA fA n W X) {e : E} {a : Expr} (hd : dflT a = true) (hc : noComp a = true) (pe : PE X a (TO X cA W (ev e))) : SE X cA W ev e a :=
  ⟨pe, t_dfl hX hd pe, (fun op es p h => by subst h; cases hd), (fun _ _ _ _ h => by rw [hc] at h; cases h)⟩
theorem pt_ite {t b d : Expr} {tc tb td : L2.TT} {pos : Pos} (hc : PT X t tc) (hb : PT X b tb) (hd : PT X d td) : PT X (.IfExp t b d pos) (fun σ H Q => tc σ H fun k H1 => if k = true then tb σ H1 Q else td σ H1 Q) := by
  refine ⟨fun pins s σ H Q I h => ?_⟩
  have e : PySem.isTrue (.IfExp t b d pos) X.env (eval (.IfExp t b d pos) X.env) = (PySem.isTrue t X.env (eval t X.env) >>= fun k => if k = true then PySem.isTrue b X.env (eval b X.env) else PySem.isTrue d X.env (eval d X.env)) := by rw [PySem.isTrue]
  rw [e]
  refine wpAny_bind (thn (hc.run pins s σ H _ I h) fun k s1 ⟨H1, I1, q1⟩ => ?_)
  cases k with
  | true => exact hb.run pins s1 σ H1 Q I1 q1
  | false => exact hd.run pins s1 σ H1 Q I1 q1
theorem t_ite (hX : At nm T cA fA n W X) {c x y : E} {t b d : Expr} {pos : Pos} (hc : PT X t (TT' X cA W (truthE ev c))) (hb : PT X b (TT' X cA W (truthE ev x))) (hd : PT X d (TT' X cA W (truthE ev y))) : PT X (.IfExp t b d pos) (TT' X cA W (truthE (stepE T ev exs) (.ite c x y))) := by
  refine (pt_ite hc hb hd).mono fun σ H Q h => ?_
  have h' : TT' X cA W (fun env => (truthE ev c env).bind fun p => if p.1 then truthE ev x p.2 else truthE ev y p.2) σ H Q := by
    refine (show truthE (stepE T ev exs) (.ite c x y) = fun env => (truthE ev c env).bind fun p => if p.1 then truthE ev x p.2 else truthE ev y p.2 from ?_) ▸ h
    funext env
    rw [truthE_eq, stepE_ite]
    cases truthE ev c env with
    | ok p =>
      obtain ⟨k, env1⟩ := p
      cases k <;> rfl
    | err c => rfl
    | stuck => rfl
  refine TG.bind (rep := rB) (r := truthE ev c) (k := fun k env => if k then truthE ev x env else truthE ev y env) h' fun d env1 v F1 H1 Af1 C s1 r1 nd un q => ?_
  obtain rfl : v = d := r1.2
  cases v with
  | true => exact PG.tg s1 q
  | false => exact PG.tg s1 q
theorem lookup_fst {g : Str × NameKind → NameKind} {x : Str} {k : NameKind} : ∀ {l : List (Str × NameKind)}, l.lookup x = some k → (∀ n, g (n, k) = k) → (l.map fun p => (p.1, g p)).lookup x = some k
  | [], h, _ => by cases h
  | (y, u) :: r, h, hg => by
    rw [List.lookup_cons] at h
    rw [List.map_cons, List.lookup_cons]
    by_cases e : (x == y) = true
    · simp only [e] at h ⊢
      cases h
      rw [hg]
    · have e : (x == y) = false := by simpa using e
      simp only [e] at h ⊢
      exact lookup_fst h hg
theorem relS_lookup {scope sc : Scope} {x : Str} {k : NameKind} (h : scope.names.lookup x = some k) (hk : k ≠ .free) : (relS scope sc).names.lookup x = some k := by
  unfold relS
  show (scope.names.map fun (n, k) => if (k == .free && sc.kind == .function && sc.names.lookup n == some .cell) then (n, .cell) else (n, k)).lookup x = some k
  have e : (fun (p : Str × NameKind) => match p with | (n, k) => if (k == NameKind.free && sc.kind == .function && sc.names.lookup n == some .cell) then (n, NameKind.cell) else (n, k)) =
      fun p => (p.1, if (p.2 == NameKind.free && sc.kind == .function && sc.names.lookup p.1 == some .cell) then NameKind.cell else p.2) := by
    funext ⟨n, k⟩
    dsimp only
    split <;> rfl
  rw [e]
  refine lookup_fst h fun n => ?_
  have hf : (k == NameKind.free) = false := by cases k <;> first | rfl | exact absurd rfl hk
  show (if (k == NameKind.free && sc.kind == .function && sc.names.lookup n == some .cell) then NameKind.cell else k) = k
  rw [hf]
  rfl
theorem plain_fold {it : Expr} (h : plainIt it = true) : ∀ (env : PySem.Env) (x : Value), foldedSetIterable it env x = pure x := by
  intro env x
  cases it <;> first | rfl | cases h
theorem own_map (N : List Str) (t : Tgt) : (ownOf N t).map (·.2) = tslots t := by
  unfold ownOf
  rw [List.map_map]
  exact List.map_id _
theorem swapsWith_as {value : Expr} {t : Str} {py : Pos} {l : Nat} (hk : X.env.scope.kind = .function) (hv : okV value = true) : swapsWith value (some (.Name t py)) l X.env = pure (swB X.env.scope (.Name t py) value) := by
  cases value with
  | ListComp elt gs s p =>
    unfold swapsWith swB
    have hb : X.env.blockKind = .function := by unfold Env.blockKind; rw [hk]; rfl
    simp only [hb, Expr.pos]
    show pure _ = pure _
    congr 1
    have : (X.env.kindOf t == some NameKind.local) = decide (X.env.scope.names.lookup t = some .local) := by
      unfold Env.kindOf
      cases X.env.scope.names.lookup t with
      | none => rfl
      | some k => cases k <;> rfl
    rw [this]
    rfl
  | SetComp _ _ _ _ => cases hv
  | DictComp _ _ _ _ _ => cases hv
  | _ => rfl
end
end Ev

end
section
set_option autoImplicit false
set_option linter.all false
set_option maxRecDepth 100000
/-! The evaluator is sound: one step of an expression. -/
namespace Ev
open PySem L2 PyProof.Rows RZ

section
variable {nm : Names} {T : Tab} {cA fA : Nat → Addr} {j : Nat} {W : WX} {X : Cx}
theorem SE.dflj (hX : At nm T cA fA (j + 1) W X) {e : E} {a : Expr} (hd : dflT a = true) (hc : noComp a = true) (pe : PE X a (TO X cA W (stepE T (evN T j) (exN T j) e))) : SE X cA W (evN T (j + 1)) e a := SE.dfl (ev := evN T (j + 1)) hX hd hc pe
theorem isBl2 {x s : Str} (h : isBl nm X.env.scope x s = true) : x = s ∧ Gl X x ∧ x ∈ nm.bl := isBl_spec h
theorem sE_op1 (hX : At nm T cA fA (j + 1) W X) {chk : Scope → E → Expr → Bool} (ih : ∀ e a, chk X.env.scope e a = true → SE X cA W (evN T j) e a) {o : Op1} {x : E} {a : Expr} (h : chkE1 nm X.N chk X.env.scope (.op1 o x) a = true) : SE X cA W (evN T (j + 1)) (.op1 o x) a := by
  cases o with
  | isT t =>
    simp only [chkE1] at h
    split at h
    · simp only [Bool.and_eq_true] at h
      obtain ⟨h1, h2, h3, h4⟩ := h
      obtain ⟨e1, g1⟩ := isBl2 h1
      obtain ⟨e2, g2⟩ := isBl2 h2
      exact .dflj hX rfl rfl (e_isT hX e1 g1 e2 g2 h3 (ih _ _ h4).pe)
    · cases h
  | neg =>
    simp only [chkE1] at h
    split at h
    · exact .dflj hX rfl rfl (e_neg hX (ih _ _ h).pe)
    · cases h
  | listRev =>
    simp only [chkE1] at h
    split at h
    · simp only [Bool.and_eq_true] at h
      obtain ⟨h1, h2, h3, h4⟩ := h
      obtain ⟨e1, g1⟩ := isBl2 h1
      obtain ⟨e2, g2⟩ := isBl2 h2
      exact .dflj hX rfl rfl (e_listRev hX e1 g1 e2 g2 h3 (ih _ _ h4).pe)
    · cases h
  | sortedSet =>
    simp only [chkE1] at h
    split at h
    · simp only [Bool.and_eq_true] at h
      obtain ⟨h1, h2, h3, h4⟩ := h
      obtain ⟨e1, g1⟩ := isBl2 h1
      obtain ⟨e2, g2⟩ := isBl2 h2
      exact .dflj hX rfl rfl (e_sortedSet hX e1 g1 e2 g2 h3 (ih _ _ h4).pe)
    · cases h
  | listRange =>
    simp only [chkE1] at h
    split at h
    · simp only [Bool.and_eq_true] at h
      obtain ⟨h1, h2, h3, h4⟩ := h
      obtain ⟨e1, g1⟩ := isBl2 h1
      obtain ⟨e2, g2⟩ := isBl2 h2
      exact .dflj hX rfl rfl (e_listRange hX e1 g1 e2 g2 h3 (ih _ _ h4).pe)
    · cases h
  | repr =>
    simp only [chkE1] at h
    split at h
    · simp only [Bool.and_eq_true] at h
      obtain ⟨h0, h1, h3, h4⟩ := h
      obtain ⟨rfl, g1⟩ := isBl2 h1
      exact .dflj hX rfl rfl (e_op1c hX (c_repr (cA := cA) (W := W) (hX.gd h0) hX.hu) (by decide +kernel) g1 (by decide) (by decide) h3 (ih _ _ h4).pe)
    · cases h
  | rev =>
    simp only [chkE1] at h
    split at h
    · simp only [Bool.and_eq_true, decide_eq_true_eq] at h
      obtain ⟨rfl, h4⟩ := h
      exact .dflj hX rfl rfl (e_rev hX (ih _ _ h4).pe)
    · cases h
  | len =>
    simp only [chkE1, name1] at h
    split at h
    · simp only [Bool.and_eq_true] at h
      obtain ⟨h1, h3, h4⟩ := h
      obtain ⟨rfl, g1⟩ := isBl2 h1
      exact .dflj hX rfl rfl (e_op1c hX (c_len (cA := cA) (W := W)) boot_len g1 (by decide) (by decide) h3 (ih _ _ h4).pe)
    · cases h
  | all =>
    simp only [chkE1, name1] at h
    split at h
    · simp only [Bool.and_eq_true] at h
      obtain ⟨h1, h3, h4⟩ := h
      obtain ⟨rfl, g1⟩ := isBl2 h1
      exact .dflj hX rfl rfl (e_op1c hX (c_all (cA := cA) (W := W) hX.calm) (by decide +kernel) g1 (by decide) (by decide) h3 (ih _ _ h4).pe)
    · cases h
  | any =>
    simp only [chkE1, name1] at h
    split at h
    · simp only [Bool.and_eq_true] at h
      obtain ⟨h1, h3, h4⟩ := h
      obtain ⟨rfl, g1⟩ := isBl2 h1
      exact .dflj hX rfl rfl (e_op1c hX (c_any (cA := cA) (W := W) hX.calm) (by decide +kernel) g1 (by decide) (by decide) h3 (ih _ _ h4).pe)
    · cases h
  | sum =>
    simp only [chkE1, name1] at h
    split at h
    · simp only [Bool.and_eq_true] at h
      obtain ⟨h1, h3, h4⟩ := h
      obtain ⟨rfl, g1⟩ := isBl2 h1
      exact .dflj hX rfl rfl (e_op1c hX (c_sum (cA := cA) (W := W) hX.calm) (by decide +kernel) g1 (by decide) (by decide) h3 (ih _ _ h4).pe)
    · cases h
  | abs =>
    simp only [chkE1, name1] at h
    split at h
    · simp only [Bool.and_eq_true] at h
      obtain ⟨h1, h3, h4⟩ := h
      obtain ⟨rfl, g1⟩ := isBl2 h1
      exact .dflj hX rfl rfl (e_op1c hX (c_abs (cA := cA) (W := W)) (by decide +kernel) g1 (by decide) (by decide) h3 (ih _ _ h4).pe)
    · cases h
  | sorted =>
    simp only [chkE1, name1] at h
    split at h
    · simp only [Bool.and_eq_true] at h
      obtain ⟨h1, h3, h4⟩ := h
      obtain ⟨rfl, g1⟩ := isBl2 h1
      exact .dflj hX rfl rfl (e_op1c hX (c_sorted (cA := cA) (Wx := W) hX.hu) (by decide +kernel) g1 (by decide) (by decide) h3 (ih _ _ h4).pe)
    · cases h
  | min =>
    simp only [chkE1, name1] at h
    split at h
    · simp only [Bool.and_eq_true] at h
      obtain ⟨h1, h3, h4⟩ := h
      obtain ⟨rfl, g1⟩ := isBl2 h1
      exact .dflj hX rfl rfl (e_op1c hX (c_min (cA := cA) (Wx := W) hX.calm hX.hu) (by decide +kernel) g1 (by decide) (by decide) h3 (ih _ _ h4).pe)
    · cases h
  | max =>
    simp only [chkE1, name1] at h
    split at h
    · simp only [Bool.and_eq_true] at h
      obtain ⟨h1, h3, h4⟩ := h
      obtain ⟨rfl, g1⟩ := isBl2 h1
      exact .dflj hX rfl rfl (e_op1c hX (c_max (cA := cA) (Wx := W) hX.calm hX.hu) (by decide +kernel) g1 (by decide) (by decide) h3 (ih _ _ h4).pe)
    · cases h
  | int =>
    simp only [chkE1, name1] at h
    split at h
    · simp only [Bool.and_eq_true] at h
      obtain ⟨h1, h3, h4⟩ := h
      obtain ⟨rfl, g1⟩ := isBl2 h1
      exact .dflj hX rfl rfl (e_op1t hX (c_int (cA := cA) (W := W)) (by decide +kernel) g1 (by decide) (by decide) h3 (ih _ _ h4).pe)
    · cases h
  | list =>
    simp only [chkE1, name1] at h
    split at h
    · simp only [Bool.and_eq_true] at h
      obtain ⟨h1, h3, h4⟩ := h
      obtain ⟨rfl, g1⟩ := isBl2 h1
      exact .dflj hX rfl rfl (e_op1t hX (c_list (cA := cA) (W := W)) (by decide +kernel) g1 (by decide) (by decide) h3 (ih _ _ h4).pe)
    · cases h
  | tuple =>
    simp only [chkE1, name1] at h
    split at h
    · simp only [Bool.and_eq_true] at h
      obtain ⟨h1, h3, h4⟩ := h
      obtain ⟨rfl, g1⟩ := isBl2 h1
      exact .dflj hX rfl rfl (e_op1t hX (c_tuple (cA := cA) (W := W)) (by decide +kernel) g1 (by decide) (by decide) h3 (ih _ _ h4).pe)
    · cases h
  | _ =>
    simp only [chkE1, name1] at h
    split at h <;> simp at h
theorem sE_op2g (hX : At nm T cA fA (j + 1) W X) {chk : Scope → E → Expr → Bool} (ih : ∀ e a, chk X.env.scope e a = true → SE X cA W (evN T j) e a) {o : Op2} {x y : E} {a : Expr} (h : (match a with
    | .BinOp b op c _ => decide (opOf o = some op) && (chk X.env.scope x b && chk X.env.scope y c)
    | .Compare b [op] [c] _ => decide (cmpOf o = some op) && (plainIt c && (chk X.env.scope x b && chk X.env.scope y c))
    | .Call (.Name f _) [b, c] [] _ => (match name2 o with | some s => isBl nm X.env.scope f s | none => false) && (noStar b && (noStar c && (chk X.env.scope x b && chk X.env.scope y c)))
    | _ => false) = true) : SE X cA W (evN T (j + 1)) (.op2 o x y) a := by
    split at h
    · simp only [Bool.and_eq_true, decide_eq_true_eq] at h
      obtain ⟨h1, h2, h3⟩ := h
      exact .dflj hX rfl rfl (e_bin hX h1 (ih _ _ h2).pe (ih _ _ h3).pe)
    · simp only [Bool.and_eq_true, decide_eq_true_eq] at h
      obtain ⟨h1, h2, h3, h4⟩ := h
      exact ⟨e_cmp (exs := exN T j) hX h1 h2 (ih _ _ h3).pe (ih _ _ h4).pe, t_cmp (exs := exN T j) hX h1 h2 (ih _ _ h3).pe (ih _ _ h4).pe, fun _ _ _ z => (nomatch z), fun _ _ _ _ z => (nomatch z)⟩
    · simp only [Bool.and_eq_true] at h
      obtain ⟨h1, h2, h3, h4, h5⟩ := h
      cases o with
      | min2 =>
        obtain ⟨rfl, g1⟩ := isBl2 (show isBl nm X.env.scope _ "min" = true from h1)
        exact .dflj hX rfl rfl (e_c2 hX (c_min2 (cA := cA) (Wx := W) hX.calm) (by decide +kernel) g1 (by decide) (by decide) h2 h3 (ih _ _ h4).pe (ih _ _ h5).pe)
      | max2 =>
        obtain ⟨rfl, g1⟩ := isBl2 (show isBl nm X.env.scope _ "max" = true from h1)
        exact .dflj hX rfl rfl (e_c2 hX (c_max2 (cA := cA) (Wx := W) hX.calm) (by decide +kernel) g1 (by decide) (by decide) h2 h3 (ih _ _ h4).pe (ih _ _ h5).pe)
      | _ => cases h1
    · cases h
theorem sE_op2 (hX : At nm T cA fA (j + 1) W X) {chk : Scope → E → Expr → Bool} (ih : ∀ e a, chk X.env.scope e a = true → SE X cA W (evN T j) e a) {o : Op2} {x y : E} {a : Expr} (h : chkE1 nm X.N chk X.env.scope (.op2 o x y) a = true) : SE X cA W (evN T (j + 1)) (.op2 o x y) a := by
  cases o with
  | idx =>
    simp only [chkE1] at h
    split at h
    · simp only [Bool.and_eq_true] at h
      obtain ⟨h1, h2, h3⟩ := h
      exact .dflj hX rfl rfl (e_idx hX h1 (ih _ _ h2).pe (ih _ _ h3).pe)
    · cases h
  | idxD =>
    simp only [chkE1] at h
    split at h
    · simp only [Bool.and_eq_true] at h
      obtain ⟨h1, h2, h3⟩ := h
      exact .dflj hX rfl rfl (e_idxD hX h1 (ih _ _ h2).pe (ih _ _ h3).pe)
    · cases h
  | listRange2 =>
    simp only [chkE1] at h
    split at h
    · simp only [Bool.and_eq_true] at h
      obtain ⟨h1, h2, h3, h4, h5, h6⟩ := h
      obtain ⟨e1, g1⟩ := isBl2 h1
      obtain ⟨e2, g2⟩ := isBl2 h2
      exact .dflj hX rfl rfl (e_listRange2 hX e1 g1 e2 g2 h3 h4 (ih _ _ h5).pe (ih _ _ h6).pe)
    · cases h
  | _ => exact sE_op2g hX ih h
end
end Ev

end
section
set_option autoImplicit false
set_option linter.all false
set_option maxRecDepth 100000
/-! The evaluator is sound: expressions. -/
namespace Ev
open PySem L2 PyProof.Rows RZ

section
variable {nm : Names} {T : Tab} {cA fA : Nat → Addr} {j : Nat} {W : WX} {X : Cx}
theorem i_any (hX : At nm T cA fA (j + 1) W X) {tg : Expr} {chk : Scope → E → Expr → Bool} (ih : ∀ e a, chk X.env.scope e a = true → SE X cA W (evN T j) e a) {it : I} {a : Expr} (h : chkI nm X.N chk X.env.scope it a = true) (ht : needsTup it = true → ∃ es k p, tg = .Tuple es k p) : PI X tg a (TIt X cA W (items (evN T j) it)) := by
  cases it with
  | scr i =>
    simp only [chkI] at h
    split at h
    · exact i_scr hX h
    · cases h
  | range e =>
    simp only [chkI] at h
    split at h
    · simp only [Bool.and_eq_true] at h
      obtain ⟨h1, h2, h3⟩ := h
      obtain ⟨e1, g1⟩ := isBl2 h1
      exact i_range hX e1 g1 h2 (ih _ _ h3).pe
    · cases h
  | range2 e g =>
    simp only [chkI] at h
    split at h
    · simp only [Bool.and_eq_true] at h
      obtain ⟨h1, h2, h3, h4, h5⟩ := h
      obtain ⟨e1, g1⟩ := isBl2 h1
      exact i_range2 hX e1 g1 h2 h3 (ih _ _ h4).pe (ih _ _ h5).pe
    · cases h
  | range3 e g c =>
    simp only [chkI] at h
    split at h
    · simp only [Bool.and_eq_true, decide_eq_true_eq] at h
      obtain ⟨h1, rfl, h2, h3, h4, h5⟩ := h
      obtain ⟨e1, g1⟩ := isBl2 h1
      exact i_range3 hX e1 g1 h2 h3 (ih _ _ h4).pe (ih _ _ h5).pe
    · cases h
  | rangeE e g k =>
    simp only [chkI] at h
    split at h
    · simp only [Bool.and_eq_true] at h
      obtain ⟨h1, h2, h3, h4, h5, h6, h7⟩ := h
      obtain ⟨e1, g1⟩ := isBl2 h1
      exact i_rangeE hX e1 g1 h2 h3 h4 (ih _ _ h5).pe (ih _ _ h6).pe (ih _ _ h7).pe
    · cases h
  | zip e g =>
    obtain ⟨es, k, p, rfl⟩ := ht rfl
    simp only [chkI] at h
    split at h
    · simp only [Bool.and_eq_true] at h
      obtain ⟨h1, h2, h3, h4, h5⟩ := h
      obtain ⟨e1, g1⟩ := isBl2 h1
      exact i_zip hX e1 g1 h2 h3 (ih _ _ h4).pe (ih _ _ h5).pe
    · cases h
  | enum e =>
    obtain ⟨es, k, p, rfl⟩ := ht rfl
    simp only [chkI] at h
    split at h
    · simp only [Bool.and_eq_true] at h
      obtain ⟨h1, h2, h3⟩ := h
      obtain ⟨e1, g1⟩ := isBl2 h1
      exact i_enum hX e1 g1 h2 (ih _ _ h3).pe
    · cases h
  | seq e =>
    have h : (noStar a && chk X.env.scope e a) = true := h
    rw [Bool.and_eq_true] at h
    exact i_seq (ih _ _ h.2).pe
  | _ => cases h
theorem tup_tgt {N : List Str} {sc : Scope} {t : Tgt} {tg : Expr} (h : chkT N sc t tg = true) (ht : isTup t = true) : ∃ es k p, tg = .Tuple es k p := by
  cases t with
  | nm i => cases ht
  | tup ts => cases tg with
    | Tuple es k p => exact ⟨es, k, p, rfl⟩
    | _ => cases h
theorem needs_tup {it : I} {t : Tgt} (h : (!needsTup it || isTup t) = true) (hn : needsTup it = true) : isTup t = true := by
  rw [hn] at h; exact h
theorem o_any (hX : At nm T cA fA (j + 1) W X) {chk : Scope → E → Expr → Bool} (ih : ∀ e a, chk X.env.scope e a = true → SE X cA W (evN T j) e a) {e : Option E} {a : Option Expr} (h : chkO chk X.env.scope e a = true) : PO X a (TP X cA W (optI (evN T j) e)) := by
  cases e with
  | none => cases a with
    | none => exact o_none
    | some a => cases h
  | some e => cases a with
    | none => cases h
    | some a =>
      have h : (noStar a && chk X.env.scope e a) = true := h
      rw [Bool.and_eq_true] at h
      exact o_some (ih _ _ h.2).pe
/-- a comprehension -/
theorem sE_comp (IH : ∀ X W, At nm T cA fA j W X → ∀ m e a, chkE nm X.N m X.env.scope e a = true → SE X cA W (evN T j) e a) (hX : At nm T cA fA (j + 1) W X) {m : Nat} {elt : E} {t : Tgt} {it : I} {c : Option E} {a : Expr}
    (h : chkE1 nm X.N (chkE nm X.N m) X.env.scope (.comp elt t it c) a = true) : SE X cA W (evN T (j + 1)) (.comp elt t it c) a := by
  have ih : ∀ e a, chkE nm X.N m X.env.scope e a = true → SE X cA W (evN T j) e a := IH X W (hX.down (Nat.le_succ j)) m
  simp only [chkE1] at h
  split at h
  case h_2 => cases h
  rename_i b tg i ifs k scope pos
  simp only [Bool.and_eq_true, decide_eq_true_eq] at h
  obtain ⟨rfl, h1, h2, h3, h4, h5, h6, h7, h8⟩ := h
  have ok := blkOk_by h1
  have hi : PI X tg i (TIt X cA W (items (evN T j) it)) := i_any hX ih h3 fun hn => tup_tgt h5 (needs_tup h4 hn)
  have hB : ∀ (s : Shared) (H : Hp) (C : Addr) (cl : List (Str × Addr)) (fp : List Addr), At nm T cA fA j WF (X.blk s H scope (compEnvC scope cl C X.env) fp) := fun s H C cl fp => (hX.down (Nat.le_succ j)).blk s H scope _ fp
  have hg : ∀ (s : Shared) (H : Hp) (C : Addr) (cl : List (Str × Addr)) (fp : List Addr), L2.PG (X.blk s H scope (compEnvC scope cl C X.env) fp) tg (gT X.K t) := fun s H C cl fp =>
    g_tgt (X := X.blk s H scope (compEnvC scope cl C X.env) fp) (hB s H C cl fp).nd (hB s H C cl fp).calm (sc := scope) (fun x hx => by
      rcases loc_spec hx with q | q
      · have z : (relS scope X.env.scope).names.lookup x = some .local := relS_lookup q (by decide)
        exact ⟨.inl z, .inr z⟩
      · have z : (relS scope X.env.scope).names.lookup x = some .cell := relS_lookup q (by decide)
        exact ⟨.inr z, .inl (by show (scope.names.lookup x == some .cell) = true; rw [q]; rfl)⟩) t h5
  have he : ∀ (s : Shared) (H : Hp) (C : Addr) (cl : List (Str × Addr)) (fp : List Addr), PE (X.blk s H scope (compEnvC scope cl C X.env) fp) b (TD X cA WF (evD (evN T j) elt)) := fun s H C cl fp =>
    (IH (X.blk s H scope (compEnvC scope cl C X.env) fp) WF (hB s H C cl fp) m elt b h7).pe.toD
  have ht : ∀ (s : Shared) (H : Hp) (C : Addr) (cl : List (Str × Addr)) (fp : List Addr), PTs (X.blk s H scope (compEnvC scope cl C X.env) fp) ifs (tIf1 X cA (evN T j) c) := fun s H C cl fp => by
    split at h8
    · exact pts_nil
    · exact pts_one (IH (X.blk s H scope (compEnvC scope cl C X.env) fp) WF (hB s H C cl fp) m _ _ h8).pt
    · cases h8
  have hm := own_map X.N t
  have hp : PE X (.ListComp b [⟨tg, i, ifs, 0⟩] scope pos) (TO X cA W (stepE T (evN T j) (exN T j) (.comp elt t it c))) := (pe_lc hX.calm hX.nd hi ok hg ht he (plain_fold h2 _)).mono fun σ H Q h => by
    rw [hm]; exact t_lc h
  refine ⟨hp, t_dfl (ev := evN T (j + 1)) hX rfl hp, fun _ _ _ z => (nomatch z), fun y1 y py spos _ hy hyl hsw => ?_⟩
  refine (ps_setLc hX.calm hX.nd hy hyl hsw hi ok hg ht he (plain_fold h2 _)).mono fun D σ H h => ?_
  rw [hm]
  exact t_lc (exs := exN T j) h
/-- the keys of a dict comprehension, sorted -/
theorem sE_keys (IH : ∀ X W, At nm T cA fA j W X → ∀ m e a, chkE nm X.N m X.env.scope e a = true → SE X cA W (evN T j) e a) (hX : At nm T cA fA (j + 1) W X) {m : Nat} {elt : E} {t : Tgt} {it : I} {c : Option E} {a : Expr}
    (h : chkE1 nm X.N (chkE nm X.N m) X.env.scope (.sortedKeys elt t it c) a = true) : SE X cA W (evN T (j + 1)) (.sortedKeys elt t it c) a := by
  have ih : ∀ e a, chkE nm X.N m X.env.scope e a = true → SE X cA W (evN T j) e a := IH X W (hX.down (Nat.le_succ j)) m
  simp only [chkE1] at h
  split at h
  case h_2 => cases h
  rename_i f p1 b vb p3 p4 tg i ifs k scope pos p5
  simp only [Bool.and_eq_true, decide_eq_true_eq] at h
  obtain ⟨h0, rfl, h1, h2, h3, h4, h5, h6, h7, h8⟩ := h
  obtain ⟨rfl, g0⟩ := isBl2 h0
  have ok := blkOk_by h1
  have hi : PI X tg i (TIt X cA W (items (evN T j) it)) := i_any hX ih h3 fun hn => tup_tgt h5 (needs_tup h4 hn)
  have hB : ∀ (s : Shared) (H : Hp) (C : Addr) (cl : List (Str × Addr)) (fp : List Addr), At nm T cA fA j WF (X.blk s H scope (compEnvC scope cl C X.env) fp) := fun s H C cl fp => (hX.down (Nat.le_succ j)).blk s H scope _ fp
  have hg : ∀ (s : Shared) (H : Hp) (C : Addr) (cl : List (Str × Addr)) (fp : List Addr), L2.PG (X.blk s H scope (compEnvC scope cl C X.env) fp) tg (gT X.K t) := fun s H C cl fp =>
    g_tgt (X := X.blk s H scope (compEnvC scope cl C X.env) fp) (hB s H C cl fp).nd (hB s H C cl fp).calm (sc := scope) (fun x hx => by
      rcases loc_spec hx with q | q
      · have z : (relS scope X.env.scope).names.lookup x = some .local := relS_lookup q (by decide)
        exact ⟨.inl z, .inr z⟩
      · have z : (relS scope X.env.scope).names.lookup x = some .cell := relS_lookup q (by decide)
        exact ⟨.inr z, .inl (by show (scope.names.lookup x == some .cell) = true; rw [q]; rfl)⟩) t h5
  have he : ∀ (s : Shared) (H : Hp) (C : Addr) (cl : List (Str × Addr)) (fp : List Addr), PE (X.blk s H scope (compEnvC scope cl C X.env) fp) b (TD X cA WF (evD (evN T j) elt)) := fun s H C cl fp =>
    (IH (X.blk s H scope (compEnvC scope cl C X.env) fp) WF (hB s H C cl fp) m elt b h7).pe.toD
  have ht : ∀ (s : Shared) (H : Hp) (C : Addr) (cl : List (Str × Addr)) (fp : List Addr), PTs (X.blk s H scope (compEnvC scope cl C X.env) fp) ifs (tIf1 X cA (evN T j) c) := fun s H C cl fp => by
    split at h8
    · exact pts_nil
    · exact pts_one (IH (X.blk s H scope (compEnvC scope cl C X.env) fp) WF (hB s H C cl fp) m _ _ h8).pt
    · cases h8
  have hm := own_map X.N t
  refine .dflj hX rfl rfl ?_
  refine (pe_callB (call_sortedK hX.calm hX.hu) g0.1 (hX.blt _ g0.2) (by decide +kernel) (pa_cons (pe_dc hX.calm hX.nd hi ok hg ht he (fun s H C cl fp => pe_bl) (plain_fold h2 _)) pa_nil rfl) (by decide) (by decide) rfl rfl).mono fun σ H Q h => ?_
  have q := t_dc (vb := vb) (exs := exN T j) h
  rw [← hm] at q
  exact q
theorem sE_step (IH : ∀ X W, At nm T cA fA j W X → ∀ m e a, chkE nm X.N m X.env.scope e a = true → SE X cA W (evN T j) e a) (hX : At nm T cA fA (j + 1) W X) : ∀ m e a, chkE nm X.N m X.env.scope e a = true → SE X cA W (evN T (j + 1)) e a
  | 0, _, _, h => by cases h
  | m + 1, e, a, h => by
    have ih : ∀ e a, chkE nm X.N m X.env.scope e a = true → SE X cA W (evN T j) e a := IH X W (hX.down (Nat.le_succ j)) m
    unfold chkE at h
    split at h
    · rename_i op v p
      have q := sE_step IH hX m e v h
      have pw : PW X (.BoolOp op [v] p) (TT' X cA W (truthE (evN T (j + 1)) e)) := by
        cases op with
        | And => exact pw_and1 q.pt
        | Or => exact pw_or1 q.pt
      exact ⟨pe_one q.pe, pw.pt, fun op' es p' z => by cases z; exact pw, fun _ _ _ _ z => (nomatch z)⟩
    · cases e with
      | none =>
        simp only [chkE1] at h
        split at h
        · exact .dflj hX rfl rfl (e_con pe_non fun _ => .non)
        · cases h
      | bl b =>
        simp only [chkE1] at h
        split at h
        · have h := eq_of_beq h
          subst h
          exact .dflj hX rfl rfl (e_con pe_bl fun _ => .bl _)
        · cases h
      | int i =>
        simp only [chkE1] at h
        split at h
        · rw [decide_eq_true_eq] at h
          subst h
          exact .dflj hX rfl rfl (e_con pe_int fun _ => .int _)
        · cases h
      | str z =>
        simp only [chkE1] at h
        split at h
        · rw [decide_eq_true_eq] at h
          subst h
          exact .dflj hX rfl rfl (e_con pe_str fun _ => .str _)
        · cases h
      | var i =>
        simp only [chkE1] at h
        split at h
        · exact .dflj hX rfl rfl (e_var hX h)
        · cases h
      | glb i =>
        simp only [chkE1] at h
        split at h
        · exact .dflj hX rfl rfl (e_glb hX h)
        · cases h
      | move i =>
        simp only [chkE1] at h
        split at h
        · exact .dflj hX rfl rfl (e_move hX h)
        · cases h
      | tup es =>
        simp only [chkE1] at h
        split at h
        · exact .dflj hX rfl rfl (e_tup hX (a_list hX (fun e a q => (ih e a q).pe) es _ h))
        · cases h
      | lst es =>
        simp only [chkE1] at h
        split at h
        · exact .dflj hX rfl rfl (e_lst hX (a_list hX (fun e a q => (ih e a q).pe) es _ h))
        · cases h
      | op1 o x => exact sE_op1 hX ih h
      | op2 o x y => exact sE_op2 hX ih h
      | inG neg g x =>
        simp only [chkE1] at h
        split at h
        · simp only [Bool.and_eq_true, decide_eq_true_eq] at h
          obtain ⟨h1, h2, h3⟩ := h
          exact ⟨e_inG (exs := exN T j) hX h1 h2 (ih _ _ h3).pe, t_inG (exs := exN T j) hX h1 h2 (ih _ _ h3).pe, fun _ _ _ z => (nomatch z), fun _ _ _ _ z => (nomatch z)⟩
        · cases h
      | ixG g x =>
        simp only [chkE1] at h
        split at h
        · simp only [Bool.and_eq_true] at h
          obtain ⟨h1, h2, h3⟩ := h
          exact .dflj hX rfl rfl (e_ixG hX h1 h2 (ih _ _ h3).pe)
        · cases h
      | cdct kvs =>
        simp only [chkE1] at h
        split at h
        · simp only [Bool.and_eq_true, decide_eq_true_eq] at h
          obtain ⟨h1, h2, h3⟩ := h
          exact .dflj hX rfl rfl (e_cdct h1 h2 h3)
        · cases h
      | not x =>
        simp only [chkE1] at h
        split at h
        · exact ⟨e_not (exs := exN T j) hX (ih _ _ h).pe, t_not (exs := exN T j) hX (ih _ _ h).pt, fun _ _ _ z => (nomatch z), fun _ _ _ _ z => (nomatch z)⟩
        · cases h
      | and x y =>
        simp only [chkE1] at h
        split at h
        · rw [Bool.and_eq_true] at h
          have pw := w_and (exs := exN T j) hX (ih _ _ h.1).pt ((ih _ _ h.2).pw _ _ _ rfl)
          exact ⟨e_and (exs := exN T j) hX (ih _ _ h.1).pe (ih _ _ h.2).pe, pw.pt, fun op' es p' z => by cases z; exact pw, fun _ _ _ _ z => (nomatch z)⟩
        · cases h
      | or x y =>
        simp only [chkE1] at h
        split at h
        · rw [Bool.and_eq_true] at h
          have pw := w_or (exs := exN T j) hX (ih _ _ h.1).pt ((ih _ _ h.2).pw _ _ _ rfl)
          exact ⟨e_or (exs := exN T j) hX (ih _ _ h.1).pe (ih _ _ h.2).pe, pw.pt, fun op' es p' z => by cases z; exact pw, fun _ _ _ _ z => (nomatch z)⟩
        · cases h
      | ite c x y =>
        simp only [chkE1] at h
        split at h
        · simp only [Bool.and_eq_true] at h
          exact ⟨e_ite (exs := exN T j) hX (ih _ _ h.1).pt (ih _ _ h.2.1).pe (ih _ _ h.2.2).pe, t_ite (exs := exN T j) hX (ih _ _ h.1).pt (ih _ _ h.2.1).pt (ih _ _ h.2.2).pt, fun _ _ _ z => (nomatch z), fun _ _ _ _ z => (nomatch z)⟩
        · cases h
      | chain o1 o2 x y z =>
        simp only [chkE1] at h
        split at h
        · simp only [Bool.and_eq_true, decide_eq_true_eq] at h
          obtain ⟨h1, h2, h3, h4, h5, h6⟩ := h
          exact ⟨e_chain (exs := exN T j) hX h1 h2 h3 (ih _ _ h4).pe (ih _ _ h5).pe (ih _ _ h6).pe, t_chain (exs := exN T j) hX h1 h2 h3 (ih _ _ h4).pe (ih _ _ h5).pe (ih _ _ h6).pe, fun _ _ _ z => (nomatch z), fun _ _ _ _ z => (nomatch z)⟩
        · cases h
      | rng3 t x y z =>
        simp only [chkE1] at h
        split at h
        · simp only [Bool.and_eq_true] at h
          obtain ⟨h1, h2, h3, h4, h5, h6, h7, h8⟩ := h
          obtain ⟨e1, g1⟩ := isBl2 h1
          obtain ⟨e2, g2⟩ := isBl2 h2
          exact .dflj hX rfl rfl (e_rng3 (exs := exN T j) hX t e1 g1 e2 g2 h3 h4 h5 (ih _ _ h6).pe (ih _ _ h7).pe (ih _ _ h8).pe)
        · split at h
          · simp only [Bool.and_eq_true, decide_eq_true_eq] at h
            obtain ⟨rfl, rfl, rfl, h1, h2, h3, h4⟩ := h
            obtain ⟨e1, g1⟩ := isBl2 h1
            obtain ⟨e2, g2⟩ := isBl2 h2
            exact .dflj hX rfl rfl (e_rngT (exs := exN T j) hX (fun i env => by cases j with
              | zero => exact .inr rfl
              | succ j => exact .inl rfl) e1 g1 e2 g2 h3 (ih _ _ h4).pe)
          · cases h
        · cases h
      | slice x lo hi =>
        simp only [chkE1] at h
        split at h
        · simp only [Bool.and_eq_true] at h
          obtain ⟨h1, h2, h3⟩ := h
          exact .dflj hX rfl rfl (e_slice hX (ih _ _ h1).pe (o_any hX ih h2) (o_any hX ih h3))
        · cases h
      | call f es =>
        simp only [chkE1] at h
        split at h
        · rw [Bool.and_eq_true] at h
          obtain ⟨k1, k2⟩ := a_args hX (fun e a q => (ih e a q).pe) es _ h.2
          exact .dflj hX rfl rfl (e_call hX h.1 k1 k2)
        · rw [Bool.and_eq_true] at h
          have : es = [] := by cases es with
            | nil => rfl
            | cons _ _ => cases h.2
          subst this
          exact .dflj hX rfl rfl (e_call0 hX h.1)
        · cases h
      | callS f x =>
        simp only [chkE1] at h
        split at h
        · rw [Bool.and_eq_true] at h
          exact .dflj hX rfl rfl (e_callS hX h.1 (ih _ _ h.2).pe)
        · cases h
      | sel fs ix es =>
        simp only [chkE1] at h
        split at h
        · simp only [Bool.and_eq_true, decide_eq_true_eq] at h
          obtain ⟨h1, h2, h3, h4, h5⟩ := h
          obtain ⟨k1, k2⟩ := a_args hX (fun e a q => (ih e a q).pe) es _ h5
          exact .dflj hX rfl rfl (e_sel hX h1 h2 h3 (ih _ _ h4).pe k1 k2)
        · cases h
      | pop i =>
        simp only [chkE1] at h
        split at h
        · simp only [Bool.and_eq_true, decide_eq_true_eq] at h
          obtain ⟨rfl, h2, h3⟩ := h
          exact .dflj hX rfl rfl (e_pop hX h3 h2)
        · cases h
      | lenScr i =>
        simp only [chkE1] at h
        split at h
        · rw [Bool.and_eq_true] at h
          obtain ⟨e1, g1⟩ := isBl2 h.1
          exact .dflj hX rfl rfl (e_lenScr hX e1 g1 h.2)
        · cases h
      | ixScr i y =>
        simp only [chkE1] at h
        split at h
        · simp only [Bool.and_eq_true] at h
          exact .dflj hX rfl rfl (e_ixScr hX h.1 h.2.1 (ih _ _ h.2.2).pe)
        · cases h
      | snap x =>
        have q := ih x a h
        exact ⟨e_snap (T := T) (exs := exN T j) q.pe, q.pt.mono fun _ _ _ z => snapT_mono (T := T) (exs := exN T j) z, fun op es p z => (q.pw op es p z).mono fun _ _ _ z => snapT_mono (T := T) (exs := exN T j) z,
          fun i y py spos h1 h2 h3 h4 => (q.as_ i y py spos h1 h2 h3 h4).mono fun D σ H z => snap_mono (T := T) (exs := exN T j) z⟩
      | comp elt t it c => exact sE_comp IH hX h
      | sortedKeys elt t it c => exact sE_keys IH hX h
      | _ => cases h
/-- expressions -/
theorem sE : ∀ (n : Nat) (X : Cx) (W : WX), At nm T cA fA n W X → ∀ m e a, chkE nm X.N m X.env.scope e a = true → SE X cA W (evN T n) e a
  | 0, X, W, hX, m, e, a, _ => by
    have no : ∀ {σ : L2.St} {H : Hp} {Q : VK}, TO X cA W (evN T 0 e) σ H Q → False := fun ⟨F, Af, env, s, p⟩ => p
    have noT : ∀ {σ : L2.St} {H : Hp} {Q : Bool → Hp → Prop}, TT' X cA W (truthE (evN T 0) e) σ H Q → False := fun ⟨F, Af, env, s, p⟩ => p
    exact ⟨⟨fun pins s σ H Q I h => (no h).elim⟩, ⟨fun pins s σ H Q I h => (noT h).elim⟩, fun _ _ _ _ => ⟨fun wh pins s σ H Q I h => (noT h).elim⟩, fun _ _ _ _ _ _ _ _ => ⟨fun pins s σ H D I h => (no h).elim⟩⟩
  | n + 1, X, W, hX, m, e, a, h => sE_step (fun X W hX => sE n X W hX) hX m e a h
end
end Ev

end
section
set_option autoImplicit false
set_option linter.all false
set_option maxRecDepth 100000
/-! raise, try. -/
namespace Ev
open PySem L2 PyProof.Rows RZ

section
variable {nm : Names} {T : Tab} {cA fA : Nat → Addr} {n : Nat} {W : WX} {X : Cx} {ev : E → Env → Res (O × Env)} {exs : List S → Env → Res (Fl × Env)}
theorem s_raise {c : Nat} {σ : L2.St} {H : Hp} {D : Ends} (h : TS' X cA W [] (one T ev exs (.raise c)) D σ H) : W (.ref (cA c)) none σ H := by
  obtain ⟨F, Af, env, s, p⟩ := h
  have p : PF X.K cA W [] σ F H Af (if c < T.nx then .err c else .stuck) D := p
  split at p
  · exact p σ F H (Ex.refl _) s.ex (fun a o e _ => e) fun a h => h
  · exact p.elim

/-! a value that needs nobody -/
/-- N: what is new -/
def tCst (K : PySem.W.Frag) (d : D) : TE := fun σ H Q => ∀ (v : V) (G N : Hp), Ex H G → (∀ a, N a ≠ none → H a = none) → Ex N G → Rep K N v d → Q v G
def vAtom : E → V
  | .bl b => .bl b
  | .int i => .int i
  | .str s => .str s
  | _ => .non
theorem rep_atom {K : PySem.W.Frag} {F : Hp} {e : E} {d : D} (h : atomE e = some d) : Rep K F (vAtom e) d := by
  cases e <;> simp only [atomE] at h <;> first | (cases h; done) | (cases h; constructor)
theorem c_atom {X : Cx} {e : E} {a : Expr} (h : chkAt e a = true) : PE X a (tC (vAtom e)) ∧ noStar a = true := by
  unfold chkAt at h
  split at h
  · exact ⟨pe_non, rfl⟩
  · rw [beq_iff_eq] at h; subst h; exact ⟨pe_bl, rfl⟩
  · rw [decide_eq_true_eq] at h; subst h; exact ⟨pe_int, rfl⟩
  · rw [decide_eq_true_eq] at h; subst h; exact ⟨pe_str, rfl⟩
  · cases h
theorem c_atoms {X : Cx} : ∀ {es : List E} {as : List Expr}, chkAts es as = true → PA X as (fun _ H Q => Q (es.map vAtom) H)
  | [], [], _ => pa_nil
  | [], _ :: _, h => by cases h
  | _ :: _, [], h => by cases h
  | e :: es, a :: as, h => by
    have h : (chkAt e a && chkAts es as) = true := h
    rw [Bool.and_eq_true] at h
    obtain ⟨h1, h2⟩ := c_atom (X := X) h.1
    exact (pa_cons h1 (c_atoms h.2) (star1 h2 _ _)).mono fun σ H Q q => q
theorem rep_atoms {K : PySem.W.Frag} {F : Hp} : ∀ {es : List E} {ds : List D}, atomsE es = some ds → RepAll K F (es.map vAtom) ds
  | [], _, h => by cases h; exact .nil
  | e :: es, _, h => by
    have h : (match atomE e, atomsE es with | some d, some ds => some (d :: ds) | _, _ => none) = some _ := h
    split at h
    · rename_i d ds h1 h2
      cases h
      exact .cons (rep_atom h1) (rep_atoms h2)
    · cases h
theorem rep_bools {K : PySem.W.Frag} (F : Hp) : ∀ bs : List Bool, RepAll K F (bs.map V.bl) (bs.map PyData.bool)
  | [] => .nil
  | b :: bs => .cons (.bl b) (rep_bools F bs)
theorem upd_ex {H : Hp} {p : Addr} {o : HO} (h : H p = none) : Ex H (upd H p o) := fun a u e => by
  unfold upd
  split
  · rename_i q; subst q; rw [h] at e; cases e
  · exact e
theorem c_pe {X : Cx} {e : E} {a : Expr} {d : D} (h : chkC e a = true) (hd : cstE e = some d) : PE X a (tCst X.K d) := by
  have atom : atomE e = some d → chkAt e a = true → PE X a (tCst X.K d) := fun h1 h2 => (c_atom h2).1.mono fun σ H Q q => q (vAtom e) H (fun _ => none) (Ex.refl _) (fun _ z => absurd rfl z) (fun _ _ z => nomatch z) (rep_atom h1)
  cases e with
  | tup es =>
    cases a with
    | Tuple as k p =>
      have h : (decide (es.length ≤ 1000) && chkAts es as) = true := h
      rw [Bool.and_eq_true, decide_eq_true_eq] at h
      have hd : (atomsE es).map PyData.tuple = some d := hd
      cases ha : atomsE es with
      | none => rw [ha] at hd; cases hd
      | some ds =>
        rw [ha] at hd
        cases hd
        refine (pe_tup (c_atoms h.2)).mono fun σ H Q q => ⟨?_, fun p hp => ?_⟩
        · rw [List.length_map]
          have : (1000 : Nat) ≤ sizeLine := by decide
          omega
        · refine q (.ref p) _ (upd (fun _ => none) p (.tup (es.map vAtom))) (upd_ex hp) (fun b hb => ?_) (fun b u e => ?_) (.tup ?_ (rep_atoms ha))
          · unfold upd at hb
            split at hb
            · rename_i z; rw [z]; exact hp
            · exact absurd rfl hb
          · unfold upd at e ⊢
            split at e
            · rename_i z; rw [if_pos z]; exact e
            · cases e
          · exact SqT.of upd_same
    | _ => cases h
  | none => exact atom hd h
  | bl b => exact atom hd h
  | int i => exact atom hd h
  | str s => exact atom hd h
  | _ => cases hd

/-! the clauses -/
def tsH (K : PySem.W.Frag) (cA : Nat → Addr) : List (Nat × Option Nat × List S) → List (Value × (Addr → Value → Option Addr → TS))
  | [] => []
  | (k, _, [.ret e]) :: r => (.ref (cA k), fun _ _ _ => match cstE e with
      | some d => tRet (tCst K d)
      | none => fun _ _ _ => False) :: tsH K cA r
  | _ :: r => tsH K cA r
theorem hds_ok (hX : At nm T cA fA n W X) : ∀ {hs : List (Nat × Option Nat × List S)} {hds : List ExceptHandler}, chkH nm.ex X.env.scope hs hds = true → L2N.HdsOk X hds (tsH X.K cA hs)
  | [], [], _ => .nil
  | [], _ :: _, h => by unfold chkH at h; cases h
  | q :: hs, hds, h => by
    unfold chkH at h
    split at h
    · rename_i e; cases e
    · rename_i k e r x np a p1 p2 r' e1
      cases e1
      simp only [Bool.and_eq_true] at h
      obtain ⟨h1, h2, h3⟩ := h
      obtain ⟨g1, g2, g3⟩ := isGl_spec h1
      obtain ⟨x1, _, _, _⟩ := hX.exn k x g1
      unfold tsH
      refine .cons ⟨g2, g3, .inl x1⟩ (fun a' oe cls d pn _ _ => ?_) (hds_ok hX h3)
      cases hc : cstE e with
      | none => exact (pss_cons (ps_never) pss_nil).mono fun D σ H q => q
      | some d => exact (pss_cons (ps_ret (c_pe (X := X.suite a' ((a', oe) :: pn)) h2 hc)) pss_nil).mono fun D σ H q => q
    · cases h
/-- a new thing that needs nobody is given back -/
theorem ret_new {σ : L2.St} {F H F' H' : Hp} {env : Env} {Af : Nat → List Addr} {is : List Nat} {d : D} {D : Ends} {v : V} {G N : Hp} (s : SR X.K F H σ env Af) (p : PF X.K cA W is σ F H Af (.ok (.ret (.val d), ownFree env)) D) (e1 : Ex F F') (e2 : Ex F' H') (fr : ∀ a o, H a = some o → ¬ Own Af a → H' a = some o) (dm : ∀ a, H a ≠ none → H' a ≠ none)
    (hG : Ex H' G) (hn : ∀ a, N a ≠ none → H' a = none) (hNG : Ex N G) (rv : Rep X.K N v d) : D.rt v G := by
  let F2 : Hp := fun a => match F a with
    | some o => some o
    | none => N a
  have fn : ∀ a, F a ≠ none → H' a ≠ none := fun a h => by
    cases q : F a with
    | none => exact absurd q h
    | some o => rw [e2 a o (e1 a o q)]; exact fun z => nomatch z
  have eF : Ex F F2 := fun a o h => by show (match F a with | some o => some o | none => N a) = _; rw [h]
  have eN : Ex N F2 := fun a o h => by
    show (match F a with | some o => some o | none => N a) = _
    cases q : F a with
    | none => exact h
    | some u => exact absurd (hn a (by rw [h]; exact fun z => nomatch z)) (fn a (by rw [q]; exact fun z => nomatch z))
  have eG : Ex F2 G := fun a o h => by
    have h : (match F a with | some o => some o | none => N a) = some o := h
    cases q : F a with
    | none => rw [q] at h; exact hNG a o h
    | some u => rw [q] at h; cases h; exact hG a o (e2 a o (e1 a o q))
  have sr : SR X.K F2 G σ (ownFree env) (fun _ => []) := by
    refine ⟨eG, ?_, fun i o h => ?_, fun _ => .nil, fun _ _ _ h => (nomatch h), fun _ _ h => (nomatch h), fun _ _ h => (nomatch h)⟩
    · unfold ownFree; rw [List.length_map]; exact s.len
    · unfold ownFree at h
      rw [List.getElem?_map] at h
      cases q : env[i]? with
      | none => rw [q] at h; cases h
      | some u =>
        rw [q] at h
        cases u with
        | none => cases h
        | some u =>
          cases u with
          | val d' =>
            cases h
            obtain ⟨w, w1, w2⟩ := s.at_ i _ q
            exact ⟨w, w1, .val ((RO.val_inv w2).1.mono eF)⟩
          | _ => cases h
  have st : Stp F H Af F2 G (fun _ => []) [] := by
    refine ⟨eF, fun a o h hno => hG a o (fr a o h hno), fun a h => ?_, fun a h => ?_, fun a ⟨_, h⟩ => (nomatch h), fun _ h => (nomatch h)⟩
    · have := dm a h
      cases q : H' a with
      | none => exact absurd q this
      | some o => rw [hG a o q]; exact fun z => nomatch z
    · have h : (match F a with | some o => some o | none => N a) ≠ none := h
      cases q : F a with
      | some u => exact .inl fun z => nomatch z
      | none =>
        rw [q] at h
        refine .inr (.inl (Classical.byContradiction fun z => dm a z (hn a h)))
  exact p v σ F2 G (fun _ => []) [] (Same.refl _ _) sr st (.val (rv.mono eN)) .nil fun _ z => nomatch z
theorem chkH_none {ex : List Str} {sc : Scope} : ∀ {hs : List (Nat × Option Nat × List S)} {hds : List ExceptHandler}, chkH ex sc hs hds = true → ∀ q ∈ hs, q.2.1 = none
  | [], _, _, q, hq => by cases hq
  | q0 :: hs, hds, h, q, hq => by
    unfold chkH at h
    split at h
    · rename_i e; cases e
    · rename_i k e r x np a p1 p2 r' e1
      cases e1
      simp only [Bool.and_eq_true] at h
      rcases List.mem_cons.mp hq with rfl | hq
      · rfl
      · exact chkH_none h.2.2 q hq
    · cases h
/-- a wish that does not look at the slots -/
def clW (W : WX) : WX := fun c d _ H => ∀ σ, W c d σ H
theorem ps_tryC (hX : AtF nm T cA fA n W X) {b : List S} {hs : List (Nat × Option Nat × List S)} {body : List Stmt} {h₀ : ExceptHandler} {hds : List ExceptHandler} {pos : Pos}
    (HT : ∀ (W' : WX) (pn : List (Addr × Obj)) (xe : Value → Shared → Prop), L2N.Takes (X.tr pn xe) W' → PassesOwn (model X.prog X.w) X.A X.env xe → (∀ c d σ σ' H, W' c d σ H → W' c d σ' H) → PSs (X.tr pn xe) body (TS' X cA W' (asgds b) (exN T n b)))
    (hh : chkH nm.ex X.env.scope hs (h₀ :: hds) = true) : PS X (.Try body (h₀ :: hds) [] [] pos) (TS' X cA W (asgd (.tryS b hs)) (one T (evN T n) (exN T n) (.tryS b hs))) := by
  refine (L2N.ps_try_many (tb := fun W' => TS' X cA (clW W') (asgds b) (exN T n b)) hX.stk hX.frm hX.tk (fun W' pn xe tk po => HT (clW W') pn xe (tk.imp fun c d σ H z => z σ) po fun c d σ σ' H z => z) (hds_ok hX.toAt hh)).mono fun D σ H q => ?_
  obtain ⟨F, Af, env, s, p⟩ := q
  refine ⟨F, Af, env, s, ?_⟩
  have p : PF X.K cA W (asgds b ++ asgdh hs) σ F H Af (if asgds b = [] then match exN T n b env with
    | .ok p => .ok p
    | .stuck => .stuck
    | .err c => handle T c env hs
    else .stuck) D := p
  split at p
  · rename_i hb
    have sub : ∀ i ∈ asgds b, i ∈ asgds b ++ asgdh hs := fun i hi => List.mem_append_left _ hi
    cases he : exN T n b env with
    | stuck => rw [he] at p; exact p.elim
    | ok z =>
      rw [he] at p
      have p := PF.mono (js := asgds b) sub p
      obtain ⟨fl, env'⟩ := z
      cases fl <;> exact p
    | err c =>
      rw [he] at p
      have p : PF X.K cA W (asgds b ++ asgdh hs) σ F H Af (handle T c env hs) D := p
      intro σ' F' H' e1 e2 fr dm σ''
      show L2.wMany X.K W D (tsH X.K cA hs) (.ref (cA c)) none σ'' H'
      suffices key : ∀ (hs : List (Nat × Option Nat × List S)) (is : List Nat), (∀ q ∈ hs, q.2.1 = none) → PF X.K cA W is σ F H Af (handle T c env hs) D → L2.wMany X.K W D (tsH X.K cA hs) (.ref (cA c)) none σ'' H' from key hs _ (chkH_none hh) p
      clear hh he p
      intro hs is
      induction hs with
      | nil => exact fun _ p => p σ'' F' H' e1 e2 fr dm
      | cons q r ih =>
        intro hq p
        have ih := fun p => ih (fun q h => hq q (List.mem_cons_of_mem _ h)) p
        unfold Ev.handle at p
        split at p
        · rename_i z; cases z
        · rename_i k e r' z
          cases z
          split at p
          · rename_i hk
            have p : PF X.K cA W is σ F H Af (if T.sub c k then match cstE e with
              | some d => .ok (.ret (.val d), ownFree env)
              | none => .stuck
              else handle T c env r) D := p
            unfold tsH
            refine ⟨T.sub c k, hX.exm c k hk.1 hk.2, fun hb1 a ha => ?_, fun hb1 => ?_⟩
            · rw [if_pos hb1] at p
              cases hc : cstE e with
              | none => rw [hc] at p; exact p.elim
              | some d =>
                rw [hc] at p
                have p : PF X.K cA W is σ F H Af (.ok (.ret (.val d), ownFree env)) D := p
                exact fun v G N hG hn hNG rv => ret_new s p e1 e2 fr dm hG hn hNG rv
            · rw [hb1] at p
              exact ih p
          · exact p.elim
        · rename_i z
          cases z
          cases hq _ List.mem_cons_self
        · exact p.elim
  · exact p.elim
/-! except X as e: return f(e) -/
def tsA (T : Tab) (cA : Nat → Addr) (n g i : Nat) : Addr → Value → Option Addr → TS := fun a cls d D σ H => 0 < n ∧ (∃ σ0 : L2.St, σ = σ0.set i (some (V.ref a))) ∧ ∃ c, c < T.nx ∧ cls = .ref (cA c) ∧ d = none ∧ ∀ q, H q = none → D.rt (.ref q) (upd H q (.lst ((T.fl g c).map V.bl)))
theorem suiteA (hX : AtF nm T cA fA n W X) {g i : Nat} {f m : Str} {fp mp cp rp : Pos} (hf : isGl nm.fl X.env.scope g f = true) (om : okN m = true) (hN : X.N[i]? = some m) (hl : X.env.scope.names.lookup m = some .local) (a : Addr) (oe : Obj) (cls : Value) (d : Option Addr) (pn : List (Addr × Obj)) (hz : L2N.Zn cls d oe) (hv : ∃ vs, oe.data = .fields vs) :
    PSs (X.suite a ((a, oe) :: pn)) [.Return (some (.Call (.Name f fp) [.Name m mp] [] cp)) rp] (tsA T cA n g i a cls d) := by
  refine ⟨fun pins s σ H D I h => ?_⟩
  obtain ⟨n0, ⟨σ0, hσ⟩, c, hc, rfl, rfl, q⟩ := h
  obtain ⟨f1, f2, f3⟩ := isGl_spec hf
  obtain ⟨fa, fd, ps, m1, m2, m3, m4⟩ := hX.flg g f f1
  have F := m4 c (a, oe) hc hz.1 hz.2.1 hv
  have om' := okN_spec om
  have hi : i < X.N.length := (List.getElem?_eq_some_iff.mp hN).1
  have hs : σ[i]? = some (some (V.ref a)) := by
    have hlen : σ.length = X.N.length := I.len
    rw [hσ] at hlen ⊢
    rw [List.length_set] at hlen
    rw [List.getElem?_set_self (by omega)]
  have rm : L2H.RoomH 1 X.A := L2H.roomH_of (hX.room.mono n0)
  have ht : L2H.Hot1 (X.suite a ((a, oe) :: pn)).A (a, oe) := by
    obtain ⟨vs, e⟩ := hv
    exact ⟨rfl, vs, e, hz.2.2 vs e⟩
  have pe := pe_hot (X := X.suite a ((a, oe) :: pn)) (x := f) (q := fp) (pos := cp) (E := fun _ _ _ _ => False) F ⟨rm.dp, rm.un⟩ ht List.mem_cons_self f2 m1 m2 m3 (fun σ pins H s e s' I c => by obtain ⟨_, _, _, _, _, _, _, _, _, _, _, _, z⟩ := c; exact z)
    (pa_cons (pe_var (X := X.suite a ((a, oe) :: pn)) (pos := mp) hN (.inl hl) om'.1 om'.2.1) pa_nil rfl) f3 rfl rfl
  refine (pss_cons (ps_ret pe) pss_nil).run pins s σ H D I ?_
  exact ⟨V.ref a, hs, rfl, q⟩
theorem ps_tryA (hX : AtF nm T cA fA n W X) {b : List S} {hs : List (Nat × Option Nat × List S)} {body : List Stmt} {hds : List ExceptHandler} {pos : Pos}
    (HT : ∀ (W' : WX) (pn : List (Addr × Obj)) (xe : Value → Shared → Prop), L2N.Takes (X.tr pn xe) W' → PassesOwn (model X.prog X.w) X.A X.env xe → (∀ c d σ σ' H, W' c d σ H → W' c d σ' H) → PSs (X.tr pn xe) body (TS' X cA W' (asgds b) (exN T n b)))
    (hh : chkHA nm X.N X.env.scope hs hds = true) : PS X (.Try body hds [] [] pos) (TS' X cA W (asgd (.tryS b hs)) (one T (evN T n) (exN T n) (.tryS b hs))) := by
  unfold chkHA at hh
  split at hh
  · rename_i k i g j x xp m f fp m' mp cp rp hp
    simp only [Bool.and_eq_true, decide_eq_true_eq] at hh
    obtain ⟨h1, h2, rfl, rfl, h3, h4, h5⟩ := hh
    obtain ⟨g1, g2, g3⟩ := isGl_spec h1
    obtain ⟨x1, _, _, _⟩ := hX.exn k x g1
    refine (L2N.ps_try_as (tb := fun W' => TS' X cA (clW W') (asgds b) (exN T n b)) (ts := tsA T cA n g i) (c := .ref (cA k)) hX.stk hX.frm hX.nd h4 h5 ⟨g2, g3, .inl x1⟩ hX.tk (fun W' pn xe tk po => HT (clW W') pn xe (tk.imp fun c d σ H z => z σ) po fun c d σ σ' H z => z) (fun a oe cls d pn hz hv => suiteA hX h2 h3 h4 h5 a oe cls d pn hz hv)).mono fun D σ H q => ?_
    obtain ⟨F, Af, env, s, p⟩ := q
    refine ⟨F, Af, env, s, ?_⟩
    have p : PF X.K cA W (asgds b ++ asgdh [(k, some i, [.ret (.flg g i)])]) σ F H Af (if asgds b = [] then match exN T n b env with
      | .ok p => .ok p
      | .stuck => .stuck
      | .err c => handle T c env [(k, some i, [.ret (.flg g i)])]
      else .stuck) D := p
    split at p
    · rename_i hb
      have sub : ∀ z ∈ asgds b, z ∈ asgds b ++ asgdh [(k, some i, [.ret (.flg g i)])] := fun z hz => List.mem_append_left _ hz
      cases he : exN T n b env with
      | stuck => rw [he] at p; exact p.elim
      | ok z =>
        rw [he] at p
        have p := PF.mono (js := asgds b) sub p
        obtain ⟨fl, env'⟩ := z
        cases fl with
        | next => exact fun σ' F' H' Af' m s' t => p σ' F' H' Af' m s' t
        | ret o => exact p
        | brk => exact p
        | cont => exact p
      | err c =>
        rw [he] at p
        have n0 : 0 < n := by
          cases n with
          | zero => cases he
          | succ n => exact Nat.succ_pos n
        have p : PF X.K cA W (asgds b ++ asgdh [(k, some i, [.ret (.flg g i)])]) σ F H Af (if (c < T.nx ∧ k < T.nx) ∧ i = i then
          if T.sub c k then .ok (.ret (.val (.list ((T.fl g c).map .bool))), ownFree env) else .err c
          else .stuck) D := p
        intro σ' F' H' e1 e2 fr dm σ''
        split at p
        · rename_i hk
          refine ⟨T.sub c k, hX.exm c k hk.1.1 hk.1.2, fun hb1 a ha => ?_, fun hb1 => ?_⟩
          · rw [if_pos hb1] at p
            refine ⟨n0, ⟨σ'', rfl⟩, c, hk.1.1, rfl, rfl, fun q hq => ?_⟩
            show D.rt _ _
            refine ret_new (W := W) (cA := cA) (D := D) (N := upd (fun _ => none) q (.lst ((T.fl g c).map V.bl))) s p e1 e2 fr dm (upd_ex hq) (fun z hz => ?_) (fun z u e => ?_) (.lst upd_same (rep_bools _ _))
            · unfold upd at hz
              split at hz
              · rename_i w; rw [w]; exact hq
              · exact absurd rfl hz
            · unfold upd at e ⊢
              split at e
              · rename_i w; rw [if_pos w]; exact e
              · cases e
          · rw [hb1] at p
            exact p σ'' F' H' e1 e2 fr dm
        · exact p.elim
    · exact p.elim
  · cases hh
end
end Ev

end
section
set_option autoImplicit false
set_option linter.all false
set_option maxRecDepth 100000
/-! The evaluator is sound: statements. -/
namespace Ev
open PySem L2 PyProof.Rows RZ

section
variable {nm : Names} {T : Tab} {cA fA : Nat → Addr} {n : Nat} {W : WX} {X : Cx}
theorem kind_eq (y : Str) : (X.env.kindOf y == some NameKind.local) = decide (X.env.scope.names.lookup y = some .local) := by
  unfold PySem.Env.kindOf
  cases X.env.scope.names.lookup y with
  | none => rfl
  | some k => cases k <;> rfl
theorem swN_spec (hk : X.env.scope.kind = .function) {tg value : Expr} (h : swN X.env.scope tg value = true) : swappedStores [tg] value X.env = pure none := by
  have hb : X.env.blockKind = .function := by unfold PySem.Env.blockKind; rw [hk]; rfl
  unfold swappedStores
  cases tg with
  | Tuple ts k p =>
    cases value with
    | Tuple vs k2 p2 =>
      have h : (!(ts.length == 2 || ts.length == 3) || (vs.length != ts.length || ((ts.filterMap (nameAt X.env.scope ((ts.head?.map (·.pos.line)).getD 0))).length != ts.length || vs.all (foldedForSure 8)))) = true := h
      simp only [hb]
      by_cases h1 : (!(ts.length == 2 || ts.length == 3) || vs.length != ts.length) = true
      · simp only [h1, Bool.true_or, if_true]
      · have h1 : (!(ts.length == 2 || ts.length == 3) || vs.length != ts.length) = false := by simpa using h1
        rw [← Bool.or_assoc, h1, Bool.false_or] at h
        simp only [h1]
        rw [if_neg (by decide)]
        split
        · rfl
        · rcases (Bool.or_eq_true _ _).mp h with h | h
          · exact if_pos ((Bool.or_eq_true _ _).mpr (.inl h))
          · split
            · rfl
            · first | rfl | exact if_pos h
    | _ => rfl
  | List es p =>
    cases value with
    | Tuple vs k2 p2 => cases h
    | _ => rfl
  | _ => rfl
theorem parB2_spec (hk : X.env.scope.kind = .function) {x y : Str} {px py pt pt2 : Pos} {kt k2 : Nat} {a b : Expr} (ha : noStar a = true) (hb : noStar b = true) (hx : X.env.scope.names.lookup x = some .local) (hy : X.env.scope.names.lookup y = some .local) (hl : (py.line == px.line) = true) (hxy : x ≠ y)
    (h1 : ([a, b].all (foldedForSure 8)) = false) (h2 : ([a, b].all (constantsAlone 8)) = false) : swappedStores [.Tuple [.Name x px, .Name y py] kt pt] (.Tuple [a, b] k2 pt2) X.env = pure (some [x, y]) := by
  have hbk : X.env.blockKind = .function := by unfold PySem.Env.blockKind; rw [hk]; rfl
  have kx : (X.env.kindOf x == some NameKind.local) = true := by rw [kind_eq, hx]; rfl
  have ky : (X.env.kindOf y == some NameKind.local) = true := by rw [kind_eq, hy]; rfl
  have e : ∀ f : Expr → Option Str, f (.Name x px) = some x → f (.Name y py) = some y → [Expr.Name x px, Expr.Name y py].filterMap f = [x, y] := fun f h1 h2 => by
    rw [List.filterMap_cons_some h1, List.filterMap_cons_some h2, List.filterMap_nil]
  have hd : ([x, y] : List Str).eraseDups = [x, y] := by
    have : (y == x) = false := beq_eq_false_iff_ne.mpr (Ne.symm hxy)
    rw [List.eraseDups_cons, List.filter_cons, this]
    rfl
  unfold swappedStores
  simp only [hbk]
  refine Eq.trans (if_neg (fun z => Bool.noConfusion (show false = true from z))) ?_
  refine Eq.trans (if_neg (fun z => ?_)) ?_
  · simp only [List.any_cons, List.any_nil, Bool.or_false, Bool.or_eq_true] at z
    rcases z with z | z
    · cases a <;> first | (cases ha; done) | exact Bool.noConfusion (show false = true from z)
    · cases b <;> first | (cases hb; done) | exact Bool.noConfusion (show false = true from z)
  rw [e _ (by
    show (if (X.env.kindOf x == some NameKind.local && px.line == px.line) = true then some x else none) = some x
    rw [kx, beq_self_eq_true]; rfl) (by
    show (if (X.env.kindOf y == some NameKind.local && py.line == px.line) = true then some y else none) = some y
    rw [ky, hl]; rfl)]
  refine Eq.trans (if_neg (fun z => ?_)) ?_
  · rw [hd] at z; exact Bool.noConfusion (show false = true from z)
  refine Eq.trans (if_neg (by rw [h1]; decide)) ?_
  exact Eq.trans (if_neg (by rw [h2]; decide)) rfl
theorem parB3_spec (hk : X.env.scope.kind = .function) {x y u : Str} {px py pu pt pt2 : Pos} {kt k2 : Nat} {a b c : Expr} (ha : noStar a = true) (hb : noStar b = true) (hc : noStar c = true) (hx : X.env.scope.names.lookup x = some .local) (hy : X.env.scope.names.lookup y = some .local) (hu : X.env.scope.names.lookup u = some .local)
    (hl : (py.line == px.line) = true) (hl2 : (pu.line == px.line) = true) (hxy : x ≠ y) (hxu : x ≠ u) (hyu : y ≠ u)
    (h1 : ([a, b, c].all (foldedForSure 8)) = false) (h2 : ([a, b, c].all (constantsAlone 8)) = false) : swappedStores [.Tuple [.Name x px, .Name y py, .Name u pu] kt pt] (.Tuple [a, b, c] k2 pt2) X.env = pure (some [x, y, u]) := by
  have hbk : X.env.blockKind = .function := by unfold PySem.Env.blockKind; rw [hk]; rfl
  have kx : (X.env.kindOf x == some NameKind.local) = true := by rw [kind_eq, hx]; rfl
  have ky : (X.env.kindOf y == some NameKind.local) = true := by rw [kind_eq, hy]; rfl
  have ku : (X.env.kindOf u == some NameKind.local) = true := by rw [kind_eq, hu]; rfl
  have e : ∀ f : Expr → Option Str, f (.Name x px) = some x → f (.Name y py) = some y → f (.Name u pu) = some u → [Expr.Name x px, Expr.Name y py, Expr.Name u pu].filterMap f = [x, y, u] := fun f h1 h2 h3 => by
    rw [List.filterMap_cons_some h1, List.filterMap_cons_some h2, List.filterMap_cons_some h3, List.filterMap_nil]
  have hd : ([x, y, u] : List Str).eraseDups = [x, y, u] := by
    have e1 : (y == x) = false := beq_eq_false_iff_ne.mpr (Ne.symm hxy)
    have e2 : (u == x) = false := beq_eq_false_iff_ne.mpr (Ne.symm hxu)
    have e3 : (u == y) = false := beq_eq_false_iff_ne.mpr (Ne.symm hyu)
    rw [List.eraseDups_cons, List.filter_cons, e1, List.filter_cons, e2]
    show x :: ([y, u] : List Str).eraseDups = _
    rw [List.eraseDups_cons, List.filter_cons, e3]
    rfl
  unfold swappedStores
  simp only [hbk]
  refine Eq.trans (if_neg (fun z => Bool.noConfusion (show false = true from z))) ?_
  refine Eq.trans (if_neg (fun z => ?_)) ?_
  · simp only [List.any_cons, List.any_nil, Bool.or_false, Bool.or_eq_true] at z
    rcases z with z | z | z
    · cases a <;> first | (cases ha; done) | exact Bool.noConfusion (show false = true from z)
    · cases b <;> first | (cases hb; done) | exact Bool.noConfusion (show false = true from z)
    · cases c <;> first | (cases hc; done) | exact Bool.noConfusion (show false = true from z)
  rw [e _ (by
    show (if (X.env.kindOf x == some NameKind.local && px.line == px.line) = true then some x else none) = some x
    rw [kx, beq_self_eq_true]; rfl) (by
    show (if (X.env.kindOf y == some NameKind.local && py.line == px.line) = true then some y else none) = some y
    rw [ky, hl]; rfl) (by
    show (if (X.env.kindOf u == some NameKind.local && pu.line == px.line) = true then some u else none) = some u
    rw [ku, hl2]; rfl)]
  refine Eq.trans (if_neg (fun z => ?_)) ?_
  · rw [hd] at z; exact Bool.noConfusion (show false = true from z)
  refine Eq.trans (if_neg (by rw [h1]; decide)) ?_
  exact Eq.trans (if_neg (by rw [h2]; decide)) rfl

/-! one statement -/
theorem as_any (hX : AtF nm T cA fA n W X) {ev : E → Env → Res (O × Env)} {t : Tgt} {e : E} {tg a : Expr} {pos : Pos} (se : SE X cA W ev e a) (ht : chkT X.N X.env.scope t tg = true) (hw : swN X.env.scope tg a = true) (hv : okV a = true) :
    PS X (.Assign [tg] a pos) (tAsg (TO X cA W (ev e)) (gT X.K t)) := by
  have hg := g_tgt hX.nd hX.calm hX.cel t ht
  have hw := swN_spec (X := X) hX.kind hw
  have h1 : (assignEach [tg] X.env).map (·.2) = [assign tg X.env] := by
    cases t with
    | nm i => cases tg with
      | Name x p => rfl
      | _ => cases ht
    | tup ts => cases tg with
      | Tuple es k p => rfl
      | _ => cases ht
  cases t with
  | nm i =>
    cases tg with
    | Name x p =>
      have ht : isLc X.N X.env.scope i x = true := ht
      unfold isLc at ht
      rw [Bool.and_eq_true, decide_eq_true_eq] at ht
      have hs := swapsWith_as (X := X) (value := a) (t := x) (py := p) (l := pos.line) hX.kind hv
      cases hb : swB X.env.scope (.Name x p) a with
      | false =>
        rw [hb] at hs
        exact ps_asg se.pe hg hs hw h1
      | true =>
        rw [hb] at hs
        cases a with
        | ListComp elt gs s p2 =>
          have hb : (decide (X.env.scope.names.lookup x = some .local) && (p.line == p2.line) && !(s.names.any (fun (n, k) => n == x && (k == .local || k == .cell)))) = true := hb
          simp only [Bool.and_eq_true, decide_eq_true_eq] at hb
          exact se.as_ i x p pos rfl ht.2 hb.1.1 hs
        | _ => cases hb
    | _ => cases ht
  | tup ts =>
    cases tg with
    | Tuple es k p =>
      refine ps_asg se.pe hg ?_ hw h1
      cases a <;> first | rfl | cases hv
    | _ => cases ht
theorem s_one (hX : AtF nm T cA fA (n + 1) W X) {blk : List S → List Stmt → Bool} (HB : ∀ ss sts, blk ss sts = true → PSs X sts (TS' X cA W (asgds ss) (exN T n ss))) (HT : ∀ (W' : WX) (pn : List (Addr × Obj)) (xe : Value → Shared → Prop), L2N.Takes (X.tr pn xe) W' → PassesOwn (model X.prog X.w) X.A X.env xe → (∀ c d σ σ' H, W' c d σ H → W' c d σ' H) → ∀ ss sts, blk ss sts = true → PSs (X.tr pn xe) sts (TS' X cA W' (asgds ss) (exN T n ss))) {s : S} {st : Stmt} (h : chkS1 nm X.N (chkE nm X.N 60) blk X.env.scope s st = true) : PS X st (TS' X cA W (asgd s) (one T (evN T n) (exN T n) s)) := by
  have hA : At nm T cA fA n W X := hX.toAt.down (Nat.le_succ n)
  have hF : AtF nm T cA fA n W X := ⟨hA, hX.kind, hX.cel, hX.po, hX.stk, hX.frm⟩
  have ih : ∀ e a, chkE nm X.N 60 X.env.scope e a = true → SE X cA W (evN T n) e a := sE n X W hA 60
  cases s with
  | asg t e =>
    simp only [chkS1] at h
    split at h
    · simp only [Bool.and_eq_true] at h
      obtain ⟨h1, h2, h3, h4⟩ := h
      exact (as_any hF (ih _ _ h4) h1 h2 h3).mono fun D σ H q => s_asg (fun σ H Q z => TG.freeze z) q
    · cases h
  | asgO i e =>
    simp only [chkS1] at h
    split at h
    · simp only [Bool.and_eq_true] at h
      obtain ⟨h1, h2, h3, h4⟩ := h
      exact (as_any (t := .nm i) hF (ih _ _ h4) h1 h2 h3).mono fun D σ H q => s_asgO (fun σ H Q z => z) q
    · cases h
  | par is own es =>
    simp only [chkS1] at h
    split at h
    · rw [Bool.and_eq_true] at h
      obtain ⟨k1, k2⟩ := a_os hA (fun e a q => (ih e a q).pe) own es _ h.2
      have h := h.1
      unfold parB at h
      split at h
      · simp only [Bool.and_eq_true, decide_eq_true_eq, Bool.not_eq_true'] at h
        obtain ⟨⟨⟨⟨⟨⟨⟨⟨h1, h2⟩, h3⟩, h4⟩, h5⟩, h6⟩, h7⟩, h8⟩, h9⟩ := h
        unfold isLc at h1 h2
        simp only [Bool.and_eq_true, decide_eq_true_eq] at h1 h2
        simp only [List.all_cons, List.all_nil, Bool.and_true, Bool.and_eq_true] at k2
        refine (ps_par hX.calm hX.nd h1.2 h2.2 h3 h4 h5 k1 (parB2_spec hX.kind k2.1 k2.2 h4 h5 h6 h7 h8 h9)).mono fun D σ H q => ?_
        refine TG.imp (s_par q) fun vs H1 z => ?_
        obtain ⟨z1, z2⟩ := z
        match vs, z1 with
        | [v, w], _ => exact ⟨v, w, rfl, z2⟩
      · simp only [Bool.and_eq_true, decide_eq_true_eq, Bool.not_eq_true'] at h
        obtain ⟨⟨⟨⟨⟨⟨⟨⟨⟨⟨⟨⟨⟨⟨⟨h1, h2⟩, h3⟩, h4⟩, h5⟩, h6⟩, h7⟩, h8⟩, h9⟩, h10⟩, h11⟩, h12⟩, h13⟩, h14⟩, h15⟩, h16⟩ := h
        unfold isLc at h1 h2 h3
        simp only [Bool.and_eq_true, decide_eq_true_eq] at h1 h2 h3
        simp only [List.all_cons, List.all_nil, Bool.and_true, Bool.and_eq_true] at k2
        refine (ps_par3 hX.calm hX.nd h1.2 h2.2 h3.2 h4 h5 h6 h7 h8 h9 k1 (parB3_spec hX.kind k2.1 k2.2.1 k2.2.2 h7 h8 h9 h10 h11 h12 h13 h14 h15 h16)).mono fun D σ H q => ?_
        refine TG.imp (s_par q) fun vs H1 z => ?_
        obtain ⟨z1, z2⟩ := z
        match vs, z1 with
        | [v, w, u], _ => exact ⟨v, w, u, rfl, z2⟩
      · cases h
    · cases h
  | setIx i ix e =>
    simp only [chkS1] at h
    split at h
    · simp only [Bool.and_eq_true] at h
      obtain ⟨h1, h2, h3, h4, h5⟩ := h
      obtain ⟨v1, v2, v3, v4⟩ := isVr_spec h2
      rename_i x px c ps a pos
      have hg := pg_sub (pos := ps) (pe_var (pos := px) v1 v2 v3 v4) (ih _ _ h3).pe.toD (set_list (X := X)) (by cases c <;> first | (intro _; rfl) | cases h1)
      refine (ps_asg (ih _ _ h5).pe.toD hg (by cases a <;> first | rfl | cases h4) ?_ rfl).mono fun D σ H q => s_setIx q
      refine swN_spec hX.kind ?_
      unfold swN
      cases a <;> rfl
    · cases h
  | aug i o e =>
    simp only [chkS1] at h
    split at h
    · simp only [Bool.and_eq_true, decide_eq_true_eq] at h
      obtain ⟨h1, h2, h3⟩ := h
      unfold isLc at h1
      rw [Bool.and_eq_true, decide_eq_true_eq] at h1
      have hl := hX.cel _ h1.1
      cases o with
      | add =>
        cases h2
        exact (ps_aug hX.nd h1.2 hl.1 (ih _ _ h3).pe.toD ip_add hl.2).mono fun D σ H q => s_aug (fun _ _ => rfl) q
      | sub =>
        cases h2
        exact (ps_aug hX.nd h1.2 hl.1 (ih _ _ h3).pe.toD ip_sub hl.2).mono fun D σ H q => s_aug (fun _ _ => rfl) q
      | _ => cases h2
    · cases h
  | app i e =>
    simp only [chkS1] at h
    split at h
    · simp only [Bool.and_eq_true, decide_eq_true_eq] at h
      obtain ⟨rfl, h2, h3, h4, h5⟩ := h
      obtain ⟨v1, v2, v3, v4⟩ := isVr_spec h2
      refine (ps_expr (pe_bm PySem.F.plainAttrs_list PySem.F.slot_list_append PySem.F.type_list_append mt_append (pe_var v1 v2 v3 v4) (pa_cons (ih _ _ h5).pe.toD pa_nil (star1 h3 _ _)) rfl ?_ h4 (star1 h3 _ _) rfl) rfl).mono fun D σ H q => s_app q
      rw [star1 h3]; rfl
    · cases h
  | expr e =>
    simp only [chkS1] at h
    split at h
    · rw [Bool.and_eq_true] at h
      refine (ps_expr (ih _ _ h.2).pe ?_).mono fun D σ H q => s_expr q
      rename_i a pos
      cases a <;> first | rfl | cases h.1
    · cases h
  | ifS c a b =>
    simp only [chkS1] at h
    split at h
    · simp only [Bool.and_eq_true] at h
      exact (ps_if (ih _ _ h.1).pt (HB _ _ h.2.1) (HB _ _ h.2.2)).mono fun D σ H q => s_if q
    · cases h
  | forS t it b =>
    simp only [chkS1] at h
    split at h
    · simp only [Bool.and_eq_true] at h
      obtain ⟨h1, h2, h3, h4, h5⟩ := h
      refine (ps_for hX.po hX.calm (i_any hX.toAt ih h1 fun hn => tup_tgt h3 (needs_tup h2 hn)) (g_tgt hX.nd hX.calm hX.cel t h3) (HB _ _ h5) (plain_fold h4 _)).mono fun D σ H q => s_for q
    · cases h
  | whileS c b =>
    simp only [chkS1] at h
    split at h
    · rw [Bool.and_eq_true] at h
      exact (ps_while hX.po (ih _ _ h.1).pt (HB _ _ h.2)).mono fun D σ H q => s_while q
    · cases h
  | ret e =>
    simp only [chkS1] at h
    split at h
    · exact (ps_ret (ih _ _ h).pe.toD).mono fun D σ H q => s_ret q
    · split at h
      · refine ps_retN.mono fun D σ H ⟨F, Af, env, s, p⟩ => ?_
        cases n with
        | zero => exact p.elim
        | succ n => exact p .non σ F H Af [] (Same.refl _ _) s Stp.refl (.val .non) .nil fun _ z => nomatch z
      · cases h
    · cases h
  | retO e =>
    simp only [chkS1] at h
    split at h
    · exact (ps_ret (ih _ _ h).pe).mono fun D σ H q => s_retO q
    · cases h
  | brk =>
    simp only [chkS1] at h
    split at h
    · exact ps_break.mono fun D σ H ⟨F, Af, env, s, p⟩ => p σ F H Af (Same.refl _ _) s Stp.refl
    · cases h
  | cont =>
    simp only [chkS1] at h
    split at h
    · exact ps_continue.mono fun D σ H ⟨F, Af, env, s, p⟩ => p σ F H Af (Same.refl _ _) s Stp.refl
    · cases h
  | pass =>
    simp only [chkS1] at h
    split at h
    · exact ps_pass.mono fun D σ H ⟨F, Af, env, s, p⟩ => p σ F H Af (Same.refl _ _) s Stp.refl
    · cases h
  | raise c =>
    simp only [chkS1] at h
    split at h
    · obtain ⟨h1, h2, h3⟩ := isGl_spec h
      obtain ⟨e1, e2, e3, e4⟩ := hX.exn c _ h1
      exact (L2N.ps_raise hX.calm hX.tk (L2N.pmk_own PySem.F.excBase_ValueError e2 e1 e3 e4 h2 h3)).mono fun D σ H q => s_raise q
    · cases h
  | tryS b hs =>
    simp only [chkS1] at h
    split at h
    · rw [Bool.and_eq_true] at h
      rw [Bool.or_eq_true] at h
      rcases h.2 with h2 | h2
      · exact (ps_tryC hF (fun W' pn xe tk po ww => HT W' pn xe tk po ww _ _ h.1) h2).mono fun D σ H q => q
      · exact (ps_tryA hF (fun W' pn xe tk po ww => HT W' pn xe tk po ww _ _ h.1) h2).mono fun D σ H q => q
    · cases h
  | _ => cases h
theorem PSs.mono' {sts : List Stmt} {t t' : L2.TS} (h : PSs X sts t) (m : ∀ D σ H, t' D σ H → t D σ H) : PSs X sts t' := h.mono m
theorem s_seq (hX : AtF nm T cA fA (n + 1) W X) {one' : S → Stmt → Bool} (H1 : ∀ s st, one' s st = true → PS X st (TS' X cA W (asgd s) (one T (evN T n) (exN T n) s))) : ∀ (ss : List S) (sts : List Stmt), chkSs one' ss sts = true → PSs X sts (TS' X cA W (asgds ss) (seqS (one T (evN T n) (exN T n)) ss))
  | [], [], _ => pss_nil.mono fun D σ H ⟨F, Af, env, s, p⟩ => p σ F H Af (Same.refl _ _) s Stp.refl
  | [], _ :: _, h => by cases h
  | s :: ss, sts, h => by
    by_cases hf : ∃ is, s = .frz is
    · obtain ⟨is, rfl⟩ := hf
      have h : chkSs one' ss sts = true := by cases sts <;> exact h
      refine (s_seq hX H1 ss sts h).mono fun D σ H ⟨F, Af, env, s, p⟩ => ?_
      obtain ⟨F', Af', s', t'⟩ := s.freezeAt is
      have p : PF X.K cA W (asgds ss) σ F H Af (seqS (one T (evN T n) (exN T n)) ss (freezeAt env is)) D := p
      exact ⟨F', Af', _, s', PF.step (js := []) (fun _ z => nomatch z) (Same.refl _ _) t' p⟩
    · cases sts with
      | nil => cases s <;> first | cases h | exact absurd ⟨_, rfl⟩ hf
      | cons st sts =>
        have h : (one' s st && chkSs one' ss sts) = true := by
          cases s <;> first | exact h | exact absurd ⟨_, rfl⟩ hf
        rw [Bool.and_eq_true] at h
        refine (pss_cons (H1 s st h.1) (s_seq hX H1 ss sts h.2)).mono fun D σ H ⟨F, Af, env, s0, p⟩ => ⟨F, Af, env, s0, ?_⟩
        have p : PF X.K cA W (asgd s ++ asgds ss) σ F H Af ((one T (evN T n) (exN T n) s env).bind fun p => match p.1 with
          | .next => seqS (one T (evN T n) (exN T n)) ss p.2
          | o => .ok (o, p.2)) D := p
        have hl : ∀ i ∈ asgd s, i ∈ asgd s ++ asgds ss := fun i hi => List.mem_append_left _ hi
        cases he : one T (evN T n) (exN T n) s env with
        | stuck => rw [he] at p; exact p
        | err c => rw [he] at p; exact p
        | ok z =>
          obtain ⟨fl, env1⟩ := z
          rw [he] at p
          cases fl with
          | next => exact fun σ1 F1 H1' Af1 m s1 t1 => ⟨F1, Af1, env1, s1, PF.mono (fun i hi => List.mem_append_right _ hi) (PF.step (js := asgd s) hl m t1 p)⟩
          | brk => exact fun σ5 F5 H5 Af5 m5 s5 t5 => p σ5 F5 H5 Af5 (m5.mono hl) s5 t5
          | cont => exact fun σ5 F5 H5 Af5 m5 s5 t5 => p σ5 F5 H5 Af5 (m5.mono hl) s5 t5
          | ret o => exact fun v σ5 F5 H5 Af5 C5 m5 s5 t5 r5 nd5 un5 => p v σ5 F5 H5 Af5 C5 (m5.mono hl) s5 t5 r5 nd5 un5
theorem sS : ∀ (n m : Nat) (X : Cx) (W : WX), AtF nm T cA fA n W X → ∀ ss sts, chkB nm X.N X.env.scope m ss sts = true → PSs X sts (TS' X cA W (asgds ss) (exN T n ss))
  | _, 0, _, _, _, _, _, h => by cases h
  | 0, m + 1, X, W, hX, ss, sts, h => ⟨fun pins s σ H D I ⟨F, Af, env, s', p⟩ => p.elim⟩
  | n + 1, m + 1, X, W, hX, ss, sts, h => s_seq hX (fun s st q => s_one hX (fun ss sts q => sS n m X W ⟨hX.toAt.down (Nat.le_succ n), hX.kind, hX.cel, hX.po, hX.stk, hX.frm⟩ ss sts q) (fun W' pn xe tk po ww ss sts q => sS n m (X.tr pn xe) W' ⟨((hX.toAt.down (Nat.le_succ n)).tr tk ww), hX.kind, hX.cel, po, hX.stk, hX.frm⟩ ss sts q) q) ss sts h
end
end Ev

end
section
set_option autoImplicit false
set_option linter.all false
set_option maxRecDepth 100000
/-! The evaluator is sound: defs. -/
namespace Ev
open PySem L2 PyProof.Rows RZ

/-- what the checks say of the text's defs -/
structure DefOk (P : Program) (w : World) (K : PySem.W.Frag) (mg : Str → Option Value) (nm : Names) (T : Tab) (f : Addr) (i : Nat) (x : Str) : Prop where
  ex : ∃ (fd : FuncData) (ps N : List Str) (y qual : Str) (params : Arguments) (body : List Stmt) (scope : Scope) (dvs : List V) (kws : List (Str × V)) (d : FDef), mg x = some (.ref f) ∧ PySem.W.keepIn K (.ref f) = true ∧ Binds K fd ps [] ∧ L2.FunD K y qual params body scope dvs kws f fd ∧
    FnScope N ps scope ∧ T.fs[i]? = some d ∧ d.np = ps.length ∧ d.ns = N.length ∧ chkB { nm with rp := false } N scope 40 d.body body = true
structure TextOk (P : Program) (w : World) (K : PySem.W.Frag) (mg : Str → Option Value) (nm : Names) (T : Tab) (cA fA : Nat → Addr) : Prop where
  blt : ∀ x ∈ nm.bl, mg x = none
  cst : ∀ (i : Nat) (x : Str), nm.cn[i]? = some x → ∃ (u : Value) (v : V) (d : D), mg x = some u ∧ RelV v u ∧ T.cs[i]? = some d ∧ Rep K (fun _ => none) v d
  defs : ∀ (i : Nat) (x : Str), nm.fn[i]? = some x → DefOk P w K mg nm T (fA i) i x
  exn : ∀ (c : Nat) (x : Str), nm.ex[c]? = some x → mg x = some (.ref (cA c)) ∧ PySem.W.excIn K (cA c) [.type "ValueError", .type "Exception", .type "BaseException", .type "object"] "ValueError.__new__" = true ∧ PySem.W.keepIn K (.ref (cA c)) = true ∧ PySem.W.subIn K (.ref (cA c)) (.type "BaseException") = some true ∧ PySem.W.typeIn K (.ref (cA c)) = some (.type "type")
  exm : ∀ c k, c < T.nx → k < T.nx → PySem.W.exmOne K (.ref (cA c)) (.ref (cA k)) = some (T.sub c k)
  flg : ∀ (g : Nat) (x : Str), nm.fl[g]? = some x → FlgOk K mg cA nm T g x
  gdt : ∀ (g : Nat) (x : Str), nm.gd[g]? = some x → ∃ a es k t, mg x = some (.ref a) ∧ KDict K w a es k ∧ T.gd[g]? = some t ∧ ∀ z, ∃ r, PySem.W.nsIn K a z = some r ∧ r.isSome = (t.lookup z).isSome ∧ ∀ i, t.lookup z = some i → ∃ tok, r = some (.int i tok)
section
variable {P : Program} {w : World} {K : PySem.W.Frag} {mg : Str → Option Value} {base : Heap} {nm : Names} {T : Tab} {cA fA : Nat → Addr}
theorem start_sr {F H : Hp} {vs : List V} {os : List O} {Af : Nat → List Addr} {N : List Str} {d : FDef} (s : SR K F H (vs.map some) (os.map some) Af) (h1 : vs.length = d.np) (h2 : d.ns = N.length) : SR K F H (L2.start N vs) (os.map some ++ List.replicate (d.ns - d.np) none) Af := by
  have hl : vs.length = os.length := by have := s.len; rwa [List.length_map, List.length_map] at this
  refine ⟨s.ex, ?_, fun i o e => ?_, s.nd, s.dj, s.un, s.th⟩
  · unfold L2.start
    rw [List.length_append, List.length_append, s.len, List.length_replicate, List.length_replicate, h1, h2]
  · by_cases hi : i < os.length
    · rw [List.getElem?_append_left (by rw [List.length_map]; exact hi)] at e
      obtain ⟨v, q1, q2⟩ := s.at_ i o e
      refine ⟨v, ?_, q2⟩
      unfold L2.start
      rw [List.getElem?_append_left (by rw [List.length_map, hl]; exact hi)]
      exact q1
    · rw [List.getElem?_append_right (by rw [List.length_map]; omega), List.getElem?_replicate] at e
      split at e <;> cases e
theorem end_sr {F H : Hp} {vs : List V} {Af : Nat → List Addr} {N : List Str} {np : Nat} {σ' : L2.St} {env' : Env} {is : List Nat} (m : Same is (L2.start N vs) σ') (s : SR K F H σ' env' Af) (h1 : vs.length = np) (h2 : np ≤ N.length) : SR K F H (vs.map some) (wipeE (env'.take np) is) Af := by
  have hl : env'.length = N.length := by
    rw [← s.len, m.1]
    unfold L2.start
    rw [List.length_append, List.length_map, List.length_replicate, h1]; omega
  refine ⟨s.ex, ?_, fun i o e => ?_, s.nd, s.dj, s.un, s.th⟩
  · rw [wipeE_length, List.length_take, List.length_map, hl, h1]; omega
  · by_cases hi : i ∈ is
    · exact absurd e ((wipeE_get _ i is).2 hi o)
    · rw [(wipeE_get _ i is).1 hi] at e
      by_cases hn : i < np
      · rw [List.getElem?_take_of_lt hn] at e
        obtain ⟨v, q1, q2⟩ := s.at_ i o e
        refine ⟨v, ?_, q2⟩
        rw [m.2 i hi] at q1
        unfold L2.start at q1
        rw [List.getElem?_append_left (by rw [List.length_map, h1]; exact hn)] at q1
        exact q1
      · rw [List.getElem?_take, if_neg hn] at e
        cases e
theorem body_ok (h : TextOk P w K mg nm T cA fA) (rp : Bool) (j : Nat) (IH : ∀ j', j' < j → ∀ (i : Nat) (x : Str), nm.fn[i]? = some x → ∃ fd ps, mg x = some (.ref (fA i)) ∧ PySem.W.keepIn K (.ref (fA i)) = true ∧ Binds K fd ps [] ∧ FnOk P w K mg base (L2N.CX P w) (j' + 1) (fA i) fd ps (spF K cA T j' i))
    {i : Nat} {f : Addr} {ps N : List Str} {qual : Str} {body : List Stmt} {scope : Scope} {d : FDef} (S : FnScope N ps scope) (hd : T.fs[i]? = some d) (h1 : d.np = ps.length) (h2 : d.ns = N.length)
    (hc : chkB { nm with rp := rp } N scope 40 d.body body = true) {cdv : Value} {A : Around} {outer : List PySem.Env} {s : Shared} {H : Hp} {vs : List V} {Q : VK} {E : XK} (hr : Room j (A.deeper (envOfC qual scope s.heap.objs.size f cdv))) (hg : rp = true → A.guards = some []) (hsp : spF K cA T j i vs H Q E) :
    ∃ t, PSs (cxOf (L2N.CX P w) P w K mg base N qual scope f cdv A outer s H E) body t ∧ t { nx := fun _ H' => Q .non H', rt := Q } (L2.start N vs) H := by
  have hpl : ps.length ≤ N.length := by have := congrArg List.length S.pre; rw [List.length_take] at this; omega
  obtain ⟨F, Af, os, d', e1, e2, sr, ha, pg⟩ := hsp
  rw [hd] at e1
  cases e1
  have hA : AtF { nm with rp := rp } T cA fA j (fun cls d _ H => E cls d H) (cxOf (L2N.CX P w) P w K mg base N qual scope f cdv A outer s H E) :=
    { nd := S.nd, calm := rfl, room := hr, tk := L2N.takes_of rfl rfl rfl rfl, blt := h.blt, cst := h.cst, fns := fun j' hj i x hx => IH j' hj i x hx, wσ := fun _ _ _ _ _ h => h, exn := fun c x e => h.exn c x e |>.imp id fun z => ⟨z.1, z.2.1, L2.raises_own z.2.2.1 z.2.2.2⟩, exm := h.exm, flg := fun g x hg => flg_at h.blt (h.flg g x hg), gd := hg, gdt := h.gdt,
      kind := S.kind, cel := fun x hx => ⟨loc_spec hx, .inl rfl⟩, po := passes_of rfl, stk := rfl, frm := rfl }
  refine ⟨_, sS j 40 _ _ hA d.body body hc, F, Af, os.map some ++ List.replicate (d.ns - d.np) none, start_sr sr e2 h2, ?_⟩
  have hos : os.length = d.np := by rw [← e2]; have := sr.len; rw [List.length_map, List.length_map] at this; exact this.symm
  have pg : PG K cA (fun cls x _ H => E cls x H) (rO K) (vs.map some) F H Af ((exN T j d.body (os.map some ++ List.replicate (d.ns - d.np) none)).bind fun p => match p.1 with
        | .next => .ok (.val .none, wipeE (p.2.take d.np) (asgds d.body))
        | .ret o => .ok (o, wipeE (p.2.take d.np) (asgds d.body))
        | _ => .stuck) Q := by
    have e : callF T (exN T j) i os = (exN T j d.body (os.map some ++ List.replicate (d.ns - d.np) none)).bind fun p => match p.1 with
        | .next => .ok (.val .none, wipeE (p.2.take d.np) (asgds d.body))
        | .ret o => .ok (o, wipeE (p.2.take d.np) (asgds d.body))
        | _ => .stuck := by
      unfold callF
      rw [hd]
      exact if_pos hos
    rw [← e]; exact pg
  have hnp : d.np ≤ N.length := by rw [h1]; exact hpl
  cases he : exN T j d.body (os.map some ++ List.replicate (d.ns - d.np) none) with
  | stuck => rw [he] at pg; exact pg
  | err c => rw [he] at pg; exact fun σ' => pg
  | ok z =>
    obtain ⟨fl, env'⟩ := z
    rw [he] at pg
    cases fl with
    | next => exact fun σ' F' H' Af' m s' t => pg .non F' H' Af' [] (end_sr m s' e2 hnp) t (.val .non) .nil fun _ z => nomatch z
    | ret o => exact fun v σ' F' H' Af' C m s' t r nd un => pg v F' H' Af' C (end_sr m s' e2 hnp) t r nd un
    | brk => exact pg.elim
    | cont => exact pg.elim
theorem fn_core (h : TextOk P w K mg nm T cA fA) (j : Nat) (IH : ∀ j', j' < j → ∀ (i : Nat) (x : Str), nm.fn[i]? = some x → ∃ fd ps, mg x = some (.ref (fA i)) ∧ PySem.W.keepIn K (.ref (fA i)) = true ∧ Binds K fd ps [] ∧ FnOk P w K mg base (L2N.CX P w) (j' + 1) (fA i) fd ps (spF K cA T j' i))
    {i : Nat} {f : Addr} {fd : FuncData} {ps N : List Str} {y qual : Str} {params : Arguments} {body : List Stmt} {scope : Scope} {dvs : List V} {kws : List (Str × V)} {d : FDef} (FD : L2.FunD K y qual params body scope dvs kws f fd) (S : FnScope N ps scope) (hd : T.fs[i]? = some d) (h1 : d.np = ps.length) (h2 : d.ns = N.length)
    (hc : chkB { nm with rp := false } N scope 40 d.body body = true) : FnOk P w K mg base (L2N.CX P w) (j + 1) f fd ps (spF K cA T j i) :=
  FD.ok S (fun vs H Q E ⟨F, Af, os, d', e1, e2, _⟩ => by rw [hd] at e1; cases e1; rw [e2, h1]) fun _ _ _ _ _ _ _ _ hr hs => body_ok h false j IH S hd h1 h2 hc hr (fun z => nomatch z) hs
theorem fns (h : TextOk P w K mg nm T cA fA) : ∀ (j : Nat) (i : Nat) (x : Str), nm.fn[i]? = some x → ∃ fd ps, mg x = some (.ref (fA i)) ∧ PySem.W.keepIn K (.ref (fA i)) = true ∧ Binds K fd ps [] ∧ FnOk P w K mg base (L2N.CX P w) (j + 1) (fA i) fd ps (spF K cA T j i) := by
  intro j
  induction j using Nat.strongRecOn with
  | _ j IH =>
  intro i x hx
  obtain ⟨fd, ps, N, y, qual, params, body, scope, dvs, kws, d, m1, m2, m3, FD, S, hd, h1, h2, hc⟩ := (h.defs i x hx).ex
  exact ⟨fd, ps, m1, m2, m3, fn_core h j IH FD S hd h1 h2 hc⟩
theorem fn_at (h : TextOk P w K mg nm T cA fA) (n i : Nat) {f : Addr} {fd : FuncData} {ps N : List Str} {y qual : Str} {params : Arguments} {body : List Stmt} {scope : Scope} {dvs : List V} {kws : List (Str × V)} {d : FDef} (FD : L2.FunD K y qual params body scope dvs kws f fd) (S : FnScope N ps scope) (hd : T.fs[i]? = some d) (h1 : d.np = ps.length) (h2 : d.ns = N.length)
    (hc : chkB { nm with rp := false } N scope 40 d.body body = true) : FnOk P w K mg base (L2N.CX P w) (n + 1) f fd ps (spF K cA T n i) := fn_core h n (fun j _ => fns h j) FD S hd h1 h2 hc
/-- a def where repr may stand: by its call, at a machine that is in no repr -/
theorem run_rp (h : TextOk P w K mg nm T cA fA) (n i : Nat) {f : Addr} {fd : FuncData} {ps N : List Str} {y qual : Str} {params : Arguments} {body : List Stmt} {scope : Scope} {dvs : List V} {kws : List (Str × V)} {d : FDef} (FD : L2.FunD K y qual params body scope dvs kws f fd) (S : FnScope N ps scope) (hd : T.fs[i]? = some d) (h1 : d.np = ps.length) (h2 : d.ns = N.length)
    (hc : chkB { nm with rp := true } N scope 40 d.body body = true) {A : Around} {outer : List PySem.Env} {s : Shared} {H : Hp} {us : List Value} {vs : List V} {Q : VK} {E : XK} (hg : A.guards = some []) (hr : Room (n + 1) A) (e0 : Env0 P w K mg base A outer s H) (hb : BindsTo s fd ⟨us, []⟩ (ps.zip us)) (rv : Vals vs us) (hs : spF K cA T n i vs H Q E) :
    codeAny (model P w) A (.call (.ref f) ⟨us, []⟩) (CR (L2N.CX P w) outer P w H s Q E) s := by
  obtain ⟨oc, od, dV, kV, doc, pm, an, cdv, ct, osl, rfl, lk, hcd, _, _⟩ := FD.ex
  have hl : vs.length = ps.length := by
    obtain ⟨F, Af, os, d', e1, e2, _⟩ := hs
    rw [hd] at e1
    cases e1
    rw [e2, h1]
  refine StX.run_bnd lk hcd S hr e0 (G := fun xs H2 => xs = vs ∧ H2 = H) (fun A' Ex Q' q => hb _ _ _ _ (q s H vs us e0 .refl rfl (fun _ _ z => z) rv hl ⟨rfl, rfl⟩)) fun s2 H2 xs g hr' => ?_
  obtain ⟨g1, g2⟩ := g
  subst g1 g2
  exact body_ok h true n (fun j _ => fns h j) S hd h1 h2 hc hr' (fun _ => hg) hs
end
end Ev

end
section
set_option autoImplicit false
set_option linter.all false
set_option maxRecDepth 100000
/-! The end: from the evaluator to a law's row. -/
namespace Ev
open PySem PySem.Spec PyProof.Rows L2

def AllM (p : Str → Prop) : List Str → Prop
  | [] => True
  | x :: r => p x ∧ AllM p r
theorem all_mem {p : Str → Prop} : ∀ {l : List Str}, AllM p l → ∀ x ∈ l, p x
  | _ :: _, h, x, hx => by
    rcases List.mem_cons.mp hx with e | e
    · subst e; exact h.1
    · exact all_mem h.2 x e
def AllI (p : Nat → Str → Prop) : Nat → List Str → Prop
  | _, [] => True
  | i, x :: r => p i x ∧ AllI p (i + 1) r
theorem all_ix {p : Nat → Str → Prop} : ∀ {l : List Str} {k : Nat}, AllI p k l → ∀ (i : Nat) (x : Str), l[i]? = some x → p (k + i) x
  | [], _, _, i, x, hx => by simp at hx
  | y :: r, k, h, 0, x, hx => by cases hx; exact h.1
  | y :: r, k, h, i + 1, x, hx => by
    have := all_ix h.2 i x (by simpa using hx)
    rwa [show k + 1 + i = k + (i + 1) by omega] at this
def AllN : Nat → (Nat → Prop) → Prop
  | 0, _ => True
  | n + 1, p => p n ∧ AllN n p
theorem all_n {p : Nat → Prop} : ∀ {n : Nat}, AllN n p → ∀ i, i < n → p i
  | 0, _, i, hi => absurd hi (Nat.not_lt_zero i)
  | n + 1, h, i, hi => by
    by_cases e : i = n
    · subst e; exact h.1
    · exact all_n h.2 i (by omega)
section
variable {P : Program} {w : World} {K : PySem.W.Frag} {mg : Str → Option Value} {nm : Names} {T : Tab} {cA fA : Nat → Addr}
theorem all_def (h : AllI (fun i x => DefOk P w K mg nm T (fA i) i x) 0 nm.fn) : ∀ (i : Nat) (x : Str), nm.fn[i]? = some x → DefOk P w K mg nm T (fA i) i x := fun i x hx => by
  have := all_ix h i x hx
  rwa [Nat.zero_add] at this
theorem all_cst (h : AllI (fun i x => ∃ (u : Value) (v : V) (d : D), mg x = some u ∧ RelV v u ∧ T.cs[i]? = some d ∧ Rep K (fun _ => none) v d) 0 nm.cn) : ∀ (i : Nat) (x : Str), nm.cn[i]? = some x → ∃ (u : Value) (v : V) (d : D), mg x = some u ∧ RelV v u ∧ T.cs[i]? = some d ∧ Rep K (fun _ => none) v d := fun i x hx => by
  have := all_ix h i x hx
  rwa [Nat.zero_add] at this
theorem all_exn {cA : Nat → Addr} (h : AllI (fun c x => mg x = some (.ref (cA c)) ∧ PySem.W.excIn K (cA c) [.type "ValueError", .type "Exception", .type "BaseException", .type "object"] "ValueError.__new__" = true ∧ PySem.W.keepIn K (.ref (cA c)) = true ∧ PySem.W.subIn K (.ref (cA c)) (.type "BaseException") = some true ∧ PySem.W.typeIn K (.ref (cA c)) = some (.type "type")) 0 nm.ex) :
    ∀ (c : Nat) (x : Str), nm.ex[c]? = some x → mg x = some (.ref (cA c)) ∧ PySem.W.excIn K (cA c) [.type "ValueError", .type "Exception", .type "BaseException", .type "object"] "ValueError.__new__" = true ∧ PySem.W.keepIn K (.ref (cA c)) = true ∧ PySem.W.subIn K (.ref (cA c)) (.type "BaseException") = some true ∧ PySem.W.typeIn K (.ref (cA c)) = some (.type "type") := fun c x hx => by
  have := all_ix h c x hx
  rwa [Nat.zero_add] at this
theorem cst_int {x : Str} {k : Int} {o : Option D} (h : ∃ t, mg x = some (.int k t)) (ho : o = some (.int k)) : ∃ (u : Value) (v : V) (d : D), mg x = some u ∧ RelV v u ∧ o = some d ∧ Rep K (fun _ => none) v d := by
  obtain ⟨t, e⟩ := h
  exact ⟨_, .int k, _, e, ⟨t, rfl⟩, ho, .int k⟩
end
theorem room_at {n : Nat} (h : n ≤ 220) : Room (n + 1) callerA := by
  have h0 : callerA.depth ≤ 301 := by decide +kernel
  have h1 : callerA.units ≤ 100 := by decide +kernel
  have h2 : cLine = 9900 := rfl
  have h3 : recursionLimit = 1000 := rfl
  exact ⟨rfl, by omega, by omega⟩
theorem walk_end {l : PySem.W.OpenLaw} {n k : Nat} {q : Program} {loose : List Str} {XP : (Str → Option Value) → Heap → Prop} {YP : World → Heap → Prop} {d : DefRec} {x : Str}
    (hn : l.most = some n) (hn2 : n ≤ sizeLine) (hdf : d.params.defaults = []) (hr : Room k callerA)
    (F : ∀ (w : World) (mg : Str → Option Value) (fa : Addr) (h : Heap), YP w h → h.Ns mainGlobals mg → mg d.name = some (.ref fa) →
      ∃ (K : PySem.W.Frag) (fd : FuncData) (sp : Sp), K.In h ∧ (∀ (s : Shared) (u : Value), BindsTo s fd ⟨[u], []⟩ [(x, u)]) ∧
        (∀ (H : Hp) (a : Addr) (ns : List Int), ns.length ≤ n → (∀ z ∈ ns, Builtin.Int.intBits z ≤ 1048576) → Only H → SqL K H a (ns.map V.int) → sp [.ref a] H (fun v _ => v = .bl true) fun _ _ _ => False) ∧
        ∀ base : Heap, K.In base → base.Ns mainGlobals mg → FnOk l.prog w K mg base (L2N.CX l.prog w) k fa fd [x] sp) :
    PySem.W.WalkO q loose XP YP l.row.toRowW d [] (fun f vs => PySem.call f vs) := by
  refine Att.attach_callB hn hdf fun w s₀ s₁ mg mb fa o pm cd doc a vs ns G Y ho hd hcd hmg hobj hints hlen hbits hg => ?_
  obtain ⟨K, fd, sp, KX, hb, hsp, hF⟩ := F w mg fa _ Y G.T.g hmg
  refine law_call KX G.T.g G.T.b G.T.builtins G.T.nolimit hg hobj hints (Nat.le_trans hlen hn2) hr hF hb (fun H hO hS => hsp H a ns hlen hbits hO hS) fun H e s' hc => ?_
  obtain ⟨_, _, _, _, _, _, _, _, _, _, _, _, f⟩ := hc
  exact f
/-- the law's call, where the machine is in no repr: what HandS asks of a promise is asked at the caller's machine alone -/
theorem law_at {P : Program} {w : World} {K : PySem.W.Frag} {mg mb : Str → Option Value} {fa a : Addr} {t : Shared} {us : List Value} {ns : List Int}
    (kin : K.In t.heap) (nm : t.heap.Ns mainGlobals mg) (nb : t.heap.Ns builtinsNs mb) (bb : ∀ x : Str, x ≠ "__name__" → mb x = bootBuiltins x) (nl : t.heap.NoLimit) (g0 : t.gens = #[])
    (oa : t.heap.get? a = some { cls := .type "list", data := .seq us.toArray }) (ia : IntsAre us ns) (la : ns.length ≤ sizeLine)
    (run : ∀ (b0 : Heap) (H : Hp), K.In b0 → b0.Ns mainGlobals mg → Env0 P w K mg b0 callerA [] t H → SqL K H a (ns.map V.int) → codeAny (model P w) callerA (.call (.ref fa) ⟨[.ref a], []⟩) (CR (L2N.CX P w) [] P w H t (fun v _ => v = .bl true) fun _ _ _ => False) t) :
    codeAny (model P w) callerA (.call (.ref fa) ⟨[.ref a], []⟩) (fun r t' => r = .ok (.ret (.bool true)) ∧ OldK t.heap t'.heap ∧ t'.os = t.os ∧ AllBare t'.gens) t := by
  let ob : Obj := { cls := .type "list", data := .seq us.toArray }
  let H : Hp := fun b => if b = a ∧ K.lookup a = none then some (.frz ob (.lst (ns.map V.int))) else none
  have HS : ∀ b u, H b = some u → b = a ∧ K.lookup a = none ∧ u = .frz ob (.lst (ns.map V.int)) := fun b u e => by
    by_cases c : b = a ∧ K.lookup a = none
    · have e' : (some (HO.frz ob (.lst (ns.map V.int)))) = some u := (if_pos c).symm.trans e
      exact ⟨c.1, c.2, (Option.some.inj e').symm⟩
    · have e' : (none : Option HO) = some u := (if_neg c).symm.trans e
      cases e'
  have vi := vals_ints ia
  have li : (ns.map V.int).length ≤ sizeLine := by rw [List.length_map]; exact la
  have hok : HOk P w H t.heap := fun b u e => by
    obtain ⟨rfl, _, rfl⟩ := HS b u e
    exact ⟨oa, li, us, _, vi, oa⟩
  have sq : SqL K H a (ns.map V.int) := by
    cases ek : K.lookup a with
    | none => exact .inl (.inr ⟨ob, if_pos ⟨rfl, ek⟩⟩)
    | some o =>
      have := (kin a o ek).symm.trans oa
      cases this
      exact .inr ⟨ob, us.toArray, _, ek, rfl, rfl, rfl, by rw [List.size_toArray, ia.length]; exact la, by simpa using vi⟩
  have free : ∀ {b : Addr} {o : Obj}, t.heap.get? b = some o → (∀ vs n, o.data ≠ .seq vs n) → H b = none := fun {b o} e d => by
    cases q : H b with
    | none => rfl
    | some u =>
      obtain ⟨rfl, _, _⟩ := HS b u q
      rw [oa] at e
      cases e
      exact absurd rfl (d us.toArray _)
  have nsb : ∀ {b : Addr} {m : Str → Option Value}, t.heap.Ns b m → (hidT t.heap H).Ns b m := fun {b m} ⟨o, es, ep, e, d, r⟩ => ⟨o, es, ep, hidT_get e (free e fun vs n z => by rw [d] at z; cases z), d, r⟩
  have kb : K.In (hidT t.heap H) := fun b o e => hidT_get (kin b o e) (by
    cases q : H b with
    | none => rfl
    | some u =>
      obtain ⟨rfl, k0, _⟩ := HS b u q
      rw [k0] at e
      cases e)
  have e0 : Env0 P w K mg (hidT t.heap H) callerA [] t H :=
    { frames := rfl, mod := ⟨kb, nsb nm, ⟨mb, nsb nb, bb⟩, nl.imp fun _ z => ⟨nsb z.1, z.2⟩⟩, bs := fun _ _ => of_hidT, bsz := Nat.le_of_eq (hidT_size _ _), funs := trivial, frf := fun b z => (nomatch (show b ∈ ([] : List Addr) from z)), hok := hok, bare := .of_eq g0 }
  refine codeAny_mono (run _ H kb (nsb nm) e0 sq) fun r t' z => ?_
  match r, z with
  | .ok (.ret u), z =>
    obtain ⟨v, H', z1, z2, z3, z4, z5, z6⟩ := z
    cases z6
    cases z5
    refine ⟨rfl, .of_keep fun b o e => ?_, z1, z2⟩
    cases q : H b with
    | none => exact z3.keep b o e q (fun y => (nomatch (show b ∈ ([] : List Addr) from y))) (fun y => nomatch y)
    | some u =>
      obtain ⟨_, _, rfl⟩ := HS b u q
      have k1 := (z4 b _ (z3.frzs b ob _ q)).1
      have k2 := (hok b _ q).1
      rw [e] at k2
      rw [Option.some.inj k2]
      exact k1
  | .error e, z => exact (by obtain ⟨_, _, _, _, _, _, _, _, _, _, _, _, f⟩ := z; exact f.elim)
  | .ok .next, z => exact z.elim
  | .ok .brk, z => exact z.elim
  | .ok .cont, z => exact z.elim
theorem walk_endR {l : PySem.W.OpenLaw} {n : Nat} {q : Program} {loose : List Str} {XP : (Str → Option Value) → Heap → Prop} {YP : World → Heap → Prop} {d : DefRec}
    (hn : l.most = some n) (hn2 : n ≤ sizeLine) (hdf : d.params.defaults = [])
    (F : ∀ (w : World) (mg : Str → Option Value) (fa : Addr) (h : Heap), YP w h → h.Ns mainGlobals mg → mg d.name = some (.ref fa) →
      ∃ (K : PySem.W.Frag), K.In h ∧ ∀ (t : Shared) (a : Addr) (ns : List Int), ns.length ≤ n → (∀ z ∈ ns, Builtin.Int.intBits z ≤ 1048576) →
        ∀ (b0 : Heap) (H : Hp), K.In b0 → b0.Ns mainGlobals mg → Env0 l.prog w K mg b0 callerA [] t H → SqL K H a (ns.map V.int) → codeAny (model l.prog w) callerA (.call (.ref fa) ⟨[.ref a], []⟩) (CR (L2N.CX l.prog w) [] l.prog w H t (fun v _ => v = .bl true) fun _ _ _ => False) t) :
    PySem.W.WalkO q loose XP YP l.row.toRowW d [] (fun f vs => PySem.call f vs) := by
  refine Att.attach_callB hn hdf fun w s₀ t mg mb fa o pm cd doc a us ns G Y _ _ _ hmg oa ia hl hb hg => ?_
  obtain ⟨K, kin, run⟩ := F w mg fa _ Y G.T.g hmg
  exact law_at kin G.T.g G.T.b G.T.builtins G.T.nolimit hg oa ia (Nat.le_trans hl hn2) (run t a ns hl hb)
theorem sp_law {K : PySem.W.Frag} {cA : Nat → Addr} {T : Tab} {n i : Nat} {H : Hp} {a : Addr} {ns : List Int} {d : FDef} (hd : T.fs[i]? = some d) (hp : d.np = 1) (hS : SqL K H a (ns.map V.int)) (law : ∃ env, callF T (exN T n) i [.scr ns] = .ok (.val (.bool true), env)) :
    spF K cA T n i [.ref a] H (fun v _ => v = .bl true) fun _ _ _ => False := by
  obtain ⟨env, e⟩ := law
  refine ⟨H, fun _ => [], [.scr ns], d, hd, by rw [hp]; rfl, ⟨Ex.refl _, rfl, fun j o h => ?_, fun _ => .nil, fun _ _ _ h => (nomatch h), fun _ _ h => (nomatch h), fun _ _ h => (nomatch h)⟩, fun _ _ => rfl, ?_⟩
  · cases j with
    | zero => cases h; exact ⟨_, rfl, .scr hS⟩
    | succ j => simp at h
  · rw [e]
    intro v F' H' Af' C s t r nd un
    exact (RO.val_inv r).1.bl_inv
end Ev

end
section
set_option autoImplicit false
set_option linter.all false
set_option maxRecDepth 100000
/-! Running the evaluator: what the plain part of a law uses. -/
namespace Ev
open PySem
section
variable {T : Tab} {n : Nat} {ev : E → Env → Res (O × Env)} {exs : List S → Env → Res (Fl × Env)}
theorem evS (e : E) (env : Env) : evN T (n + 1) e env = stepE T (evN T n) (exN T n) e env := rfl
theorem exS (ss : List S) (env : Env) : exN T (n + 1) ss env = seqS (one T (evN T n) (exN T n)) ss env := rfl
theorem okb {α β : Type} (a : α) (f : α → Res β) : (Res.ok a).bind f = f a := rfl
theorem stb {α β : Type} (f : α → Res β) : (Res.stuck : Res α).bind f = .stuck := rfl

/-- what a def gives, its values told -/
def Ret (T : Tab) (n f : Nat) (os : List O) (o : O) : Prop := ∃ env, callF T (exN T n) f os = .ok (o, env)
theorem lentOk_none {f : Nat} {as : List (Option Nat × D)} (h : as.all (fun a => a.1.isNone) = true) (hf : ∃ d, T.fs[f]? = some d) : lentOk T f as = true := by
  obtain ⟨d, hd⟩ := hf
  unfold lentOk
  rw [hd]
  refine List.all_eq_true.mpr fun j hj => ?_
  cases e : as[j]? with
  | none => rfl
  | some a =>
    obtain ⟨i, d'⟩ := a
    have := List.all_eq_true.mp h _ (List.mem_of_getElem? e)
    cases i with
    | none => rfl
    | some i => cases this
theorem callF_fs {f : Nat} {os : List O} {p : O × Env} (h : callF T exs f os = .ok p) : ∃ d, T.fs[f]? = some d := by
  unfold callF at h
  cases e : T.fs[f]? with
  | none => rw [e] at h; cases h
  | some d => exact ⟨d, rfl⟩
theorem callA_pure {f : Nat} {ds : List D} {o : O} (env : Env) (h : Ret T n f (ds.map .val) o) : callA T (exN T n) f (ds.map fun d => (none, d)) env = .ok (o, env) := by
  obtain ⟨env', h⟩ := h
  have h1 : lent (ds.map fun d => ((none : Option Nat), d)) = [] := by
    clear h
    induction ds with
    | nil => rfl
    | cons d ds ih => exact ih
  have h2 : argOs env (ds.map fun d => ((none : Option Nat), d)) = some (ds.map .val) := by
    clear h h1
    induction ds with
    | nil => rfl
    | cons d ds ih => show (match some (O.val d), argOs env _ with | some o, some os => some (o :: os) | _, _ => none) = _; rw [ih]; rfl
  have h3 : ∀ env' : Env, backs env (ds.map fun d => ((none : Option Nat), d)) env' = env := by
    clear h h1 h2
    induction ds with
    | nil => intro env'; cases env' <;> rfl
    | cons d ds ih => intro env'; cases env' with
      | nil => rfl
      | cons o os => exact ih os
  unfold callA
  rw [if_pos ⟨by rw [h1]; exact .nil, lentOk_none (List.all_eq_true.mpr fun a ha => by obtain ⟨d, _, rfl⟩ := List.mem_map.mp ha; rfl) (callF_fs h)⟩, h2]
  show ((callF T (exN T n) f (ds.map .val)).bind fun p => .ok (p.1, backs env (ds.map fun d => (none, d)) p.2)) = _
  rw [h]
  show Res.ok (o, backs env _ env') = _
  rw [h3]
theorem call0 {f : Nat} {o : O} (env : Env) (h : Ret T n f [] o) : callA T (exN T n) f [] env = .ok (o, env) := callA_pure (ds := []) env h
theorem call1 {f : Nat} {a : D} {o : O} (env : Env) (h : Ret T n f [.val a] o) : callA T (exN T n) f [(none, a)] env = .ok (o, env) := callA_pure (ds := [a]) env h
theorem call2 {f : Nat} {a b : D} {o : O} (env : Env) (h : Ret T n f [.val a, .val b] o) : callA T (exN T n) f [(none, a), (none, b)] env = .ok (o, env) := callA_pure (ds := [a, b]) env h
theorem call3 {f : Nat} {a b c : D} {o : O} (env : Env) (h : Ret T n f [.val a, .val b, .val c] o) : callA T (exN T n) f [(none, a), (none, b), (none, c)] env = .ok (o, env) := callA_pure (ds := [a, b, c]) env h

/-! comprehensions -/
theorem wipeE_idem (env : Env) (vs : List Nat) : wipeE (wipeE env vs) vs = wipeE env vs := by
  apply List.ext_getElem?
  intro j
  have key : ∀ (env : Env) (vs : List Nat), j ∈ vs → (wipeE env vs)[j]? = (env[j]?).map fun _ => none := by
    intro env vs
    induction vs with
    | nil => intro h; cases h
    | cons a r ih =>
      intro h
      show ((wipeE env r).set a none)[j]? = _
      by_cases ha : a = j
      · subst ha
        rw [List.getElem?_set_self']
        by_cases hr : a ∈ r
        · rw [ih hr]; cases env[a]? <;> rfl
        · rw [(wipeE_get env a r).1 hr]; cases env[a]? <;> rfl
      · rw [List.getElem?_set_ne ha]
        rcases List.mem_cons.mp h with e | e
        · exact absurd e.symm ha
        · exact ih e
  by_cases h : j ∈ vs
  · rw [key _ _ h, key _ _ h]; cases env[j]? <;> rfl
  · rw [(wipeE_get _ j vs).1 h]
theorem backE_wipe {env env' : Env} {vs : List Nat} (h : wipeE env' vs = wipeE env vs) : backE env env' vs = env := by
  apply List.ext_getElem?
  intro j
  have hl : env'.length = env.length := by rw [← wipeE_length env' vs, h, wipeE_length]
  by_cases hj : j ∈ vs
  · have key : ∀ (vs : List Nat), j ∈ vs → (backE env env' vs)[j]? = (env'[j]?).map fun _ => (env[j]?).join := by
      intro vs
      induction vs with
      | nil => intro h; cases h
      | cons a r ih =>
        intro h
        show ((backE env env' r).set a _)[j]? = _
        by_cases ha : a = j
        · subst ha
          rw [List.getElem?_set_self']
          by_cases hr : a ∈ r
          · rw [ih hr]; cases env'[a]? <;> rfl
          · rw [(backE_get env env' a r).1 hr]; cases env'[a]? <;> rfl
        · rw [List.getElem?_set_ne ha]
          rcases List.mem_cons.mp h with e | e
          · exact absurd e.symm ha
          · exact ih e
    rw [key vs hj]
    rcases Nat.lt_or_ge j env.length with hk | hk
    · have e1 : env'[j]? = some (env'[j]'(by rw [hl]; exact hk)) := List.getElem?_eq_getElem _
      have e2 : env[j]? = some env[j] := List.getElem?_eq_getElem hk
      rw [e1, e2]; rfl
    · have e1 : env'[j]? = none := List.getElem?_eq_none (by rw [hl]; exact hk)
      have e2 : env[j]? = none := List.getElem?_eq_none hk
      rw [e1, e2]; rfl
  · rw [(backE_get env env' j vs).1 hj]
    have := congrArg (fun l => l[j]?) h
    simp only [(wipeE_get env' j vs).1 hj, (wipeE_get env j vs).1 hj] at this
    exact this
/-- turns whose test is b and whose value is g -/
theorem turns_pure {elt : E} {t : Tgt} {c : Option E} {own : List Nat} {b : D → Bool} {g : D → D} {env0 : Env} : ∀ {ds : List D} {env : Env}, wipeE env own = env0 →
    (∀ d ∈ ds, ∃ env1, assignT t d env0 = some env1 ∧ wipeE env1 own = env0 ∧ (match c with | none => b d = true | some c => truthE ev c env1 = .ok (b d, env1)) ∧ (b d = true → evD ev elt env1 = .ok (g d, env1))) →
    ∃ envE, turns ev elt t c own ds env = .ok (((ds.filter b).map g).map .val, envE) ∧ wipeE envE own = env0
  | [], env, he, _ => ⟨env, rfl, he⟩
  | d :: ds, env, he, h => by
    obtain ⟨env1, h1, h2, h3, h4⟩ := h d List.mem_cons_self
    have ih := fun (env : Env) (q : wipeE env own = env0) => turns_pure (ds := ds) (env := env) q fun d hd => h d (List.mem_cons_of_mem _ hd)
    obtain ⟨envE, e1, e2⟩ := ih env1 h2
    refine ⟨envE, ?_, e2⟩
    unfold turns
    rw [he, h1]
    dsimp only
    have key : ∀ z : Res (Bool × Env), z = .ok (b d, env1) → (z.bind fun p =>
        if p.1 then (evD ev elt p.2).bind fun q => (turns ev elt t c own ds q.2).bind fun r => .ok (O.val q.1 :: r.1, r.2)
        else turns ev elt t c own ds p.2) = .ok ((((d :: ds).filter b).map g).map .val, envE) := by
      rintro z rfl
      show (if b d then (evD ev elt env1).bind fun q => (turns ev elt t c own ds q.2).bind fun r => .ok (O.val q.1 :: r.1, r.2) else turns ev elt t c own ds env1) = _
      cases hb : b d with
      | true =>
        rw [if_pos rfl, h4 hb]
        show ((turns ev elt t c own ds env1).bind fun r => .ok (O.val (g d) :: r.1, r.2)) = _
        rw [e1, List.filter_cons, hb]
        rfl
      | false =>
        rw [if_neg (by decide), e1, List.filter_cons, hb]
        rfl
    refine key _ ?_
    cases c with
    | none => dsimp only at h3 ⊢; rw [h3]
    | some c => exact h3
theorem toDs_val (ds : List D) : O.toDs (ds.map .val) = ds := by
  induction ds with
  | nil => rfl
  | cons d ds ih => show d :: O.toDs (ds.map .val) = _; rw [ih]
theorem trees_val (ds : List D) : O.trees (ds.map .val) = true := by
  induction ds with
  | nil => rfl
  | cons d ds ih => show (true && O.trees (ds.map .val)) = _; rw [ih]; rfl
/-- a list comprehension -/
theorem comp_pure {elt : E} {t : Tgt} {it : I} {c : Option E} {ds : List D} {env env1 : Env} (b : D → Bool) (g : D → D) (hi : items ev it env = .ok (ds, env1)) (hl : ds.length ≤ most) (hp : (tslots t).all (plainAt env1) = true)
    (h : ∀ d ∈ ds, ∃ env2, assignT t d (wipeE env1 (tslots t)) = some env2 ∧ wipeE env2 (tslots t) = wipeE env1 (tslots t) ∧ (match c with | none => b d = true | some c => truthE ev c env2 = .ok (b d, env2)) ∧ (b d = true → evD ev elt env2 = .ok (g d, env2))) :
    stepE T ev exs (.comp elt t it c) env = .ok (.lst (((ds.filter b).map g).map .val), env1) := by
  rw [stepE_comp, hi]
  show (if ds.length ≤ most ∧ (tslots t).all (plainAt env1) = true then _ else _) = _
  rw [if_pos ⟨hl, hp⟩]
  obtain ⟨envE, e1, e2⟩ := turns_pure (ev := ev) (elt := elt) (t := t) (c := c) (own := tslots t) (b := b) (g := g) (env0 := wipeE env1 (tslots t)) (ds := ds) (env := env1) rfl h
  rw [e1]
  show Res.ok (O.lst _, backE env1 envE (tslots t)) = _
  rw [backE_wipe e2]
/-- sorted keys -/
theorem keys_pure {elt : E} {t : Tgt} {it : I} {c : Option E} {ds : List D} {env env1 : Env} (b : D → Bool) (g : D → Int) (hi : items ev it env = .ok (ds, env1)) (hl : ds.length ≤ most) (hp : (tslots t).all (plainAt env1) = true)
    (h : ∀ d ∈ ds, ∃ env2, assignT t d (wipeE env1 (tslots t)) = some env2 ∧ wipeE env2 (tslots t) = wipeE env1 (tslots t) ∧ (match c with | none => b d = true | some c => truthE ev c env2 = .ok (b d, env2)) ∧ (b d = true → evD ev elt env2 = .ok (.int (g d), env2))) :
    stepE T ev exs (.sortedKeys elt t it c) env = .ok (.lst ((sortI ((ds.filter b).map g)).map fun i => .val (.int i)), env1) := by
  have e0 : stepE T ev exs (.sortedKeys elt t it c) env = ((items ev it env).bind fun p => if p.1.length ≤ most ∧ (tslots t).all (plainAt p.2) = true then
      (noErr (turns ev elt t c (tslots t) p.1 p.2)).bind fun q => match ints? (O.toDs q.1) with
        | some ns => .ok (.lst ((sortI ns).map fun i => .val (.int i)), backE p.2 q.2 (tslots t))
        | none => .stuck
      else .stuck) := rfl
  rw [e0, hi]
  show (if ds.length ≤ most ∧ (tslots t).all (plainAt env1) = true then _ else _) = _
  rw [if_pos ⟨hl, hp⟩]
  obtain ⟨envE, e1, e2⟩ := turns_pure (ev := ev) (elt := elt) (t := t) (c := c) (own := tslots t) (b := b) (g := fun d => .int (g d)) (env0 := wipeE env1 (tslots t)) (ds := ds) (env := env1) rfl h
  rw [e1]
  show (match ints? (O.toDs (((ds.filter b).map fun d => PyData.int (g d)).map .val)) with
        | some ns => Res.ok (O.lst ((sortI ns).map fun i => O.val (.int i)), backE env1 envE (tslots t))
        | none => .stuck) = _
  have hn : ∀ l : List D, ints? (O.toDs ((l.map fun d => PyData.int (g d)).map .val)) = some (l.map g) := by
    intro l
    rw [toDs_val]
    induction l with
    | nil => rfl
    | cons d l ih => show (ints? (l.map fun d => PyData.int (g d))).map (g d :: ·) = _; rw [ih]; rfl
  rw [hn, backE_wipe e2]
/-! loops -/
theorem loop_inv {body : Env → Res (Fl × Env)} {t : Tgt} (Inv : Env → Prop) : ∀ {ds : List D} {env : Env}, Inv env → (∀ d ∈ ds, ∀ env, Inv env → ∃ env1 env2, assignT t d env = some env1 ∧ body env1 = .ok (.next, env2) ∧ Inv env2) → ∃ env', loopF body t ds env = .ok (.next, env') ∧ Inv env'
  | [], env, h, _ => ⟨env, rfl, h⟩
  | d :: ds, env, h, step => by
    obtain ⟨env1, env2, h1, h2, h3⟩ := step d List.mem_cons_self env h
    obtain ⟨env', e1, e2⟩ := loop_inv Inv (ds := ds) h3 fun d hd => step d (List.mem_cons_of_mem _ hd)
    refine ⟨env', ?_, e2⟩
    unfold loopF
    rw [h1]
    dsimp only
    rw [h2]
    exact e1
end
end Ev
namespace Ev
open PySem
theorem alike_ints' : ∀ ns : List Int, alikeB (ns.map PyData.int) = true := alike_ints
end Ev
namespace Ev
open PySem
section
variable (a b : Int) (x y z : D) (xs ys : List D)
theorem v_add : ev2 .add (.int a) (.int b) = some (.val (.int (a + b))) := rfl
theorem v_sub : ev2 .sub (.int a) (.int b) = some (.val (.int (a - b))) := rfl
theorem v_le : ev2 .le (.int a) (.int b) = some (.val (.bool (decide (a ≤ b)))) := rfl
theorem v_lt : ev2 .lt (.int a) (.int b) = some (.val (.bool (decide (a < b)))) := rfl
theorem v_ge : ev2 .ge (.int a) (.int b) = some (.val (.bool (decide (b ≤ a)))) := rfl
theorem v_gt : ev2 .gt (.int a) (.int b) = some (.val (.bool (decide (b < a)))) := rfl
theorem v_min : ev2 .min2 (.int a) (.int b) = some (.val (.int (if b < a then b else a))) := rfl
theorem v_max : ev2 .max2 (.int a) (.int b) = some (.val (.int (if b > a then b else a))) := rfl
theorem v_eq : ev2 .eq (.int a) (.int b) = some (.val (.bool (a == b))) := by
  simp [ev2, PyData.plain, PyData.depth, PyData.eqv]
theorem v_ne : ev2 .ne (.int a) (.int b) = some (.val (.bool (!(a == b)))) := by
  simp [ev2, PyData.plain, PyData.depth, PyData.eqv]
variable {a b}
theorem v_mul (h1 : Sm a) (h2 : Sm b) : ev2 .mul (.int a) (.int b) = some (.val (.int (a * b))) := by
  simp only [ev2]
  rw [if_pos (And.intro h1 h2)]
theorem v_mod (h : 0 < b) : ev2 .mod (.int a) (.int b) = some (.val (.int (a % b))) := by
  simp only [ev2]
  rw [if_pos h]
theorem v_fdiv (h : 0 < b) (h2 : SmD b) : ev2 .fdiv (.int a) (.int b) = some (.val (.int (a / b))) := by
  simp only [ev2]
  rw [if_pos (And.intro h h2)]
variable (c d : Bool)
theorem v_is : ev2 .is (.bool c) (.bool d) = some (.val (.bool (c == d))) := rfl
theorem v_isnt : ev2 .isnt (.bool c) (.bool d) = some (.val (.bool (!(c == d)))) := rfl
theorem v_t20 : ev2 .idx (.tuple [x, y]) (.int 0) = some (.val x) := rfl
theorem v_t21 : ev2 .idx (.tuple [x, y]) (.int 1) = some (.val y) := rfl
theorem u_lenL : ev1 .len (.list xs) = some (.val (.int xs.length)) := rfl
theorem u_lenT2 : ev1 .len (.tuple [x, y]) = some (.val (.int 2)) := rfl
theorem u_lenT : ev1 .len (.tuple xs) = some (.val (.int xs.length)) := rfl
theorem u_isT (t : Ty) : ev1 (.isT t) x = some (.val (.bool (isTy t x))) := rfl
theorem u_int : ev1 .int (.int a) = some (.val (.int a)) := rfl
theorem u_intB : ev1 .int (.bool c) = some (.val (.int (if c then 1 else 0))) := rfl
theorem u_abs : ev1 .abs (.int a) = some (.val (.int (if a < 0 then -a else a))) := rfl
theorem u_neg : ev1 .neg (.int a) = some (.val (.int (-a))) := rfl
theorem u_tupL : ev1 .tuple (.list xs) = some (.val (.tuple xs)) := rfl
theorem u_revT : ev1 .rev (.tuple xs) = some (.val (.tuple xs.reverse)) := rfl
end
end Ev
namespace Ev
open PySem
theorem u_max2 (a b : Int) : ev1 .max (.list [.int a, .int b]) = some (.val (.int (max a b))) := by
  have h := alike_ints [a, b]
  have e := W.maxD_ints a [b]
  simp only [List.map_cons, List.map_nil, List.foldl_cons, List.foldl_nil] at h e
  simp only [ev1, h, e, if_true]
theorem most_ok {k : Nat} (h : k ≤ 1000000) : k ≤ most := h
end Ev
namespace Ev
open PySem
def minL : List Int → Int
  | [] => 0
  | n :: ns => ns.foldl min n
theorem u_minL {ns : List Int} (h : ns ≠ []) : ev1 .min (.list (ns.map .int)) = some (.val (.int (minL ns))) := by
  cases ns with
  | nil => exact absurd rfl h
  | cons n ns =>
    have h1 := alike_ints (n :: ns)
    have e := W.minD_ints n ns
    rw [List.map_cons] at h1 ⊢
    simp only [ev1, h1, e, if_true]
    rfl
theorem foldl_min_le : ∀ (ns : List Int) (n : Int), (ns.foldl min n ≤ n ∧ ∀ k ∈ ns, ns.foldl min n ≤ k) ∧ (ns.foldl min n = n ∨ ns.foldl min n ∈ ns)
  | [], n => ⟨⟨Int.le_refl _, fun _ h => nomatch h⟩, .inl rfl⟩
  | m :: ns, n => by
    obtain ⟨⟨h1, h2⟩, h3⟩ := foldl_min_le ns (min n m)
    rw [List.foldl_cons]
    refine ⟨⟨by omega, fun k hk => ?_⟩, ?_⟩
    · rcases List.mem_cons.mp hk with rfl | hk
      · omega
      · exact h2 k hk
    · rcases h3 with h3 | h3
      · rcases Int.le_total n m with q | q
        · exact .inl (by omega)
        · exact .inr (by rw [h3, Int.min_eq_right q]; exact List.mem_cons_self)
      · exact .inr (List.mem_cons_of_mem _ h3)
theorem minL_spec {ns : List Int} (h : ns ≠ []) : minL ns ∈ ns ∧ ∀ k ∈ ns, minL ns ≤ k := by
  cases ns with
  | nil => exact absurd rfl h
  | cons n ns =>
    obtain ⟨⟨h1, h2⟩, h3⟩ := foldl_min_le ns n
    refine ⟨?_, fun k hk => ?_⟩
    · rcases h3 with h3 | h3
      · show ns.foldl min n ∈ _; rw [h3]; exact List.mem_cons_self
      · exact List.mem_cons_of_mem _ h3
    · rcases List.mem_cons.mp hk with rfl | hk
      · exact h1
      · exact h2 k hk
end Ev
namespace Ev
open PySem
theorem items_range {ev : E → Env → Res (O × Env)} {e : E} {env env1 : Env} {j : Int} {l : List D} (h : evD ev e env = .ok (.int j, env1)) (hj : 0 ≤ j ∧ j ≤ 1000000) (hl : rangeD 0 j = l) : items ev (.range e) env = .ok (l, env1) := by
  have e1 : (okRange j && decide (j ≤ most)) = true := by
    simp only [okRange, Bool.and_eq_true, decide_eq_true_eq]
    refine ⟨⟨by omega, by omega⟩, ?_⟩
    show j ≤ ((1000000 : Nat) : Int)
    omega
  show (evD ev e env).bind _ = _
  rw [h]
  show (if (okRange j && decide (j ≤ most)) = true then Res.ok (rangeD 0 j, env1) else .stuck) = _
  rw [if_pos e1, hl]
end Ev

end
section
set_option autoImplicit false
set_option linter.all false
set_option maxRecDepth 100000
/-! More for the plain part: comprehensions over things of a kind, calls that lend. -/
namespace Ev
open PySem
section
variable {T : Tab} {n : Nat} {ev : E → Env → Res (O × Env)} {exs : List S → Env → Res (Fl × Env)}
theorem turnsA {α : Type} {elt : E} {t : Tgt} {c : Option E} {own : List Nat} {emb : α → D} {env2 : α → Env} {p : α → Bool} {g : α → D} {env0 : Env} : ∀ {ms : List α} {env : Env}, wipeE env own = env0 →
    (∀ a ∈ ms, assignT t (emb a) env0 = some (env2 a) ∧ wipeE (env2 a) own = env0) →
    (∀ a ∈ ms, (match c with | none => p a = true | some c => truthE ev c (env2 a) = .ok (p a, env2 a)) ∧ (p a = true → evD ev elt (env2 a) = .ok (g a, env2 a))) →
    ∃ envE, turns ev elt t c own (ms.map emb) env = .ok (((ms.filter p).map g).map .val, envE) ∧ wipeE envE own = env0
  | [], env, he, _, _ => ⟨env, rfl, he⟩
  | a :: ms, env, he, h1, h2 => by
    have ih := fun (env : Env) (q : wipeE env own = env0) => turnsA (elt := elt) (t := t) (c := c) (own := own) (emb := emb) (env2 := env2) (p := p) (g := g) (ms := ms) (env := env) q (fun a ha => h1 a (List.mem_cons_of_mem _ ha)) (fun a ha => h2 a (List.mem_cons_of_mem _ ha))
    obtain ⟨a1, a2⟩ := h1 a List.mem_cons_self
    obtain ⟨b1, b2⟩ := h2 a List.mem_cons_self
    obtain ⟨envE, e1, e2⟩ := ih (env2 a) a2
    refine ⟨envE, ?_, e2⟩
    rw [List.map_cons]
    unfold turns
    rw [he, a1]
    dsimp only
    have key : ∀ z : Res (Bool × Env), z = .ok (p a, env2 a) → (z.bind fun q =>
        if q.1 then (evD ev elt q.2).bind fun q => (turns ev elt t c own (ms.map emb) q.2).bind fun r => .ok (O.val q.1 :: r.1, r.2)
        else turns ev elt t c own (ms.map emb) q.2) = .ok ((((a :: ms).filter p).map g).map .val, envE) := by
      rintro z rfl
      show (if p a then (evD ev elt (env2 a)).bind fun q => (turns ev elt t c own (ms.map emb) q.2).bind fun r => .ok (O.val q.1 :: r.1, r.2) else turns ev elt t c own (ms.map emb) (env2 a)) = _
      cases hb : p a with
      | true =>
        rw [if_pos rfl, b2 hb]
        show ((turns ev elt t c own (ms.map emb) (env2 a)).bind fun r => .ok (O.val (g a) :: r.1, r.2)) = _
        rw [e1, List.filter_cons, hb]
        rfl
      | false =>
        rw [if_neg (by decide), e1, List.filter_cons, hb]
        rfl
    refine key _ ?_
    cases c with
    | none => dsimp only at b1 ⊢; rw [b1]
    | some c => exact b1
/-- a list comprehension over things of a kind -/
theorem compA {α : Type} {elt : E} {t : Tgt} {it : I} {c : Option E} {env env1 : Env} (emb : α → D) (ms : List α) (env2 : α → Env) (p : α → Bool) (g : α → D)
    (hi : items ev it env = .ok (ms.map emb, env1)) (hl : ms.length ≤ most) (hp : (tslots t).all (plainAt env1) = true)
    (h1 : ∀ a ∈ ms, assignT t (emb a) (wipeE env1 (tslots t)) = some (env2 a) ∧ wipeE (env2 a) (tslots t) = wipeE env1 (tslots t))
    (h2 : ∀ a ∈ ms, (match c with | none => p a = true | some c => truthE ev c (env2 a) = .ok (p a, env2 a)) ∧ (p a = true → evD ev elt (env2 a) = .ok (g a, env2 a))) :
    stepE T ev exs (.comp elt t it c) env = .ok (.lst (((ms.filter p).map g).map .val), env1) := by
  rw [stepE_comp, hi]
  show (if (ms.map emb).length ≤ most ∧ (tslots t).all (plainAt env1) = true then _ else _) = _
  rw [if_pos ⟨by rw [List.length_map]; exact hl, hp⟩]
  obtain ⟨envE, e1, e2⟩ := turnsA (ev := ev) (elt := elt) (t := t) (c := c) (own := tslots t) (emb := emb) (env2 := env2) (p := p) (g := g) (env0 := wipeE env1 (tslots t)) (ms := ms) (env := env1) rfl h1 h2
  rw [e1]
  show Res.ok (O.lst _, backE env1 envE (tslots t)) = _
  rw [backE_wipe e2]
theorem compM {α : Type} {elt : E} {t : Tgt} {it : I} {env env1 : Env} (emb : α → D) (ms : List α) (env2 : α → Env) (g : α → D)
    (hi : items ev it env = .ok (ms.map emb, env1)) (hl : ms.length ≤ most) (hp : (tslots t).all (plainAt env1) = true)
    (h1 : ∀ a ∈ ms, assignT t (emb a) (wipeE env1 (tslots t)) = some (env2 a) ∧ wipeE (env2 a) (tslots t) = wipeE env1 (tslots t))
    (h2 : ∀ a ∈ ms, evD ev elt (env2 a) = .ok (g a, env2 a)) :
    stepE T ev exs (.comp elt t it none) env = .ok (.lst ((ms.map g).map .val), env1) := by
  have := compA (T := T) (exs := exs) (c := none) emb ms env2 (fun _ => true) g hi hl hp h1 fun a ha => ⟨rfl, fun _ => h2 a ha⟩
  rwa [show ms.filter (fun _ => true) = ms from List.filter_eq_self.mpr fun _ _ => rfl] at this
theorem compF {α : Type} {elt : E} {t : Tgt} {it : I} {c : E} {env env1 : Env} (emb : α → D) (ms : List α) (env2 : α → Env) (p : α → Bool) (g : α → D)
    (hi : items ev it env = .ok (ms.map emb, env1)) (hl : ms.length ≤ most) (hp : (tslots t).all (plainAt env1) = true)
    (h1 : ∀ a ∈ ms, assignT t (emb a) (wipeE env1 (tslots t)) = some (env2 a) ∧ wipeE (env2 a) (tslots t) = wipeE env1 (tslots t))
    (h2 : ∀ a ∈ ms, truthE ev c (env2 a) = .ok (p a, env2 a)) (h3 : ∀ a ∈ ms, evD ev elt (env2 a) = .ok (g a, env2 a)) :
    stepE T ev exs (.comp elt t it (some c)) env = .ok (.lst (((ms.filter p).map g).map .val), env1) :=
  compA (T := T) (exs := exs) (c := some c) emb ms env2 p g hi hl hp h1 fun a ha => ⟨h2 a ha, fun _ => h3 a ha⟩
/-- a call that lends -/
theorem callA_run {f : Nat} {as : List (Option Nat × D)} {env env' : Env} {os : List O} {o : O} (hl : (lent as).Nodup) (hk : lentOk T f as = true) (ha : argOs env as = some os) (h : callF T exs f os = .ok (o, env')) : callA T exs f as env = .ok (o, backs env as env') := by
  unfold callA
  rw [if_pos ⟨hl, hk⟩, ha]
  show (callF T exs f os).bind _ = _
  rw [h]
  rfl
theorem items_seq {e : E} {env env1 : Env} {xs : List D} (h : evD ev e env = .ok (.list xs, env1)) : items ev (.seq e) env = .ok (xs, env1) := by
  show (evD ev e env).bind _ = _; rw [h]; rfl
theorem items_seqT {e : E} {env env1 : Env} {xs : List D} (h : evD ev e env = .ok (.tuple xs, env1)) : items ev (.seq e) env = .ok (xs, env1) := by
  show (evD ev e env).bind _ = _; rw [h]; rfl
theorem items_zipT {a b : E} {env env1 env2 : Env} {xs ys : List D} (h : evD ev a env = .ok (.tuple xs, env1)) (h2 : evD ev b env1 = .ok (.tuple ys, env2)) : items ev (.zip a b) env = .ok (List.zipWith (fun x y => .tuple [x, y]) xs ys, env2) := by
  show (evD ev a env).bind _ = _; rw [h, okb, h2]; rfl
theorem items_range2 {a b : E} {env env1 env2 : Env} {i j : Int} (h : evD ev a env = .ok (.int i, env1)) (h2 : evD ev b env1 = .ok (.int j, env2)) (h3 : -1000000 ≤ i ∧ i ≤ 1000000 ∧ -1000000 ≤ j ∧ j ≤ 1000000 ∧ j - i ≤ 1000000) : items ev (.range2 a b) env = .ok (rangeD i j, env2) := by
  have e1 : (okRange i && okRange j && decide (j - i ≤ most)) = true := by
    simp only [okRange, Bool.and_eq_true, decide_eq_true_eq]
    refine ⟨⟨⟨by omega, by omega⟩, by omega, by omega⟩, ?_⟩
    show j - i ≤ ((1000000 : Nat) : Int)
    omega
  show (evD ev a env).bind _ = _
  rw [h, okb, h2]
  show (if (okRange i && okRange j && decide (j - i ≤ most)) = true then Res.ok (rangeD i j, env2) else .stuck) = _
  rw [if_pos e1]
/-- a told list, a told number -/
theorem evD_lst {e : E} {env env1 : Env} {ds : List D} (h : ev e env = .ok (.lst (ds.map .val), env1)) : evD ev e env = .ok (.list ds, env1) := by
  unfold evD
  rw [h, okb]
  show (if O.trees (ds.map .val) = true then Res.ok (PyData.list (O.toDs (ds.map .val)), env1) else .stuck) = _
  rw [if_pos (trees_val ds), toDs_val]
theorem evD_val {e : E} {env env1 : Env} {d : D} (h : ev e env = .ok (.val d, env1)) : evD ev e env = .ok (d, env1) := by
  unfold evD
  rw [h, okb]
  rfl
theorem bools_map {α : Type} (q : α → Bool) : ∀ ms : List α, bools? (ms.map fun a => PyData.bool (q a)) = some (ms.map q)
  | [] => rfl
  | a :: ms => by show (bools? (ms.map _)).map _ = _; rw [bools_map q ms]; rfl
theorem u_all {α : Type} (q : α → Bool) (ms : List α) : ev1 .all (.list (ms.map fun a => .bool (q a))) = some (.val (.bool (ms.all q))) := by
  show (bools? _).map _ = _
  rw [bools_map]
  show some (O.val (.bool ((ms.map q).all id))) = _
  rw [List.all_map]
  rfl
theorem u_any {α : Type} (q : α → Bool) (ms : List α) : ev1 .any (.list (ms.map fun a => .bool (q a))) = some (.val (.bool (ms.any q))) := by
  show (bools? _).map _ = _
  rw [bools_map]
  show some (O.val (.bool ((ms.map q).any id))) = _
  rw [List.any_map]
  rfl
end
/-! values that are the same -/
theorem plain_ints : ∀ ns : List Int, PyData.plainAll (ns.map .int) = true
  | [] => rfl
  | n :: ns => by show (true && PyData.plainAll (ns.map .int)) = true; rw [plain_ints ns]; rfl
theorem v_eqA {α : Type} [DecidableEq α] [W.Datum α] (x y : α) (h : W.Datum.depth α ≤ 20) : ev2 .eq (W.Datum.toD x) (W.Datum.toD y) = some (.val (.bool (decide (x = y)))) := by
  simp only [ev2]
  rw [W.Datum.plain, W.Datum.plain, W.Datum.eqv, decide_eq_true (Nat.le_trans (W.Datum.depth_le x) h)]
  rfl
theorem v_neA {α : Type} [DecidableEq α] [W.Datum α] (x y : α) (h : W.Datum.depth α ≤ 20) : ev2 .ne (W.Datum.toD x) (W.Datum.toD y) = some (.val (.bool (!decide (x = y)))) := by
  simp only [ev2]
  rw [W.Datum.plain, W.Datum.plain, W.Datum.eqv, decide_eq_true (Nat.le_trans (W.Datum.depth_le x) h)]
  rfl
theorem v_innA {α : Type} [DecidableEq α] [W.Datum α] (x : α) (ys : List α) (h : W.Datum.depth α ≤ 20) : ev2 .inn (W.Datum.toD x) (.list (ys.map W.Datum.toD)) = some (.val (.bool (decide (x ∈ ys)))) := by
  simp only [ev2, seq?]
  rw [W.Datum.plain, W.plainAll_map, W.any_datum, decide_eq_true (Nat.le_trans (W.Datum.depth_le x) h)]
  rfl
theorem v_ninA {α : Type} [DecidableEq α] [W.Datum α] (x : α) (ys : List α) (h : W.Datum.depth α ≤ 20) : ev2 .nin (W.Datum.toD x) (.list (ys.map W.Datum.toD)) = some (.val (.bool (!decide (x ∈ ys)))) := by
  simp only [ev2, seq?]
  rw [W.Datum.plain, W.plainAll_map, W.any_datum, decide_eq_true (Nat.le_trans (W.Datum.depth_le x) h)]
  rfl
theorem v_eqL (xs ys : List Int) : ev2 .eq (.list (xs.map .int)) (.list (ys.map .int)) = some (.val (.bool (decide (xs = ys)))) := v_eqA xs ys (by decide)
theorem v_neL (xs ys : List Int) : ev2 .ne (.list (xs.map .int)) (.list (ys.map .int)) = some (.val (.bool (!decide (xs = ys)))) := v_neA xs ys (by decide)
theorem v_neL0 (xs : List Int) : ev2 .ne (.list (xs.map .int)) (.list []) = some (.val (.bool (!decide (xs = [])))) := v_neA xs [] (by decide)
theorem v_eqL0 (xs : List Int) : ev2 .eq (.list (xs.map .int)) (.list []) = some (.val (.bool (decide (xs = [])))) := v_eqA xs [] (by decide)
theorem v_innI (x : Int) (ys : List Int) : ev2 .inn (.int x) (.list (ys.map .int)) = some (.val (.bool (decide (x ∈ ys)))) := v_innA x ys (by decide)
theorem v_ninI (x : Int) (ys : List Int) : ev2 .nin (.int x) (.list (ys.map .int)) = some (.val (.bool (!decide (x ∈ ys)))) := v_ninA x ys (by decide)
theorem v_neP (a b c d : Int) : ev2 .ne (.tuple [.int a, .int b]) (.tuple [.int c, .int d]) = some (.val (.bool (!decide ((a, b) = (c, d))))) := v_neA (a, b) (c, d) (by decide)
theorem v_eqP (a b c d : Int) : ev2 .eq (.tuple [.int a, .int b]) (.tuple [.int c, .int d]) = some (.val (.bool (decide ((a, b) = (c, d))))) := v_eqA (a, b) (c, d) (by decide)
end Ev
namespace Ev
open PySem
section
variable {T : Tab} {ev : E → Env → Res (O × Env)} {exs : List S → Env → Res (Fl × Env)}
theorem seq_next {f : S → Env → Res (Fl × Env)} {s : S} {r : List S} {env env1 : Env} {X : Res (Fl × Env)} (h1 : f s env = .ok (.next, env1)) (h2 : seqS f r env1 = X) : seqS f (s :: r) env = X := by
  show (f s env).bind _ = _; rw [h1]; exact h2
theorem seq_ret {f : S → Env → Res (Fl × Env)} {s : S} {r : List S} {env env1 : Env} {o : O} (h1 : f s env = .ok (.ret o, env1)) : seqS f (s :: r) env = .ok (.ret o, env1) := by
  show (f s env).bind _ = _; rw [h1]; rfl
theorem seq_nil {f : S → Env → Res (Fl × Env)} {env : Env} : seqS f [] env = .ok (.next, env) := rfl
theorem one_asg {i : Nat} {e : E} {env env1 : Env} {d : D} (he : evD ev e env = .ok (d, env1)) (hi : i < env1.length) : one T ev exs (.asg (.nm i) e) env = .ok (.next, setO env1 i (.val d)) := by
  show (evD ev e env).bind _ = _
  rw [he]
  show (match (if i < env1.length then some (setO env1 i (.val d)) else none) with | some env' => Res.ok (Fl.next, env') | none => .stuck) = _
  rw [if_pos hi]
theorem one_ifT {c : E} {a b : List S} {env env1 : Env} {X : Res (Fl × Env)} (hc : truthE ev c env = .ok (true, env1)) (h : exs a env1 = X) : one T ev exs (.ifS c a b) env = X := by
  show (truthE ev c env).bind _ = _; rw [hc]; exact h
theorem one_ifF {c : E} {a b : List S} {env env1 : Env} {X : Res (Fl × Env)} (hc : truthE ev c env = .ok (false, env1)) (h : exs b env1 = X) : one T ev exs (.ifS c a b) env = X := by
  show (truthE ev c env).bind _ = _; rw [hc]; exact h
theorem one_for {t : Tgt} {it : I} {body : List S} {env env1 : Env} {ds : List D} {X : Res (Fl × Env)} (hi : items ev it env = .ok (ds, env1)) (h : loopF (exs body) t ds env1 = X) : one T ev exs (.forS t it body) env = X := by
  show (items ev it env).bind _ = _; rw [hi]; exact h
theorem one_app {i : Nat} {e : E} {env : Env} {d : D} {xs : List O} (h0 : (env[i]?).join = some (.lst xs)) (he : evD ev e env = .ok (d, env)) (hl : xs.length < most) : one T ev exs (.app i e) env = .ok (.next, setO env i (.lst (xs ++ [.val d]))) := by
  show (match (env[i]?).join with
    | some (.lst _) => (evD ev e env).bind fun p => match (p.2[i]?).join with
      | some (.lst xs) => if xs.length < most then (Res.ok (Fl.next, setO p.2 i (.lst (xs ++ [O.val p.1]))) : Res (Fl × Env)) else .stuck
      | _ => .stuck
    | _ => .stuck) = _
  rw [h0]
  dsimp only
  rw [he, okb]
  dsimp only
  rw [h0]
  dsimp only
  rw [if_pos hl]
theorem loop_cnt {body : Env → Res (Fl × Env)} {t : Tgt} (Inv : Nat → Env → Prop) : ∀ {ds : List D} {env : Env}, Inv ds.length env → (∀ d ∈ ds, ∀ k env, Inv (k + 1) env → ∃ env1 env2, assignT t d env = some env1 ∧ body env1 = .ok (.next, env2) ∧ Inv k env2) → ∃ env', loopF body t ds env = .ok (.next, env') ∧ Inv 0 env'
  | [], env, h, _ => ⟨env, rfl, h⟩
  | d :: ds, env, h, step => by
    obtain ⟨env1, env2, h1, h2, h3⟩ := step d List.mem_cons_self ds.length env h
    obtain ⟨env', e1, e2⟩ := loop_cnt Inv (ds := ds) h3 fun d hd => step d (List.mem_cons_of_mem _ hd)
    refine ⟨env', ?_, e2⟩
    unfold loopF
    rw [h1]
    dsimp only
    rw [h2]
    exact e1
/-- a loop that puts item behind item -/
theorem loop_all {α : Type} {body : Env → Res (Fl × Env)} {t : Tgt} (emb : α → D) (st : List α → Option O → Env) (m : Nat) (P : α → Prop) (Q : Option O → Prop)
    (step : ∀ done a x, done.length ≤ m → P a → ∃ env1 y, assignT t (emb a) (st done x) = some env1 ∧ body env1 = .ok (.next, st (done ++ [a]) y) ∧ Q y) :
    ∀ (ms done : List α) (x : Option O), Q x → done.length + ms.length ≤ m → (∀ a ∈ ms, P a) → ∃ y, Q y ∧ loopF body t (ms.map emb) (st done x) = .ok (.next, st (done ++ ms) y)
  | [], done, x, q, _, _ => ⟨x, q, by rw [List.append_nil]; rfl⟩
  | a :: ms, done, x, q, h, hp => by
    have h' : done.length + (ms.length + 1) ≤ m := h
    obtain ⟨env1, y, h1, h2, hq⟩ := step done a x (by omega) (hp a List.mem_cons_self)
    obtain ⟨y', hy', e⟩ := loop_all emb st m P Q step ms (done ++ [a]) y hq (by rw [List.length_append, List.length_singleton]; omega) fun b hb => hp b (List.mem_cons_of_mem _ hb)
    refine ⟨y', hy', ?_⟩
    rw [List.append_assoc, List.singleton_append] at e
    rw [List.map_cons]
    unfold loopF
    rw [h1]
    dsimp only
    rw [h2]
    exact e
theorem Sm_of18 {i : Int} (h1 : -1000000000000000000 ≤ i) (h2 : i ≤ 1000000000000000000) : Sm i := sm_le (m := 2 ^ 60) (by omega) (pow_k (k := big) (by decide))
theorem Sm_bits {i j : Int} (h : i.natAbs < 2 ^ 1048576) (hj : j.natAbs ≤ i.natAbs + 1) : Sm j := by
  refine sm_le (m := 2 ^ 1048577) ?_ (Nat.pow_le_pow_right (by decide) (by decide))
  rw [show (1048577 : Nat) = 1048576 + 1 from rfl, Nat.pow_succ]
  generalize 2 ^ 1048576 = M at *
  omega
end
end Ev
namespace Ev
open PySem
section
variable {T : Tab} {n : Nat} {exs : List S → Env → Res (Fl × Env)} {ev : E → Env → Res (O × Env)}
theorem evD_op1 {o : Op1} {a : E} {env env1 : Env} {x r : D} (ha : evD (evN T n) a env = .ok (x, env1)) (h : ev1 o x = some (.val r)) : evD (evN T (n + 1)) (.op1 o a) env = .ok (r, env1) := by
  refine evD_val ?_
  rw [evS, stepE_op1, ha, okb]
  dsimp only
  rw [h]
theorem one_ret {e : E} {env env1 : Env} {d : D} (h : evD ev e env = .ok (d, env1)) : one T ev exs (.ret e) env = .ok (.ret (.val d), env1) := by
  show (evD ev e env).bind _ = _
  rw [h]; rfl
theorem one_expr {e : E} {env env1 : Env} {o : O} (h : ev e env = .ok (o, env1)) : one T ev exs (.expr e) env = .ok (.next, env1) := by
  show (ev e env).bind _ = _
  rw [h]; rfl
theorem callF_ret {f : Nat} {d : FDef} {n : Nat} {os : List O} {env : Env} {o : O} {e0 x : Env} (hf : T.fs[f]? = some d) (hl : os.length = d.np) (h0 : os.map some ++ List.replicate (d.ns - d.np) none = e0) (hx : exN T n d.body e0 = .ok (.ret o, env)) (hw : wipeE (env.take d.np) (asgds d.body) = x) : callF T (exN T n) f os = .ok (o, x) := by
  unfold callF
  rw [hf]
  dsimp only
  rw [if_pos hl, h0, hx, okb]
  dsimp only
  rw [hw]
end
end Ev

end
section
set_option autoImplicit false
set_option linter.all false
set_option maxRecDepth 100000
/-! What the head says, and that its errors may be asked by isinstance. -/
namespace Ev
open PySem PySem.Spec PyProof.Rows L2
def excB (K : PySem.W.Frag) (C : Addr) : Bool :=
  He.eqO (PySem.W.findIn K (.ref C) "__getattribute__") (some (some (.builtin "BaseException.__getattribute__"))) &&
  (He.eqO (PySem.W.findIn K (.ref C) "__getattr__") (some none) &&
  (decide (PySem.W.subIn K (.ref C) (.type "BaseException") = some true) &&
  (PySem.W.hasDictIn K C &&
  (He.eqO (PySem.W.findIn K (.ref C) "__class__") (some (some (.builtin "object.__class__"))) &&
  (He.eqO (PySem.W.specialIn K (.builtin "object.__class__") "__get__") (some (some (.builtin "getset_descriptor.__get__"))) &&
  (decide (PySem.W.takesIn K (.builtin "object.__class__") = some true) &&
  decide (PySem.W.mroIn K C (.type "object") = some true)))))))
theorem excB_ok {K : PySem.W.Frag} {C : Addr} (h : excB K C = true) : L2.ExcC K C := by
  unfold excB at h
  simp only [Bool.and_eq_true, decide_eq_true_eq] at h
  obtain ⟨h1, h2, h3, h4, h5, h6, h7, h8⟩ := h
  exact ⟨He.eqO_ok h1, He.eqO_ok h2, h3, h4, He.eqO_ok h5, He.eqO_ok h6, h7, h8⟩
/-! dicts of the module: texts to whole numbers -/
abbrev GTab : Type := Str × List (Str × Int)
def valI (K : PySem.W.Frag) (a : Addr) (kvs : List (Str × Int)) : Bool := kvs.all fun q => match PySem.W.nsIn K a q.1 with
  | some (some (.int i _)) => decide (i = q.2)
  | _ => false
theorem key_of_map {P : Params} {e : DictEntry} {ks : List Str} (h : He.keyOf e ∈ He.keysIn P ks) : ∃ x t, e.key = .str x t ∧ x ∈ ks := by
  obtain ⟨k, hk, e1⟩ := List.mem_map.mp h
  unfold He.keyOf at e1
  split at e1
  · rename_i x t q
    have e2 := Option.some.inj e1
    exact ⟨x, t, q, by rw [← (Prod.mk.inj e2).1]; exact hk⟩
  · cases e1
theorem ns_absent {K : PySem.W.Frag} {P : Params} {a : Addr} {es : Array DictEntry} {n : Nat} {oc : Value} {od : Option Addr} {sl : Array (Option Value)} (hl : K.lookup a = some ⟨oc, od, .dict es n, sl⟩) {ks : List Str} (hk : es.toList.map He.keyOf = He.keysIn P ks) {z : Str} (hz : z ∉ ks) : PySem.W.nsIn K a z = some none := by
  have key : ∀ e ∈ es.toList, ∃ x t, e.key = .str x t ∧ x ∈ ks := fun e he => key_of_map (P := P) (by rw [← hk]; exact List.mem_map_of_mem he)
  have f1 : es.toList.find? (·.key.isStr z) = none := by
    refine List.find?_eq_none.mpr fun e he => ?_
    obtain ⟨x, t, e1, e2⟩ := key e he
    rw [e1]
    show ¬ (x == z) = true
    intro q
    exact hz (by rw [← eq_of_beq q]; exact e2)
  have f2 : es.toList.any (·.refKey) = false := by
    refine Bool.eq_false_iff.mpr fun q => ?_
    obtain ⟨e, he, e0⟩ := List.any_eq_true.mp q
    obtain ⟨x, t, e1, _⟩ := key e he
    unfold DictEntry.refKey at e0
    rw [e1] at e0
    cases e0
  unfold PySem.W.nsIn
  rw [hl]
  show (match es.toList.find? (·.key.isStr z) with
      | some e => some (some e.val)
      | none => if es.toList.any (·.refKey) then none else some none) = some none
  rw [f1, f2]
  rfl
theorem lookup_mem : ∀ {kvs : List (Str × Int)} {z : Str} {i : Int}, kvs.lookup z = some i → (z, i) ∈ kvs
  | [], _, _, h => by cases h
  | (k, v) :: r, z, i, h => by
    rw [List.lookup_cons] at h
    split at h
    · rename_i q
      cases h
      rw [eq_of_beq q]
      exact List.mem_cons_self
    · exact List.mem_cons_of_mem _ (lookup_mem h)
theorem lookup_none : ∀ {kvs : List (Str × Int)} {z : Str}, kvs.lookup z = none → z ∉ kvs.map (·.1)
  | [], _, _ => by simp
  | (k, v) :: r, z, h => by
    rw [List.lookup_cons] at h
    split at h
    · cases h
    · rename_i q
      intro hz
      rcases List.mem_cons.mp hz with e | e
      · rw [e] at q
        simp at q
      · exact lookup_none h e
theorem gd_ok {K : PySem.W.Frag} {w : World} {a : Addr} {kvs : List (Str × Int)} (h1 : He.dicW K a = some (He.keysIn w.params (kvs.map (·.1)))) (h2 : valI K a kvs = true) :
    ∃ es n, KDict K w a es n ∧ ∀ z, ∃ r, PySem.W.nsIn K a z = some r ∧ r.isSome = (kvs.lookup z).isSome ∧ ∀ i, kvs.lookup z = some i → ∃ tok, r = some (.int i tok) := by
  obtain ⟨es, n, D⟩ := He.dicW_ok h1
  have hk : es.toList.map He.keyOf = He.keysIn w.params (kvs.map (·.1)) := by
    unfold He.dicW at h1
    rw [D.at_] at h1
    have h3 : (match decide (("dict" : String) = "dict") && ((#[] : Array (Option Value)).isEmpty && !(a == sysModules)) with
      | true => some (es.toList.map He.keyOf)
      | false => none) = some (He.keysIn w.params (kvs.map (·.1))) := h1
    rw [D.low] at h3
    exact Option.some.inj h3
  refine ⟨es, n, D, fun z => ?_⟩
  cases hl : kvs.lookup z with
  | none => exact ⟨none, ns_absent D.at_ hk (lookup_none hl), rfl, fun i q => nomatch q⟩
  | some i =>
    have h3 := List.all_eq_true.mp h2 (z, i) (lookup_mem hl)
    dsimp only at h3
    split at h3
    · rename_i i' tok e
      have := of_decide_eq_true h3
      subst this
      exact ⟨_, e, rfl, fun j q => ⟨tok, by cases q; rfl⟩⟩
    · cases h3
def obsE (n : Nat) (fa : List He.Fa) (fn : List He.DefD) (xs : List Str) (ts : List GTab) (g : Addr → Option Obj) : (He.AlD × Bool) × (List (Option (List (Option (Str × Int)))) × Bool) :=
  ((He.obsDG n fa fn g, xs.all fun x => excB (He.frG g (He.asD g n)) (He.ga (He.frG g (He.asD g n)) x)),
    (ts.map fun t => He.dicW (He.frG g (He.asD g n)) (He.ga (He.frG g (He.asD g n)) t.1), ts.all fun t => valI (He.frG g (He.asD g n)) (He.ga (He.frG g (He.asD g n)) t.1) t.2))
def SaysE (fa : List He.Fa) (fn : List He.DefD) (xs : List Str) (ts : List GTab) (w : World) (K : PySem.W.Frag) : Prop := He.SaysD fa fn K ∧ (∀ x ∈ xs, excB K (He.ga K x) = true) ∧
  (ts.map fun t => He.dicW K (He.ga K t.1)) = (ts.map fun t => some (He.keysIn w.params (t.2.map (·.1)))) ∧ ∀ t ∈ ts, valI K (He.ga K t.1) t.2 = true
def hookE (n : Nat) (fa : List He.Fa) (fn : List He.DefD) (xs : List Str) (ts : List GTab) : PySem.W.Hook where
  α := (He.AlD × Bool) × (List (Option (List (Option (Str × Int)))) × Bool)
  obs := fun s => obsE n fa fn xs ts s.heap.get?
  val := fun w => ((He.valD fn, true), (ts.map fun t => some (He.keysIn w.params (t.2.map (·.1))), true))
  says := fun w h => ∃ K : PySem.W.Frag, K.In h ∧ SaysE fa fn xs ts w K
  of := fun w s e => by
    have e1 := congrArg Prod.fst (congrArg Prod.fst e)
    have e2 := congrArg Prod.snd (congrArg Prod.fst e)
    have e3 := congrArg Prod.fst (congrArg Prod.snd e)
    have e4 := congrArg Prod.snd (congrArg Prod.snd e)
    refine ⟨_, He.frG_in, e1, fun x hx => List.all_eq_true.mp e2 x hx, e3, fun t ht => List.all_eq_true.mp e4 t ht⟩
  keeps := fun _ _ _ ⟨K, hK, c⟩ k => ⟨K, hK.keeps k, c⟩
theorem obsE_eq {n : Nat} {fa : List He.Fa} {fn : List He.DefD} {xs : List Str} {ts : List GTab} {g : Addr → Option Obj} {s : Shared} (h : ∀ a, g a = s.heap.get? a) : obsE n fa fn xs ts g = (hookE n fa fn xs ts).obs s := by
  rw [show g = s.heap.get? from funext h]; rfl
theorem SaysE.exc {fa : List He.Fa} {fn : List He.DefD} {xs : List Str} {ts : List GTab} {w : World} {K : PySem.W.Frag} (c : SaysE fa fn xs ts w K) (i : Nat) (x : Str) (h : xs[i]? = some x) : L2.ExcC K (He.ga K x) := excB_ok (c.2.1 x (List.mem_of_getElem? h))
theorem SaysE.tab {fa : List He.Fa} {fn : List He.DefD} {xs : List Str} {ts : List GTab} {w : World} {K : PySem.W.Frag} (c : SaysE fa fn xs ts w K) (i : Nat) (t : GTab) (h : ts[i]? = some t) :
    ∃ es n, KDict K w (He.ga K t.1) es n ∧ ∀ z, ∃ r, PySem.W.nsIn K (He.ga K t.1) z = some r ∧ r.isSome = (t.2.lookup z).isSome ∧ ∀ i, t.2.lookup z = some i → ∃ tok, r = some (.int i tok) := by
  have e := congrArg (fun l => l[i]?) c.2.2.1
  rw [List.getElem?_map, List.getElem?_map, h] at e
  exact gd_ok (Option.some.inj e) (c.2.2.2 t (List.mem_of_getElem? h))
/-- isinstance, where the head says of except -/
theorem kit_of {K : PySem.W.Frag} {t c : Value} {b : Bool} (h1 : PySem.W.exmOne K t t = some true) (h : PySem.W.exmOne K t c = some b) : PySem.W.kitOne K t c = some b := by
  unfold PySem.W.kitOne
  by_cases e : (t == c) = true
  · rw [if_pos e]
    have e' : t = c := by simpa using e
    subst e'
    rw [h1] at h
    exact h
  · rw [if_neg e]
    unfold PySem.W.exmOne at h
    split at h
    · exact h
    · cases h
end Ev

end
section
set_option autoImplicit false
set_option linter.all false
set_option maxRecDepth 100000
/-! A calculus over the evaluator: what must hold ahead, step by step, so that a run ends as is wished. -/
namespace Ev
open PySem

inductive WR {α : Type} (K : α → Env → Prop) (X : Nat → Prop) : Res (α × Env) → Prop
  | ok {a : α} {e : Env} : K a e → WR K X (.ok (a, e))
  | err {c : Nat} : X c → WR K X (.err c)
theorem wr_bind {α β : Type} {K : β → Env → Prop} {X : Nat → Prop} {r : Res (α × Env)} {f : α × Env → Res (β × Env)} (h : WR (fun a e => WR K X (f (a, e))) X r) : WR K X (r.bind f) := by
  cases h with
  | ok h => exact h
  | err h => exact .err h
theorem wr_mono {α : Type} {K K' : α → Env → Prop} {X X' : Nat → Prop} {r : Res (α × Env)} (h : WR K X r) (h1 : ∀ a e, K a e → K' a e) (h2 : ∀ c, X c → X' c) : WR K' X' r := by
  cases h with
  | ok h => exact .ok (h1 _ _ h)
  | err h => exact .err (h2 _ h)
theorem wr_okE {α : Type} {K : α → Env → Prop} {X : Nat → Prop} {p : α × Env} (h : WR K X (.ok p)) : K p.1 p.2 := by cases h; assumption
theorem wr_errE {α : Type} {K : α → Env → Prop} {X : Nat → Prop} {c : Nat} (h : WR K X (.err c)) : X c := by cases h; assumption
theorem wr_ok {α : Type} {K : α → Env → Prop} {X : Nat → Prop} {r : Res (α × Env)} {a : α} {e : Env} (h : r = .ok (a, e)) (hk : K a e) : WR K X r := by subst h; exact .ok hk
theorem wr_err {α : Type} {K : α → Env → Prop} {X : Nat → Prop} {r : Res (α × Env)} {c : Nat} (h : r = .err c) (hk : X c) : WR K X r := by subst h; exact .err hk

section
variable (T : Tab) (n : Nat)
def Wo (e : E) (env : Env) (K : O → Env → Prop) (X : Nat → Prop) : Prop := WR K X (evN T n e env)
def We (e : E) (env : Env) (K : D → Env → Prop) (X : Nat → Prop) : Prop := WR K X (evD (evN T n) e env)
def Wl (es : List E) (env : Env) (K : List D → Env → Prop) (X : Nat → Prop) : Prop := WR K X (evDs (evN T n) es env)
def Wp (bs : List Bool) (es : List E) (env : Env) (K : List O → Env → Prop) (X : Nat → Prop) : Prop := WR K X (evOs (evN T n) bs es env)
def Wa (es : List E) (env : Env) (K : List (Option Nat × D) → Env → Prop) (X : Nat → Prop) : Prop := WR K X (evArgs (evN T n) es env)
def Wi (it : I) (env : Env) (K : List D → Env → Prop) (X : Nat → Prop) : Prop := WR K X (items (evN T n) it env)
def Wz (e : Option E) (env : Env) (K : Option Int → Env → Prop) (X : Nat → Prop) : Prop := WR K X (optI (evN T n) e env)
def Wc (f : Nat) (as : List (Option Nat × D)) (env : Env) (K : O → Env → Prop) (X : Nat → Prop) : Prop := WR K X (callA T (exN T n) f as env)
def Ws (ss : List S) (env : Env) (Q : Fl → Env → Prop) (X : Nat → Prop) : Prop := WR Q X (exN T n ss env)
def W1 (s : S) (env : Env) (Q : Fl → Env → Prop) (X : Nat → Prop) : Prop := WR Q X (one T (evN T n) (exN T n) s env)
def Lp (body : List S) (t : Tgt) (ds : List D) (env : Env) (Q : Fl → Env → Prop) (X : Nat → Prop) : Prop := WR Q X (loopF (exN T n body) t ds env)
def Lw (c : E) (body : List S) (k : Nat) (env : Env) (Q : Fl → Env → Prop) (X : Nat → Prop) : Prop := WR Q X (loopW (truthE (evN T n) c) (exN T n body) k env)
def Wh (c : Nat) (env : Env) (hs : List (Nat × Option Nat × List S)) (Q : Fl → Env → Prop) (X : Nat → Prop) : Prop := WR Q X (handle T c env hs)
/-- a comprehension's turns -/
def Cq (elt : E) (t : Tgt) (c : Option E) (ds : List D) (env : Env) (k : List D → Prop) : Prop := ∃ rs envE, turns (evN T n) elt t c (tslots t) ds env = .ok (rs.map .val, envE) ∧ wipeE envE (tslots t) = wipeE env (tslots t) ∧ k rs
end

def ToD (o : O) (k : D → Prop) : Prop := o.tree = true ∧ k o.toD
theorem td_val {d : D} {k : D → Prop} (h : k d) : ToD (.val d) k := ⟨rfl, h⟩
theorem td_lst {ds : List D} {k : D → Prop} (h : k (.list ds)) : ToD (.lst (ds.map .val)) k := ⟨trees_val ds, by show k (.list (O.toDs _)); rw [toDs_val]; exact h⟩
def V1 (o : Op1) (x : D) (k : O → Prop) : Prop := ∃ r, ev1 o x = some r ∧ k r
def V2 (o : Op2) (x y : D) (k : O → Prop) : Prop := ∃ r, ev2 o x y = some r ∧ k r
theorem v1_of {o : Op1} {x : D} {r : O} {k : O → Prop} (h : ev1 o x = some r) (hk : k r) : V1 o x k := ⟨r, h, hk⟩
theorem v2_of {o : Op2} {x y : D} {r : O} {k : O → Prop} (h : ev2 o x y = some r) (hk : k r) : V2 o x y k := ⟨r, h, hk⟩
def Br (b : Bool) (P Q : Prop) : Prop := (b = true → P) ∧ (b = false → Q)
theorem br_t {P Q : Prop} (h : P) : Br true P Q := ⟨fun _ => h, fun e => (nomatch e)⟩
theorem br_f {P Q : Prop} (h : Q) : Br false P Q := ⟨fun e => (nomatch e), fun _ => h⟩
theorem br_et {b : Bool} {P Q : Prop} (e : b = true) (h : P) : Br b P Q := by subst e; exact br_t h
theorem br_ef {b : Bool} {P Q : Prop} (e : b = false) (h : Q) : Br b P Q := by subst e; exact br_f h
theorem br_not {b : Bool} {P Q : Prop} (h : Br b Q P) : Br (!b) P Q := ⟨fun e => h.2 (by cases b <;> simp_all), fun e => h.1 (by cases b <;> simp_all)⟩
theorem br_pos {p : Prop} [Decidable p] {P Q : Prop} (hp : p) (h : P) : Br (decide p) P Q := br_et (decide_eq_true hp) h
theorem br_neg {p : Prop} [Decidable p] {P Q : Prop} (hp : ¬ p) (h : Q) : Br (decide p) P Q := br_ef (decide_eq_false hp) h
theorem br_dec {p : Prop} [Decidable p] {P Q : Prop} (h1 : p → P) (h2 : ¬ p → Q) : Br (decide p) P Q := ⟨fun e => h1 (of_decide_eq_true e), fun e => h2 (of_decide_eq_false e)⟩
theorem br_eqI {i j : Int} {P Q : Prop} (h : Br (decide (i = j)) P Q) : Br (i == j) P Q := by
  have : (i == j) = decide (i = j) := by rw [Bool.eq_iff_iff]; simp
  rw [this]; exact h
theorem br_neI {i j : Int} {P Q : Prop} (h : Br (decide (i = j)) Q P) : Br (i != j) P Q := br_not (br_eqI h)
theorem br_var {b : Bool} {P Q : Prop} (h1 : b = true → P) (h2 : b = false → Q) : Br b P Q := ⟨h1, h2⟩
def Bl (x : D) (k : Bool → Prop) : Prop := ∃ b, x = .bool b ∧ k b
theorem bl_bool {b : Bool} {k : Bool → Prop} (h : k b) : Bl (.bool b) k := ⟨b, rfl, h⟩
def Tr (x : D) (k : Bool → Prop) : Prop := ∃ b, truth x = some b ∧ k b
theorem tr_bool {b : Bool} {k : Bool → Prop} (h : k b) : Tr (.bool b) k := ⟨b, rfl, h⟩
theorem tr_none {k : Bool → Prop} (h : k false) : Tr .none k := ⟨_, rfl, h⟩
theorem tr_int {i : Int} {k : Bool → Prop} (h : k (i != 0)) : Tr (.int i) k := ⟨_, rfl, h⟩
theorem tr_list {xs : List D} {k : Bool → Prop} (h : k (!xs.isEmpty)) : Tr (.list xs) k := ⟨_, rfl, h⟩
theorem tr_tuple {xs : List D} {k : Bool → Prop} (h : k (!xs.isEmpty)) : Tr (.tuple xs) k := ⟨_, rfl, h⟩
def Sd (p q : Prop) : Prop := p ∧ q
theorem sd_of {p q : Prop} (h : p) (h2 : q) : Sd p q := ⟨h, h2⟩
def SetAt (env : Env) (i : Nat) (o : Option O) (env1 : Env) : Prop := i < env.length ∧ env.set i o = env1
theorem set_z {a o : Option O} {l : Env} : SetAt (a :: l) 0 o (o :: l) := ⟨Nat.succ_pos _, rfl⟩
theorem set_s {a o : Option O} {l l' : Env} {i : Nat} (h : SetAt l i o l') : SetAt (a :: l) (i + 1) o (a :: l') := ⟨Nat.succ_lt_succ h.1, by rw [List.set_cons_succ, h.2]⟩
def St (env : Env) (i : Nat) (o : Option O) (k : Env → Prop) : Prop := i < env.length ∧ k (env.set i o)
theorem st_of {env env1 : Env} {i : Nat} {o : Option O} {k : Env → Prop} (h : SetAt env i o env1) (hk : k env1) : St env i o k := ⟨h.1, by rw [h.2]; exact hk⟩
def Wt (t : Tgt) (d : D) (env : Env) (k : Env → Prop) : Prop := ∃ env1, assignT t d env = some env1 ∧ k env1
def Wts (ts : List Tgt) (ds : List D) (env : Env) (k : Env → Prop) : Prop := ∃ env1, assignTs ts ds env = some env1 ∧ k env1
theorem wt_nm {i : Nat} {d : D} {env : Env} {k : Env → Prop} (h : St env i (some (.val d)) k) : Wt (.nm i) d env k := ⟨_, if_pos h.1, h.2⟩
theorem wt_tup {ts : List Tgt} {ds : List D} {env : Env} {k : Env → Prop} (h : Wts ts ds env k) : Wt (.tup ts) (.tuple ds) env k := h
theorem wt_lst {ts : List Tgt} {ds : List D} {env : Env} {k : Env → Prop} (h : Wts ts ds env k) : Wt (.tup ts) (.list ds) env k := h
theorem wts_nil {env : Env} {k : Env → Prop} (h : k env) : Wts [] [] env k := ⟨env, rfl, h⟩
theorem wts_cons {t : Tgt} {ts : List Tgt} {d : D} {ds : List D} {env : Env} {k : Env → Prop} (h : Wt t d env (fun e => Wts ts ds e k)) : Wts (t :: ts) (d :: ds) env k := by
  obtain ⟨e1, h1, e2, h2, hk⟩ := h
  exact ⟨e2, by show (match assignT t d env with | some e => assignTs ts ds e | none => none) = _; rw [h1]; exact h2, hk⟩
/-- the slots, one behind the other -/
def Lit (env env1 : Env) : Prop := env = env1
theorem lit_nil : Lit [] [] := rfl
theorem lit_cons {env l l' : Env} {a : Option O} (h : env = a :: l) (h2 : Lit l l') : Lit env (a :: l') := by unfold Lit at *; rw [h, h2]
theorem lit_n {env : Env} (h : env = []) : Lit env [] := h
def Frz (env env1 : Env) : Prop := frozen env = env1
theorem fz_nil : Frz [] [] := rfl
theorem fz_none {l l' : Env} (h : Frz l l') : Frz (none :: l) (none :: l') := by
  show (none : Option O) :: frozen l = _
  rw [show frozen l = l' from h]
theorem fz_val {d : D} {l l' : Env} (h : Frz l l') : Frz (some (.val d) :: l) (some (.val d) :: l') := by
  show (some (.val d) : Option O) :: frozen l = _
  rw [show frozen l = l' from h]
theorem fz_scr {is : List Int} {l l' : Env} (h : Frz l l') : Frz (some (.scr is) :: l) (none :: l') := by
  show (none : Option O) :: frozen l = _
  rw [show frozen l = l' from h]
theorem fz_lst {ds : List D} {l l' : Env} (h : Frz l l') : Frz (some (.lst (ds.map .val)) :: l) (some (.val (.list ds)) :: l') := by
  show (if O.trees (ds.map .val) = true then some (O.val (PyData.list (O.toDs (ds.map .val)))) else none) :: frozen l = _
  rw [if_pos (trees_val ds), toDs_val, show frozen l = l' from h]
theorem get_j {env : Env} {i : Nat} {o : O} (h : env[i]? = some (some o)) : (env[i]?).join = some o := by rw [h]; rfl

section
variable {T : Tab} {n : Nat}
section
variable {K : O → Env → Prop} {X : Nat → Prop} {env : Env}
theorem we_wo {K : D → Env → Prop} {e : E} (h : Wo T n e env (fun o e1 => ToD o fun d => K d e1) X) : We T n e env K X := by
  unfold We evD
  refine wr_bind ?_
  refine wr_mono h (fun o e1 h => ?_) fun c h => h
  show WR K X (if o.tree = true then .ok (o.toD, e1) else .stuck)
  rw [if_pos h.1]; first | exact h.2 | exact .ok (h.2)
theorem wo_none (h : K (.val .none) env) : Wo T (n + 1) .none env K X := .ok h
theorem wo_bl {b : Bool} (h : K (.val (.bool b)) env) : Wo T (n + 1) (.bl b) env K X := .ok h
theorem wo_int {i : Int} (h : K (.val (.int i)) env) : Wo T (n + 1) (.int i) env K X := .ok h
theorem wo_str {s : Str} (h : K (.val (.str s)) env) : Wo T (n + 1) (.str s) env K X := .ok h
theorem wo_var {i : Nat} {d : D} (e : env[i]? = some (some (.val d))) (h : K (.val d) env) : Wo T (n + 1) (.var i) env K X := by
  unfold Wo; rw [evS, stepE_var, get_j e]; first | exact h | exact .ok (h)
theorem wo_glb {i : Nat} {d : D} (e : T.cs[i]? = some d) (h : K (.val d) env) : Wo T (n + 1) (.glb i) env K X := by
  unfold Wo; rw [evS, stepE_glb, e]; first | exact h | exact .ok (h)
theorem wo_tup {es : List E} (h : Wl T n es env (fun ds e1 => Sd (ds.length ≤ 1000000) (K (.val (.tuple ds)) e1)) X) : Wo T (n + 1) (.tup es) env K X := by
  unfold Wo; rw [evS, stepE_tup]
  refine wr_bind (wr_mono h (fun ds e1 h => ?_) fun c h => h)
  show WR K X (if ds.length ≤ most then _ else _); rw [if_pos (show ds.length ≤ most from h.1)]; first | exact h.2 | exact .ok (h.2)
theorem wo_lst {es : List E} (h : Wl T n es env (fun ds e1 => Sd (ds.length ≤ 1000000) (K (.lst (ds.map .val)) e1)) X) : Wo T (n + 1) (.lst es) env K X := by
  unfold Wo; rw [evS, stepE_lst]
  refine wr_bind (wr_mono h (fun ds e1 h => ?_) fun c h => h)
  show WR K X (if ds.length ≤ most then _ else _); rw [if_pos (show ds.length ≤ most from h.1)]; first | exact h.2 | exact .ok (h.2)
theorem wl_nil {K : List D → Env → Prop} (h : K [] env) : Wl T n [] env K X := .ok h
def isStarE : E → Bool
  | .star _ => true
  | _ => false
theorem wl_star {K : List D → Env → Prop} {e : E} {r : List E} (h : We T n e env (fun x e1 => ∃ xs, seq? x = some xs ∧ Wl T n r e1 (fun ds e2 => K (xs ++ ds) e2) X) X) : Wl T n (.star e :: r) env K X := by
  unfold Wl evDs
  refine wr_bind (wr_mono h (fun x e1 h => ?_) fun c h => h)
  obtain ⟨xs, h1, h2⟩ := h
  show WR K X (match seq? x with | some xs => (evDs (evN T n) r e1).bind fun q => .ok (xs ++ q.1, q.2) | none => .stuck)
  rw [h1]
  first | exact wr_bind h2 | exact wr_bind (wr_mono h2 (fun _ _ q => .ok q) fun _ q => q)
theorem wl_cons {K : List D → Env → Prop} {e : E} {r : List E} (hs : isStarE e = false) (h : We T n e env (fun d e1 => Wl T n r e1 (fun ds e2 => K (d :: ds) e2) X) X) : Wl T n (e :: r) env K X := by
  have e1 : evDs (evN T n) (e :: r) env = (evD (evN T n) e env).bind fun p => (evDs (evN T n) r p.2).bind fun q => .ok (p.1 :: q.1, q.2) := by
    cases e <;> first | rfl | (cases hs)
  unfold Wl; rw [e1]
  exact wr_bind (wr_mono h (fun x e1 h => by first | exact wr_bind h | exact wr_bind (wr_mono h (fun _ _ q => .ok q) fun _ q => q)) fun c h => h)
theorem wo_op1 {o : Op1} {a : E} (h : We T n a env (fun x e1 => V1 o x fun r => K r e1) X) : Wo T (n + 1) (.op1 o a) env K X := by
  unfold Wo; rw [evS, stepE_op1]
  refine wr_bind (wr_mono h (fun x e1 h => ?_) fun c h => h)
  obtain ⟨r, h1, h2⟩ := h
  show WR K X (match ev1 o x with | some r => .ok (r, e1) | none => .stuck); rw [h1]; first | exact h2 | exact .ok (h2)
theorem wo_op2 {o : Op2} {a b : E} (h : We T n a env (fun x e1 => We T n b e1 (fun y e2 => V2 o x y fun r => K r e2) X) X) : Wo T (n + 1) (.op2 o a b) env K X := by
  unfold Wo; rw [evS, stepE_op2]
  refine wr_bind (wr_mono h (fun x e1 h => wr_bind (wr_mono h (fun y e2 h => ?_) fun c h => h)) fun c h => h)
  obtain ⟨r, h1, h2⟩ := h
  show WR K X (match ev2 o x y with | some r => .ok (r, e2) | none => .stuck); rw [h1]; first | exact h2 | exact .ok (h2)
theorem wr_truth {e : E} {K : Bool → Env → Prop} (h : We T n e env (fun x e1 => Tr x fun b => K b e1) X) : WR K X (truthE (evN T n) e env) := by
  unfold truthE
  refine wr_bind (wr_mono h (fun x e1 h => ?_) fun c h => h)
  obtain ⟨b, h1, h2⟩ := h
  show WR K X (match truth x with | some b => .ok (b, e1) | none => .stuck); rw [h1]; first | exact h2 | exact .ok (h2)
theorem wo_not {a : E} (h : We T n a env (fun x e1 => Tr x fun b => K (.val (.bool (!b))) e1) X) : Wo T (n + 1) (.not a) env K X := by
  unfold Wo; rw [evS, stepE_not]
  exact wr_bind (wr_mono (wr_truth (K := fun b e1 => K (.val (.bool (!b))) e1) h) (fun x e1 h => by first | exact h | exact .ok h) fun c h => h)
theorem br_ind {b : Bool} {P Q : Prop} (h : Br b P Q) : if b then P else Q := by cases b; exact h.2 rfl; first | exact h.1 rfl | exact .ok (h.1 rfl)
theorem wo_and {a b : E} (h : We T n a env (fun x e1 => Bl x fun p => Br p (Wo T n b e1 K X) (K (.val (.bool false)) e1)) X) : Wo T (n + 1) (.and a b) env K X := by
  unfold Wo; rw [evS, stepE_and]
  refine wr_bind (wr_mono h (fun x e1 h => ?_) fun c h => h)
  obtain ⟨p, rfl, h⟩ := h
  cases p
  · first | exact h.2 rfl | exact .ok (h.2 rfl)
  · first | exact h.1 rfl | exact .ok (h.1 rfl)
theorem wo_or {a b : E} (h : We T n a env (fun x e1 => Bl x fun p => Br p (K (.val (.bool true)) e1) (Wo T n b e1 K X)) X) : Wo T (n + 1) (.or a b) env K X := by
  unfold Wo; rw [evS, stepE_or]
  refine wr_bind (wr_mono h (fun x e1 h => ?_) fun c h => h)
  obtain ⟨p, rfl, h⟩ := h
  cases p
  · first | exact h.2 rfl | exact .ok (h.2 rfl)
  · first | exact h.1 rfl | exact .ok (h.1 rfl)
theorem wo_ite {c a b : E} (h : We T n c env (fun x e1 => Tr x fun p => Br p (Wo T n a e1 K X) (Wo T n b e1 K X)) X) : Wo T (n + 1) (.ite c a b) env K X := by
  unfold Wo; rw [evS, stepE_ite]
  refine wr_bind (wr_mono (wr_truth (K := fun p e1 => Br p (Wo T n a e1 K X) (Wo T n b e1 K X)) h) (fun p e1 h => ?_) fun c h => h)
  cases p
  · first | exact h.2 rfl | exact .ok (h.2 rfl)
  · first | exact h.1 rfl | exact .ok (h.1 rfl)
def Bo (o : O) (k : Bool → Prop) : Prop := ∃ b, o = .val (.bool b) ∧ k b
theorem bo_bool {b : Bool} {k : Bool → Prop} (h : k b) : Bo (.val (.bool b)) k := ⟨b, rfl, h⟩
theorem wo_chain {o1 o2 : Op2} {a b c : E} (h : We T n a env (fun x e1 => We T n b e1 (fun y e2 => V2 o1 x y fun r => Bo r fun p => Br p (We T n c e2 (fun z e3 => V2 o2 y z fun r => K r e3) X) (K (.val (.bool false)) e2)) X) X) : Wo T (n + 1) (.chain o1 o2 a b c) env K X := by
  unfold Wo; rw [evS, stepE_chain]
  refine wr_bind (wr_mono h (fun x e1 h => wr_bind (wr_mono h (fun y e2 h => ?_) fun c h => h)) fun c h => h)
  obtain ⟨r, h1, p, rfl, h2⟩ := h
  dsimp only
  rw [h1]
  cases p
  · first | exact h2.2 rfl | exact .ok (h2.2 rfl)
  · refine wr_bind (wr_mono (h2.1 rfl) (fun z e3 h => ?_) fun c h => h)
    obtain ⟨r, h3, h4⟩ := h
    dsimp only
    rw [h3]; first | exact h4 | exact .ok (h4)
theorem wz_none {K : Option Int → Env → Prop} (h : K none env) : Wz T n none env K X := .ok h
theorem wz_some {K : Option Int → Env → Prop} {e : E} (h : We T n e env (fun x e1 => ∃ i, x = .int i ∧ K (some i) e1) X) : Wz T n (some e) env K X := by
  unfold Wz optI
  refine wr_bind (wr_mono h (fun x e1 h => ?_) fun c h => h)
  obtain ⟨i, rfl, h⟩ := h
  first | exact h | exact .ok (h)
def Vs (x : D) (lo hi : Option Int) (k : O → Prop) : Prop := ∃ r, slice1 x lo hi = some r ∧ k r
theorem vs_of {x : D} {lo hi : Option Int} {r : O} {k : O → Prop} (h : slice1 x lo hi = some r) (hk : k r) : Vs x lo hi k := ⟨r, h, hk⟩
theorem wo_slice {a : E} {lo hi : Option E} (h : We T n a env (fun x e1 => Wz T n lo e1 (fun i e2 => Wz T n hi e2 (fun j e3 => Vs x i j fun r => K r e3) X) X) X) : Wo T (n + 1) (.slice a lo hi) env K X := by
  unfold Wo; rw [evS, stepE_slice]
  refine wr_bind (wr_mono h (fun x e1 h => wr_bind (wr_mono h (fun y e2 h => wr_bind (wr_mono h (fun z e3 h => ?_) fun c h => h)) fun c h => h)) fun c h => h)
  obtain ⟨r, h1, h2⟩ := h
  show WR K X (match slice1 x y z with | some o => .ok (o, e3) | none => .stuck); rw [h1]; first | exact h2 | exact .ok (h2)
theorem wo_call {f : Nat} {args : List E} (h : Wa T n args env (fun as e1 => Wc T n f as e1 K X) X) : Wo T (n + 1) (.call f args) env K X := by
  unfold Wo; rw [evS, stepE_call]
  first | exact wr_bind h | exact wr_bind (wr_mono h (fun _ _ q => .ok q) fun _ q => q)
theorem wo_callS {f : Nat} {e : E} (h : We T n e env (fun x e1 => ∃ ds, seq? x = some ds ∧ Wc T n f (ds.map fun d => (none, d)) e1 K X) X) : Wo T (n + 1) (.callS f e) env K X := by
  unfold Wo; rw [evS, stepE_callS]
  refine wr_bind (wr_mono h (fun x e1 h => ?_) fun c h => h)
  obtain ⟨ds, h1, h2⟩ := h
  show WR K X (match seq? x with | some ds => callA T (exN T n) f (ds.map fun d => (none, d)) e1 | none => .stuck); rw [h1]; first | exact h2 | exact .ok (h2)
theorem wo_sel {fs : List Nat} {ix : E} {args : List E} (h : We T n ix env (fun x e1 => ∃ (i : Nat) (f : Nat), x = .int (i : Int) ∧ fs[i]? = some f ∧ Wa T n args e1 (fun as e2 => Wc T n f as e2 K X) X) X) : Wo T (n + 1) (.sel fs ix args) env K X := by
  unfold Wo; rw [evS, stepE_sel]
  refine wr_bind (wr_mono h (fun x e1 h => ?_) fun c h => h)
  obtain ⟨i, f, rfl, h1, h2⟩ := h
  dsimp only
  rw [if_pos (by omega : (0 : Int) ≤ (i : Int)), Int.toNat_natCast, h1]
  first | exact wr_bind h2 | exact wr_bind (wr_mono h2 (fun _ _ q => .ok q) fun _ q => q)
theorem wa_nil {K : List (Option Nat × D) → Env → Prop} (h : K [] env) : Wa T n [] env K X := .ok h
theorem wa_lend {K : List (Option Nat × D) → Env → Prop} {i : Nat} {o : O} {r : List E} (e : env[i]? = some (some o)) (h : Wa T n r env (fun as e1 => K ((some i, .none) :: as) e1) X) : Wa T n (.lend i :: r) env K X := by
  unfold Wa evArgs
  rw [get_j e]
  first | exact wr_bind h | exact wr_bind (wr_mono h (fun _ _ q => .ok q) fun _ q => q)
def isLendE : E → Bool
  | .lend _ => true
  | _ => false
theorem wa_cons {K : List (Option Nat × D) → Env → Prop} {e : E} {r : List E} (hs : isLendE e = false) (h : We T n e env (fun d e1 => Wa T n r e1 (fun as e2 => K ((none, d) :: as) e2) X) X) : Wa T n (e :: r) env K X := by
  have e1 : evArgs (evN T n) (e :: r) env = (evD (evN T n) e env).bind fun p => (evArgs (evN T n) r p.2).bind fun q => .ok ((none, p.1) :: q.1, q.2) := by
    cases e <;> first | rfl | (cases hs)
  unfold Wa; rw [e1]
  exact wr_bind (wr_mono h (fun x e1 h => by first | exact wr_bind h | exact wr_bind (wr_mono h (fun _ _ q => .ok q) fun _ q => q)) fun c h => h)
theorem wo_pop {i : Nat} {ds : List D} (e : env[i]? = some (some (.lst (ds.map .val)))) (h : ∃ d l, ds = l ++ [d] ∧ St env i (some (.lst (l.map .val))) (fun e1 => K (.val d) e1)) : Wo T (n + 1) (.pop i) env K X := by
  obtain ⟨d, l, rfl, _, h2⟩ := h
  unfold Wo; rw [evS, stepE_pop, get_j e]
  dsimp only
  rw [List.map_append, List.map_cons, List.map_nil, List.getLast?_concat, List.dropLast_concat]
  first | exact h2 | exact .ok (h2)
theorem wo_lenScr {i : Nat} {is : List Int} (e : env[i]? = some (some (.scr is))) (h : K (.val (.int is.length)) env) : Wo T (n + 1) (.lenScr i) env K X := by
  unfold Wo; rw [evS, stepE_lenScr, get_j e]; first | exact h | exact .ok (h)
theorem wo_move {i : Nat} {o : O} (e : env[i]? = some (some o)) (h : St env i none (fun e1 => K o e1)) : Wo T (n + 1) (.move i) env K X := by
  unfold Wo; rw [evS, stepE_move, get_j e]; first | exact h.2 | exact .ok (h.2)
def Lo (o : O) (p : Prop) : Prop := loose o = true ∧ p
theorem lo_val {d : D} {p : Prop} (h : flat d = true) (hp : p) : Lo (.val d) p := ⟨h, hp⟩
theorem wo_snap {e : E} {env1 : Env} (hf : Frz env env1) (h : Wo T n e env1 (fun o _ => Lo o (K o env)) X) : Wo T (n + 1) (.snap e) env K X := by
  unfold Wo; rw [evS, stepE_snap, show frozen env = env1 from hf]
  refine wr_bind (wr_mono h (fun o e1 h => ?_) fun c h => h)
  show WR K X (if loose o = true then .ok (o, env) else .stuck); rw [if_pos h.1]; first | exact h.2 | exact .ok (h.2)
theorem wo_inG {neg : Bool} {g : Nat} {e : E} (h : We T n e env (fun x e1 => ∃ z t, x = .str z ∧ T.gd[g]? = some t ∧ K (.val (.bool (if neg then !(t.lookup z).isSome else (t.lookup z).isSome))) e1) X) : Wo T (n + 1) (.inG neg g e) env K X := by
  unfold Wo; rw [evS, stepE_inG]
  refine wr_bind (wr_mono h (fun x e1 h => ?_) fun c h => h)
  obtain ⟨z, t, rfl, h1, h2⟩ := h
  dsimp only; rw [h1]; first | exact h2 | exact .ok (h2)
theorem wo_ixG {g : Nat} {e : E} (h : We T n e env (fun x e1 => ∃ z t i, x = .str z ∧ T.gd[g]? = some t ∧ t.lookup z = some i ∧ K (.val (.int i)) e1) X) : Wo T (n + 1) (.ixG g e) env K X := by
  unfold Wo; rw [evS, stepE_ixG]
  refine wr_bind (wr_mono h (fun x e1 h => ?_) fun c h => h)
  obtain ⟨z, t, i, rfl, h1, h2, h3⟩ := h
  dsimp only; rw [h1]; dsimp only; rw [h2]; first | exact h3 | exact .ok (h3)
theorem wo_cdct {kvs : List (Str × Int)} (h : K (.val (.dict (kvs.map fun p => (.str p.1, .int p.2)))) env) : Wo T (n + 1) (.cdct kvs) env K X := .ok h
theorem wo_comp {elt : E} {t : Tgt} {it : I} {c : Option E} (h : Wi T n it env (fun ds e1 => Sd (ds.length ≤ 1000000) (Sd ((tslots t).all (plainAt e1) = true) (Cq T n elt t c ds e1 fun rs => K (.lst (rs.map .val)) e1))) X) : Wo T (n + 1) (.comp elt t it c) env K X := by
  unfold Wo; rw [evS, stepE_comp]
  refine wr_bind (wr_mono h (fun ds e1 h => ?_) fun c h => h)
  obtain ⟨h1, h2, rs, envE, h3, h4, h5⟩ := h
  show WR K X (if ds.length ≤ most ∧ (tslots t).all (plainAt e1) = true then _ else _)
  rw [if_pos ⟨h1, h2⟩, h3]
  show WR K X (.ok (.lst (rs.map .val), backE e1 envE (tslots t)))
  rw [backE_wipe h4]; exact .ok h5
/-! what is walked -/
variable {K : List D → Env → Prop}
def Sq (x : D) (k : List D → Prop) : Prop := ∃ xs, (x = .list xs ∨ x = .tuple xs) ∧ k xs
theorem sq_list {xs : List D} {k : List D → Prop} (h : k xs) : Sq (.list xs) k := ⟨xs, .inl rfl, h⟩
theorem sq_tuple {xs : List D} {k : List D → Prop} (h : k xs) : Sq (.tuple xs) k := ⟨xs, .inr rfl, h⟩
theorem wi_seq {e : E} (h : We T n e env (fun x e1 => Sq x fun xs => K xs e1) X) : Wi T n (.seq e) env K X := by
  unfold Wi items
  refine wr_bind (wr_mono h (fun x e1 h => ?_) fun c h => h)
  obtain ⟨xs, rfl | rfl, h⟩ := h <;> exact .ok h
theorem wi_scr {i : Nat} {is : List Int} (e : env[i]? = some (some (.scr is))) (h : K (is.map .int) env) : Wi T n (.scr i) env K X := by
  show WR K X (match (env[i]?).join with | some (.scr is) => .ok (is.map .int, env) | _ => .stuck)
  rw [get_j e]; first | exact h | exact .ok (h)
def Is (x : D) (k : Int → Prop) : Prop := ∃ i, x = .int i ∧ k i
theorem is_int {i : Int} {k : Int → Prop} (h : k i) : Is (.int i) k := ⟨i, rfl, h⟩
theorem ok_rg {i : Int} (h : -1000000 ≤ i ∧ i ≤ 1000000) : okRange i = true := by
  simp only [okRange, Bool.and_eq_true, decide_eq_true_eq]; omega
theorem wi_range {e : E} (h : We T n e env (fun x e1 => Is x fun j => Sd (-1000000 ≤ j ∧ j ≤ 1000000) (K (rangeD 0 j) e1)) X) : Wi T n (.range e) env K X := by
  unfold Wi items
  refine wr_bind (wr_mono h (fun x e1 h => ?_) fun c h => h)
  obtain ⟨j, rfl, h1, h2⟩ := h
  show WR K X (if (okRange j && decide (j ≤ most)) = true then .ok (rangeD 0 j, e1) else .stuck)
  rw [ok_rg h1, decide_eq_true (show j ≤ ((most : Nat) : Int) from (show j ≤ ((1000000 : Nat) : Int) by omega))]; first | exact h2 | exact .ok (h2)
theorem wi_range2 {a b : E} (h : We T n a env (fun x e1 => We T n b e1 (fun y e2 => Is x fun i => Is y fun j => Sd ((-1000000 ≤ i ∧ i ≤ 1000000) ∧ (-1000000 ≤ j ∧ j ≤ 1000000) ∧ j - i ≤ 1000000) (K (rangeD i j) e2)) X) X) : Wi T n (.range2 a b) env K X := by
  unfold Wi items
  refine wr_bind (wr_mono h (fun x e1 h => wr_bind (wr_mono h (fun y e2 h => ?_) fun c h => h)) fun c h => h)
  obtain ⟨i, rfl, j, rfl, ⟨h1, h2, h3⟩, h4⟩ := h
  show WR K X (if (okRange i && okRange j && decide (j - i ≤ most)) = true then .ok (rangeD i j, e2) else .stuck)
  rw [ok_rg h1, ok_rg h2, decide_eq_true (show j - i ≤ ((most : Nat) : Int) from (show j - i ≤ ((1000000 : Nat) : Int) by omega))]; first | exact h4 | exact .ok (h4)
theorem wi_range3 {a b : E} {c : Int} (h : We T n a env (fun x e1 => We T n b e1 (fun y e2 => Is x fun i => Is y fun j => Sd ((-1000000 ≤ i ∧ i ≤ 1000000) ∧ (-1000000 ≤ j ∧ j ≤ 1000000) ∧ (0 < c ∧ c ≤ 1000000) ∧ j - i ≤ 1000000) (K (rangeS i j c) e2)) X) X) : Wi T n (.range3 a b c) env K X := by
  unfold Wi items
  refine wr_bind (wr_mono h (fun x e1 h => wr_bind (wr_mono h (fun y e2 h => ?_) fun c h => h)) fun c h => h)
  obtain ⟨i, rfl, j, rfl, ⟨h1, h2, h3, h5⟩, h4⟩ := h
  show WR K X (if (okRange i && okRange j && decide (0 < c) && decide (c ≤ most) && decide (j - i ≤ most)) = true then .ok (rangeS i j c, e2) else .stuck)
  rw [ok_rg h1, ok_rg h2, decide_eq_true h3.1, decide_eq_true (show c ≤ ((most : Nat) : Int) from (show c ≤ ((1000000 : Nat) : Int) by omega)), decide_eq_true (show j - i ≤ ((most : Nat) : Int) from (show j - i ≤ ((1000000 : Nat) : Int) by omega))]; first | exact h4 | exact .ok (h4)
theorem wi_zip {a b : E} (h : We T n a env (fun x e1 => We T n b e1 (fun y e2 => ∃ xs ys, ((x = .list xs ∧ y = .list ys) ∨ (x = .tuple xs ∧ y = .tuple ys)) ∧ K (List.zipWith (fun x y => .tuple [x, y]) xs ys) e2) X) X) : Wi T n (.zip a b) env K X := by
  unfold Wi items
  refine wr_bind (wr_mono h (fun x e1 h => wr_bind (wr_mono h (fun y e2 h => ?_) fun c h => h)) fun c h => h)
  obtain ⟨xs, ys, ⟨rfl, rfl⟩ | ⟨rfl, rfl⟩, h'⟩ := h <;> exact .ok h'
def Il (x : D) (k : List D → Prop) : Prop := ∃ xs, x = .list xs ∧ k xs
theorem il_list {xs : List D} {k : List D → Prop} (h : k xs) : Il (.list xs) k := ⟨xs, rfl, h⟩
theorem wi_enum {e : E} (h : We T n e env (fun x e1 => Il x fun xs => K (xs.mapIdx fun i x => .tuple [.int i, x]) e1) X) : Wi T n (.enum e) env K X := by
  unfold Wi items
  refine wr_bind (wr_mono h (fun x e1 h => ?_) fun c h => h)
  obtain ⟨xs, rfl, h⟩ := h
  first | exact h | exact .ok (h)
end
/-! statements -/
section
variable {Q : Fl → Env → Prop} {X : Nat → Prop} {env : Env}
def Th (T : Tab) (n : Nat) (r : List S) (Q : Fl → Env → Prop) (X : Nat → Prop) : Fl → Env → Prop
  | .next, e => Ws T n r e Q X
  | o, e => Q o e
theorem th_next {r : List S} (h : Ws T n r env Q X) : Th T n r Q X .next env := h
theorem th_ret {r : List S} {o : O} (h : Q (.ret o) env) : Th T n r Q X (.ret o) env := h
theorem th_brk {r : List S} (h : Q .brk env) : Th T n r Q X .brk env := h
theorem th_cont {r : List S} (h : Q .cont env) : Th T n r Q X .cont env := h
theorem ws_nil (h : Q .next env) : Ws T (n + 1) [] env Q X := .ok h
theorem ws_cons {s : S} {r : List S} (h : W1 T n s env (Th T (n + 1) r Q X) X) : Ws T (n + 1) (s :: r) env Q X := by
  unfold Ws; rw [exS]
  show WR Q X ((one T (evN T n) (exN T n) s env).bind fun p => match p.1 with | .next => seqS (one T (evN T n) (exN T n)) r p.2 | o => .ok (o, p.2))
  refine wr_bind (wr_mono h (fun fl e1 h => ?_) fun c h => h)
  cases fl <;> first | exact h | exact .ok h
/-- a cut behind a statement -/
theorem ws_cut {s : S} {r : List S} (I : Env → Prop) (h : W1 T n s env (fun f e => match f with | .next => I e | f => Q f e) X) (h2 : ∀ e, I e → Ws T (n + 1) r e Q X) : Ws T (n + 1) (s :: r) env Q X :=
  ws_cons (wr_mono h (fun f e h => by cases f <;> first | exact h2 _ h | exact h) fun _ h => h)
theorem ws_mono {Q' : Fl → Env → Prop} {X' : Nat → Prop} {ss : List S} (h : Ws T n ss env Q X) (h1 : ∀ f e, Q f e → Q' f e) (h2 : ∀ c, X c → X' c) : Ws T n ss env Q' X' := wr_mono h h1 h2
theorem w1_asg {t : Tgt} {e : E} (h : We T n e env (fun d e1 => Wt t d e1 fun e2 => Q .next e2) X) : W1 T n (.asg t e) env Q X := by
  unfold W1 one
  refine wr_bind (wr_mono h (fun d e1 h => ?_) fun c h => h)
  obtain ⟨e2, h1, h2⟩ := h
  show WR Q X (match assignT t d e1 with | some env' => .ok (.next, env') | none => .stuck); rw [h1]; first | exact h2 | exact .ok (h2)
theorem w1_asgO {i : Nat} {e : E} (h : Wo T n e env (fun o e1 => St e1 i (some o) fun e2 => Q .next e2) X) : W1 T n (.asgO i e) env Q X := by
  unfold W1 one
  refine wr_bind (wr_mono h (fun d e1 h => ?_) fun c h => h)
  show WR Q X (if i < e1.length then _ else _); rw [if_pos h.1]; first | exact h.2 | exact .ok (h.2)
def Fz (env : Env) : List Nat → (Env → Prop) → Prop := fun is k => k (freezeAt env is)
theorem w1_frz {is : List Nat} (h : Fz env is (fun e => Q .next e)) : W1 T n (.frz is) env Q X := .ok h
theorem fz1 {i : Nat} {ds : List D} {k : Env → Prop} (e : env[i]? = some (some (.lst (ds.map .val)))) (h : St env i (some (.val (.list ds))) k) : Fz env [i] k := by
  show k (match (env[i]?).join with | some o => if o.tree then setO env i (.val o.toD) else env | none => env)
  rw [get_j e]
  show k (if O.trees (ds.map .val) = true then setO env i (.val (.list (O.toDs (ds.map .val)))) else env)
  rw [if_pos (trees_val ds), toDs_val]; first | exact h.2 | exact .ok (h.2)
theorem fz1v {i : Nat} {d : D} {k : Env → Prop} (e : env[i]? = some (some (.val d))) (h : St env i (some (.val d)) k) : Fz env [i] k := by
  show k (match (env[i]?).join with | some o => if o.tree then setO env i (.val o.toD) else env | none => env)
  rw [get_j e]
  first | exact h.2 | exact .ok (h.2)
theorem fz2 {i : Nat} {is : List Nat} {k : Env → Prop} (h : Fz env is (fun e => Fz e [i] k)) : Fz env (i :: is) k := h
def Pa (is : List Nat) (os : List O) (env : Env) (k : Env → Prop) : Prop := ∃ e1, parAsg is os env = some e1 ∧ k e1
theorem pa_nil {k : Env → Prop} (h : k env) : Pa [] [] env k := ⟨env, rfl, h⟩
theorem pa_cons {i : Nat} {is : List Nat} {o : O} {os : List O} {k : Env → Prop} (h : St env i (some o) (fun e => Pa is os e k)) : Pa (i :: is) (o :: os) env k := by
  obtain ⟨h1, e1, h2, h3⟩ := h
  exact ⟨e1, by show (if i < env.length then parAsg is os (setO env i o) else none) = _; rw [if_pos h1]; exact h2, h3⟩
theorem w1_par {is : List Nat} {own : List Bool} {es : List E} (h : Wp T n own es env (fun os e1 => Pa is os e1 fun e2 => Q .next e2) X) : W1 T n (.par is own es) env Q X := by
  unfold W1 one
  refine wr_bind (wr_mono h (fun d e1 h => ?_) fun c h => h)
  obtain ⟨e2, h1, h2⟩ := h
  show WR Q X (match parAsg is d e1 with | some env' => .ok (.next, env') | none => .stuck); rw [h1]; first | exact h2 | exact .ok (h2)
theorem wp_nil {K : List O → Env → Prop} {bs : List Bool} (h : K [] env) : Wp T n bs [] env K X := by cases bs <;> exact .ok h
theorem wp_t {K : List O → Env → Prop} {bs : List Bool} {e : E} {r : List E} (h : Wo T n e env (fun o e1 => Wp T n bs r e1 (fun os e2 => K (o :: os) e2) X) X) : Wp T n (true :: bs) (e :: r) env K X := by
  unfold Wp
  show WR K X ((evN T n e env).bind fun p => (evOs (evN T n) bs r p.2).bind fun q => .ok (p.1 :: q.1, q.2))
  exact wr_bind (wr_mono h (fun o e1 h => by first | exact wr_bind h | exact wr_bind (wr_mono h (fun _ _ q => .ok q) fun _ q => q)) fun c h => h)
theorem wp_f {K : List O → Env → Prop} {bs : List Bool} {e : E} {r : List E} (h : We T n e env (fun d e1 => Wp T n bs r e1 (fun os e2 => K (.val d :: os) e2) X) X) : Wp T n (false :: bs) (e :: r) env K X := by
  unfold Wp
  show WR K X (((evD (evN T n) e env).bind fun p => .ok (.val p.1, p.2)).bind fun p => (evOs (evN T n) bs r p.2).bind fun q => .ok (p.1 :: q.1, q.2))
  exact wr_bind (wr_bind (wr_mono h (fun o e1 h => .ok (wr_bind (wr_mono h (fun _ _ q => .ok q) fun _ q => q))) fun c h => h))
theorem w1_setIx {i : Nat} {ix e : E} (h : We T n e env (fun v e1 => ∃ o, e1[i]? = some (some o) ∧ We T n ix e1 (fun x e2 => ∃ (ds : List D) (k : Nat), e2[i]? = some (some (.lst (ds.map .val))) ∧ x = .int (k : Int) ∧ k < ds.length ∧ St e2 i (some (.lst ((ds.set k v).map .val))) fun e3 => Q .next e3) X) X) : W1 T n (.setIx i ix e) env Q X := by
  unfold W1 one
  refine wr_bind (wr_mono h (fun v e1 h => ?_) fun c h => h)
  obtain ⟨o, ho, h⟩ := h
  dsimp only
  rw [get_j ho]
  refine wr_bind (wr_mono h (fun x e2 h => ?_) fun c h => h)
  obtain ⟨ds, k, h1, rfl, h2, h3⟩ := h
  dsimp only
  rw [get_j h1]
  dsimp only
  rw [if_pos ⟨by omega, by rw [List.length_map]; omega, by clear h1 h2 h3; induction ds with | nil => rfl | cons d ds ih => exact ih⟩, Int.toNat_natCast]
  have := h3.2
  rw [List.map_set] at this
  first | exact this | exact .ok (this)
def Ag (o : Op2) (a : Int) (x : D) (k : Int → Prop) : Prop := ∃ b r, x = .int b ∧ augF o a b = some r ∧ k r
theorem ag_add {a b : Int} {k : Int → Prop} (h : k (a + b)) : Ag .add a (.int b) k := ⟨b, _, rfl, rfl, h⟩
theorem ag_sub {a b : Int} {k : Int → Prop} (h : k (a - b)) : Ag .sub a (.int b) k := ⟨b, _, rfl, rfl, h⟩
theorem w1_aug {i : Nat} {o : Op2} {e : E} {a : Int} (e0 : env[i]? = some (some (.val (.int a)))) (h : We T n e env (fun x e1 => Ag o a x fun r => St e1 i (some (.val (.int r))) fun e2 => Q .next e2) X) : W1 T n (.aug i o e) env Q X := by
  unfold W1; dsimp only [one]
  rw [get_j e0]
  refine wr_bind (wr_mono h (fun x e1 h => ?_) fun c h => h)
  obtain ⟨b, r, rfl, h1, h2⟩ := h
  dsimp only; rw [h1]; first | exact h2.2 | exact .ok (h2.2)
theorem w1_app {i : Nat} {e : E} {ds : List D} (e0 : env[i]? = some (some (.lst (ds.map .val)))) (h : We T n e env (fun d e1 => Sd (e1[i]? = some (some (.lst (ds.map .val)))) (Sd (ds.length < 1000000) (St e1 i (some (.lst ((ds ++ [d]).map .val))) fun e2 => Q .next e2))) X) : W1 T n (.app i e) env Q X := by
  unfold W1; dsimp only [one]
  rw [get_j e0]
  refine wr_bind (wr_mono h (fun d e1 h => ?_) fun c h => h)
  obtain ⟨h1, h2, h3⟩ := h
  dsimp only; rw [get_j h1]; dsimp only
  rw [if_pos (show (ds.map O.val).length < most by rw [List.length_map]; exact h2)]
  have := h3.2
  rw [List.map_append] at this
  first | exact this | exact .ok (this)
theorem w1_expr {e : E} (h : Wo T n e env (fun _ e1 => Q .next e1) X) : W1 T n (.expr e) env Q X := by first | exact wr_bind h | exact wr_bind (wr_mono h (fun _ _ q => .ok q) fun _ q => q)
theorem w1_if {c : E} {a b : List S} (h : We T n c env (fun x e1 => Tr x fun p => Br p (Ws T n a e1 Q X) (Ws T n b e1 Q X)) X) : W1 T n (.ifS c a b) env Q X := by
  unfold W1 one
  refine wr_bind (wr_mono (wr_truth (K := fun p e1 => Br p (Ws T n a e1 Q X) (Ws T n b e1 Q X)) h) (fun p e1 h => ?_) fun c h => h)
  cases p
  · first | exact h.2 rfl | exact .ok (h.2 rfl)
  · first | exact h.1 rfl | exact .ok (h.1 rfl)
theorem w1_for {t : Tgt} {it : I} {body : List S} (h : Wi T n it env (fun ds e1 => Lp T n body t ds e1 Q X) X) : W1 T n (.forS t it body) env Q X := by first | exact wr_bind h | exact wr_bind (wr_mono h (fun _ _ q => .ok q) fun _ q => q)
theorem w1_while {c : E} {body : List S} (h : Lw T n c body 100000 env Q X) : W1 T n (.whileS c body) env Q X := h
theorem w1_ret {e : E} (h : We T n e env (fun d e1 => Q (.ret (.val d)) e1) X) : W1 T n (.ret e) env Q X := by first | exact wr_bind h | exact wr_bind (wr_mono h (fun _ _ q => .ok q) fun _ q => q)
theorem w1_retO {e : E} (h : Wo T n e env (fun o e1 => Q (.ret o) e1) X) : W1 T n (.retO e) env Q X := by first | exact wr_bind h | exact wr_bind (wr_mono h (fun _ _ q => .ok q) fun _ q => q)
theorem w1_brk (h : Q .brk env) : W1 T n .brk env Q X := .ok h
theorem w1_cont (h : Q .cont env) : W1 T n .cont env Q X := .ok h
theorem w1_pass (h : Q .next env) : W1 T n .pass env Q X := .ok h
theorem w1_raise {c : Nat} (hc : c < T.nx) (h : X c) : W1 T n (.raise c) env Q X := by
  unfold W1; dsimp only [one]; rw [if_pos hc]; exact .err h
theorem w1_try {body : List S} {hs : List (Nat × Option Nat × List S)} (hb : asgds body = []) (h : Ws T n body env Q (fun c => Wh T c env hs Q X)) : W1 T n (.tryS body hs) env Q X := by
  unfold W1; dsimp only [one]; rw [if_pos hb]
  unfold Ws at h
  generalize exN T n body env = r at h
  cases h with
  | ok h => exact .ok h
  | err h => exact h
theorem wh_of {c : Nat} {hs : List (Nat × Option Nat × List S)} {f : Fl} {e : Env} (h : handle T c env hs = .ok (f, e)) (hq : Q f e) : Wh T c env hs Q X := wr_ok h hq
/-! loops -/
def LQ (P : Env → Prop) (Q : Fl → Env → Prop) : Fl → Env → Prop
  | .next, e => P e
  | .cont, e => P e
  | .brk, e => Q .next e
  | .ret o, e => Q (.ret o) e
theorem lq_next {P : Env → Prop} (h : P env) : LQ P Q .next env := h
theorem lq_cont {P : Env → Prop} (h : P env) : LQ P Q .cont env := h
theorem lq_brk {P : Env → Prop} (h : Q .next env) : LQ P Q .brk env := h
theorem lq_ret {P : Env → Prop} {o : O} (h : Q (.ret o) env) : LQ P Q (.ret o) env := h
theorem lp_nil {body : List S} {t : Tgt} (h : Q .next env) : Lp T n body t [] env Q X := .ok h
theorem lp_cons {body : List S} {t : Tgt} {d : D} {ds : List D} (h : Wt t d env (fun e1 => Ws T n body e1 (LQ (fun e2 => Lp T n body t ds e2 Q X) Q) X)) : Lp T n body t (d :: ds) env Q X := by
  obtain ⟨e1, h1, h2⟩ := h
  unfold Lp loopF
  rw [h1]
  refine wr_bind (wr_mono h2 (fun f e h => ?_) fun c h => h)
  cases f <;> first | exact h | exact .ok h
theorem lp_list' {α : Type} {body : List S} {t : Tgt} (emb : α → D) (ms : List α) (I : List α → Env → Prop)
    (step : ∀ done a rest, ms = done ++ a :: rest → ∀ e, I done e → Wt t (emb a) e (fun e1 => Ws T n body e1 (LQ (I (done ++ [a])) Q) X)) (hend : ∀ e, I ms e → Q .next e) :
    ∀ (rest done : List α), ms = done ++ rest → ∀ e, I done e → Lp T n body t (rest.map emb) e Q X
  | [], done, hm, e, h => by rw [List.append_nil] at hm; subst hm; first | exact lp_nil (hend e h) | exact .ok (lp_nil (hend e h))
  | a :: rest, done, hm, e, h => by
    refine lp_cons ?_
    obtain ⟨e1, h1, h2⟩ := step done a rest hm e h
    refine ⟨e1, h1, ws_mono h2 (fun f e h => ?_) fun c h => h⟩
    have ih := fun e h => lp_list' emb ms I step hend rest (done ++ [a]) (by rw [hm, List.append_assoc]; rfl) e h
    cases f with
    | next => exact ih e h
    | cont => exact ih e h
    | brk => exact h
    | ret o => exact h
theorem lp_list {α : Type} {body : List S} {t : Tgt} {ds : List D} (emb : α → D) (ms : List α) (I : List α → Env → Prop) (hd : ds = ms.map emb) (h0 : I [] env)
    (step : ∀ done a rest, ms = done ++ a :: rest → ∀ e, I done e → Wt t (emb a) e (fun e1 => Ws T n body e1 (LQ (I (done ++ [a])) Q) X)) (hend : ∀ e, I ms e → Q .next e) : Lp T n body t ds env Q X := by
  subst hd
  first | exact lp_list' emb ms I step hend ms [] rfl env h0 | exact .ok (lp_list' emb ms I step hend ms [] rfl env h0)
theorem lp_inv {body : List S} {t : Tgt} {ds : List D} (I : Env → Prop) (h0 : I env) (step : ∀ d ∈ ds, ∀ e, I e → Wt t d e (fun e1 => Ws T n body e1 (LQ I Q) X)) (hend : ∀ e, I e → Q .next e) : Lp T n body t ds env Q X :=
  lp_list (fun d => d) ds (fun _ => I) (by rw [List.map_id']) h0 (fun done a rest hm e h => step a (by rw [hm]; exact List.mem_append_right _ List.mem_cons_self) e h) hend
theorem rangeD_ofs (lo : Int) (m : Nat) : rangeD lo (lo + m) = (List.range m).map fun (k : Nat) => .int (lo + (k : Int)) := by
  unfold rangeD; rw [show (lo + (m : Int) - lo).toNat = m by omega]
theorem lp_range {body : List S} {t : Tgt} {lo hi : Int} (I : Int → Env → Prop) (hl : lo ≤ hi) (h0 : I lo env)
    (step : ∀ i, lo ≤ i → i < hi → ∀ e, I i e → Wt t (.int i) e (fun e1 => Ws T n body e1 (LQ (I (i + 1)) Q) X)) (hend : ∀ e, I hi e → Q .next e) : Lp T n body t (rangeD lo hi) env Q X := by
  refine lp_list (fun k : Nat => .int (lo + (k : Int))) (List.range (hi - lo).toNat) (fun done e => I (lo + done.length) e) rfl (by simpa using h0) (fun done a rest hm e h => ?_) fun e h => ?_
  · have hk : a = done.length ∧ a < (hi - lo).toNat := by
      have e1 : (List.range (hi - lo).toNat)[done.length]? = some a := by rw [hm, List.getElem?_append_right (Nat.le_refl _), Nat.sub_self]; rfl
      have e2 := (List.getElem?_eq_some_iff.mp e1)
      obtain ⟨h1, h2⟩ := e2
      rw [List.getElem_range] at h2
      rw [List.length_range] at h1
      omega
    obtain ⟨ha, hb⟩ := hk
    have := step (lo + a) (by omega) (by omega) e (by rw [ha]; exact h)
    rw [List.length_append, List.length_singleton]
    rw [show lo + ((done.length + 1 : Nat) : Int) = lo + a + 1 by omega]
    first | exact this | exact .ok (this)
  · rw [List.length_range, show lo + (((hi - lo).toNat : Nat) : Int) = hi by omega] at h
    first | exact hend e h | exact .ok (hend e h)
theorem lp_range0 {body : List S} {t : Tgt} {lo hi : Int} (hl : hi ≤ lo) (h : Q .next env) : Lp T n body t (rangeD lo hi) env Q X := by
  have : rangeD lo hi = [] := by unfold rangeD; rw [show (hi - lo).toNat = 0 by omega]; rfl
  rw [this]; first | exact lp_nil h | exact .ok (lp_nil h)
theorem lw_inv {c : E} {body : List S} {N : Nat} (I : Nat → Env → Prop) (m : Nat) (hm : m < N) (h0 : I m env)
    (step : ∀ k e, I k e → We T n c e (fun x e1 => Tr x fun b => Br b (∃ k', k = k' + 1 ∧ Ws T n body e1 (LQ (I k') Q) X) (Q .next e1)) X) : Lw T n c body N env Q X := by
  induction m generalizing N env with
  | zero =>
    obtain ⟨N, rfl⟩ : ∃ N', N = N' + 1 := ⟨N - 1, by omega⟩
    unfold Lw loopW
    refine wr_bind (wr_mono (wr_truth (K := fun b e1 => Br b (∃ k', 0 = k' + 1 ∧ Ws T n body e1 (LQ (I k') Q) X) (Q .next e1)) (step 0 env h0)) (fun b e1 h => ?_) fun c h => h)
    cases b
    · first | exact h.2 rfl | exact .ok (h.2 rfl)
    · obtain ⟨k', hk, _⟩ := h.1 rfl; omega
  | succ m ih =>
    obtain ⟨N, rfl⟩ : ∃ N', N = N' + 1 := ⟨N - 1, by omega⟩
    unfold Lw loopW
    refine wr_bind (wr_mono (wr_truth (K := fun b e1 => Br b (∃ k', m + 1 = k' + 1 ∧ Ws T n body e1 (LQ (I k') Q) X) (Q .next e1)) (step (m + 1) env h0)) (fun b e1 h => ?_) fun c h => h)
    cases b
    · first | exact h.2 rfl | exact .ok (h.2 rfl)
    · obtain ⟨k', hk, h'⟩ := h.1 rfl
      have hk : k' = m := by omega
      subst hk
      refine wr_bind (wr_mono h' (fun f e h => ?_) fun c h => h)
      cases f with
      | next => exact ih (by omega) h
      | cont => exact ih (by omega) h
      | brk => exact .ok h
      | ret o => exact .ok h
end
/-! calls -/
section
variable {K : O → Env → Prop} {X : Nat → Prop} {env : Env} {f : Nat} {o : O}
theorem wc0 (h : Ret T n f [] o) (hk : K o env) : Wc T n f [] env K X := wr_ok (call0 env h) hk
theorem wc1 {a : D} (h : Ret T n f [.val a] o) (hk : K o env) : Wc T n f [(none, a)] env K X := wr_ok (call1 env h) hk
theorem wc2 {a b : D} (h : Ret T n f [.val a, .val b] o) (hk : K o env) : Wc T n f [(none, a), (none, b)] env K X := wr_ok (call2 env h) hk
theorem wc3 {a b c : D} (h : Ret T n f [.val a, .val b, .val c] o) (hk : K o env) : Wc T n f [(none, a), (none, b), (none, c)] env K X := wr_ok (call3 env h) hk
theorem wc4 {a b c d : D} (h : Ret T n f [.val a, .val b, .val c, .val d] o) (hk : K o env) : Wc T n f [(none, a), (none, b), (none, c), (none, d)] env K X := wr_ok (callA_pure (ds := [a, b, c, d]) env h) hk
theorem wc5 {a b c d e : D} (h : Ret T n f [.val a, .val b, .val c, .val d, .val e] o) (hk : K o env) : Wc T n f [(none, a), (none, b), (none, c), (none, d), (none, e)] env K X := wr_ok (callA_pure (ds := [a, b, c, d, e]) env h) hk
/-- what a def gives, some of its results -/
def RetP (T : Tab) (n f : Nat) (os : List O) (P : O → Prop) : Prop := ∃ o, P o ∧ Ret T n f os o
theorem wcp {ds : List D} {P : O → Prop} (h : RetP T n f (ds.map .val) P) (hk : ∀ o, P o → K o env) : Wc T n f (ds.map fun d => (none, d)) env K X := by
  obtain ⟨o, hp, h⟩ := h
  exact wr_ok (callA_pure env h) (hk o hp)
/-- a def raises -/
def Err (T : Tab) (n f : Nat) (os : List O) (c : Nat) : Prop := callF T (exN T n) f os = .err c
theorem argOs_none (env : Env) (ds : List D) : argOs env (ds.map fun d => ((none : Option Nat), d)) = some (ds.map .val) := by
  induction ds with
  | nil => rfl
  | cons d ds ih => show (match some (O.val d), argOs env _ with | some o, some os => some (o :: os) | _, _ => none) = _; rw [ih]; rfl
theorem callA_err {ds : List D} {c : Nat} (h : Err T n f (ds.map .val) c) : callA T (exN T n) f (ds.map fun d => (none, d)) env = .err c := by
  have hf : ∃ d, T.fs[f]? = some d := by
    unfold Err callF at h
    cases e : T.fs[f]? with
    | none => rw [e] at h; cases h
    | some d => exact ⟨d, rfl⟩
  have h1 : lent (ds.map fun d => ((none : Option Nat), d)) = [] := by
    clear h
    induction ds with
    | nil => rfl
    | cons d ds ih => exact ih
  unfold callA
  rw [if_pos ⟨by rw [h1]; exact .nil, lentOk_none (List.all_eq_true.mpr fun a ha => by obtain ⟨d, _, rfl⟩ := List.mem_map.mp ha; rfl) hf⟩, argOs_none]
  show (callF T (exN T n) f (ds.map .val)).bind _ = _
  rw [show callF T (exN T n) f (ds.map .val) = .err c from h]; rfl
theorem wx0 {c : Nat} (h : Err T n f [] c) (hk : X c) : Wc T n f [] env K X := wr_err (callA_err (ds := []) h) hk
theorem wx1 {a : D} {c : Nat} (h : Err T n f [.val a] c) (hk : X c) : Wc T n f [(none, a)] env K X := wr_err (callA_err (ds := [a]) h) hk
theorem wx2 {a b : D} {c : Nat} (h : Err T n f [.val a, .val b] c) (hk : X c) : Wc T n f [(none, a), (none, b)] env K X := wr_err (callA_err (ds := [a, b]) h) hk
theorem wx3 {a b d : D} {c : Nat} (h : Err T n f [.val a, .val b, .val d] c) (hk : X c) : Wc T n f [(none, a), (none, b), (none, d)] env K X := wr_err (callA_err (ds := [a, b, d]) h) hk
theorem wx4 {a b d e : D} {c : Nat} (h : Err T n f [.val a, .val b, .val d, .val e] c) (hk : X c) : Wc T n f [(none, a), (none, b), (none, d), (none, e)] env K X := wr_err (callA_err (ds := [a, b, d, e]) h) hk
/-- what a def gives, its first argument lent -/
def RetL (T : Tab) (n f : Nat) (o : O) (os : List O) (r o' : O) : Prop := ∃ rest, callF T (exN T n) f (o :: os) = .ok (r, some o' :: rest)
theorem backs_none (env : Env) (ds : List D) (os : List (Option O)) : backs env (ds.map fun d => ((none : Option Nat), d)) os = env := by
  induction ds generalizing os with
  | nil => cases os <;> rfl
  | cons d ds ih => cases os with
    | nil => rfl
    | cons o os => exact ih os
theorem wcl {i : Nat} {ds : List D} {o o' r : O} {as : List (Option Nat × D)} (h : RetL T n f o (ds.map .val) r o') (ha : as = (some i, .none) :: ds.map fun d => (none, d)) (hk0 : lentOk T f as = true) (e : env[i]? = some (some o)) (hk : St env i (some o') fun e1 => K r e1) : Wc T n f as env K X := by
  obtain ⟨rest, h⟩ := h
  subst ha
  have h1 : lent (ds.map fun d => ((none : Option Nat), d)) = [] := by
    clear h hk0
    induction ds with
    | nil => rfl
    | cons d ds ih => exact ih
  refine wr_ok (callA_run (env' := some o' :: rest) (os := o :: ds.map .val) ?_ hk0 ?_ h) ?_
  · show (i :: lent (ds.map fun d => ((none : Option Nat), d))).Nodup
    rw [h1]; simp
  · show (match argO env (some i, .none), argOs env _ with | some o, some os => some (o :: os) | _, _ => none) = _
    rw [argOs_none, show argO env (some i, PyData.none) = some o from get_j e]
  · show K r (backs (env.set i (some o')) _ rest)
    rw [backs_none]; first | exact hk.2 | exact .ok (hk.2)
end
/-! a whole def -/
def RQ (o : O) : Fl → Env → Prop
  | .ret o', _ => o' = o
  | .next, _ => .val .none = o
  | _, _ => False
theorem rq_ret {o o' : O} {env : Env} (h : o' = o) : RQ o (.ret o') env := h
theorem rq_next {o : O} {env : Env} (h : .val .none = o) : RQ o .next env := h
theorem ret_of {f : Nat} {np ns : Nat} {body : List S} {os : List O} {o : O} {e0 : Env} (hf : T.fs[f]? = some ⟨np, ns, body⟩) (hl : os.length = np) (h0 : Lit (os.map some ++ List.replicate (ns - np) none) e0) (h : Ws T n body e0 (RQ o) (fun _ => False)) : Ret T n f os o := by
  unfold Ret callF
  rw [hf]; dsimp only
  rw [if_pos hl, show os.map some ++ List.replicate (ns - np) none = e0 from h0]
  unfold Ws at h
  revert h
  cases exN T n body e0 with
  | ok p =>
    obtain ⟨fl, e⟩ := p
    intro h
    have h := wr_okE h
    cases fl with
    | next => have h : _ = o := h; subst h; first | exact ⟨_, rfl⟩ | exact .ok (⟨_, rfl⟩)
    | ret o' => have h : o' = o := h; subst h; first | exact ⟨_, rfl⟩ | exact .ok (⟨_, rfl⟩)
    | brk => exact (show False from h).elim
    | cont => exact (show False from h).elim
  | err c => intro h; exact (wr_errE h).elim
  | stuck => intro h; cases h
def RP (P : O → Prop) : Fl → Env → Prop
  | .ret o', _ => P o'
  | .next, _ => P (.val .none)
  | _, _ => False
theorem rp_ret {P : O → Prop} {o' : O} {env : Env} (h : P o') : RP P (.ret o') env := h
theorem rp_next {P : O → Prop} {env : Env} (h : P (.val .none)) : RP P .next env := h
theorem retP_of {f : Nat} {np ns : Nat} {body : List S} {os : List O} {P : O → Prop} {e0 : Env} (hf : T.fs[f]? = some ⟨np, ns, body⟩) (hl : os.length = np) (h0 : Lit (os.map some ++ List.replicate (ns - np) none) e0) (h : Ws T n body e0 (RP P) (fun _ => False)) : RetP T n f os P := by
  unfold RetP Ret callF
  rw [hf]; dsimp only
  rw [if_pos hl, show os.map some ++ List.replicate (ns - np) none = e0 from h0]
  unfold Ws at h
  revert h
  cases exN T n body e0 with
  | ok p =>
    obtain ⟨fl, e⟩ := p
    intro h
    have h := wr_okE h
    cases fl with
    | next => exact ⟨_, h, _, rfl⟩
    | ret o' => exact ⟨_, h, _, rfl⟩
    | brk => exact (show False from h).elim
    | cont => exact (show False from h).elim
  | err c => intro h; exact (wr_errE h).elim
  | stuck => intro h; cases h
theorem err_of {f c : Nat} {np ns : Nat} {body : List S} {os : List O} {e0 : Env} (hf : T.fs[f]? = some ⟨np, ns, body⟩) (hl : os.length = np) (h0 : Lit (os.map some ++ List.replicate (ns - np) none) e0) (h : Ws T n body e0 (fun _ _ => False) (fun c' => c' = c)) : Err T n f os c := by
  unfold Err callF
  rw [hf]; dsimp only
  rw [if_pos hl, show os.map some ++ List.replicate (ns - np) none = e0 from h0]
  unfold Ws at h
  revert h
  cases exN T n body e0 with
  | ok p => intro h; exact (wr_okE h).elim
  | err c' => intro h; have h : c' = c := wr_errE (X := fun c' => c' = c) h; subst h; rfl
  | stuck => intro h; cases h
/-- the first argument comes back -/
def RL (i : Nat) (P : O → O → Prop) : Fl → Env → Prop
  | .ret r, e => ∃ o', e[0]? = some (some o') ∧ P r o'
  | .next, e => ∃ o', e[0]? = some (some o') ∧ P (.val .none) o'
  | _, _ => False
theorem rl_ret {i : Nat} {P : O → O → Prop} {r o' : O} {l : Env} (h : P r o') : RL i P (.ret r) (some o' :: l) := ⟨o', rfl, h⟩
theorem rl_next {i : Nat} {P : O → O → Prop} {o' : O} {l : Env} (h : P (.val .none) o') : RL i P .next (some o' :: l) := ⟨o', rfl, h⟩
theorem wipe0 {e : Env} {o : O} {p : Nat} {vs : List Nat} (h : e[0]? = some (some o)) (hv : 0 ∉ vs) : ∃ rest, wipeE (e.take (p + 1)) vs = some o :: rest := by
  have : (wipeE (e.take (p + 1)) vs)[0]? = some (some o) := by
    rw [(wipeE_get _ 0 vs).1 hv]
    cases e with
    | nil => cases h
    | cons a l => exact h
  cases hw : wipeE (e.take (p + 1)) vs with
  | nil => rw [hw] at this; cases this
  | cons a l => rw [hw] at this; cases this; first | exact ⟨l, rfl⟩ | exact .ok (⟨l, rfl⟩)
theorem retL_of {f p : Nat} {np ns : Nat} {body : List S} {o : O} {os : List O} {P : O → O → Prop} {e0 : Env} (hf : T.fs[f]? = some ⟨np, ns, body⟩) (hp : np = p + 1) (hl : os.length = p) (hv : 0 ∉ asgds body) (h0 : Lit ((o :: os).map some ++ List.replicate (ns - np) none) e0) (h : Ws T n body e0 (RL 0 P) (fun _ => False)) : ∃ r o', P r o' ∧ RetL T n f o os r o' := by
  unfold RetL callF
  rw [hf]; dsimp only
  rw [if_pos (show (o :: os).length = np by rw [hp, List.length_cons, hl]), show (o :: os).map some ++ List.replicate (ns - np) none = e0 from h0]
  unfold Ws at h
  revert h
  cases exN T n body e0 with
  | ok q =>
    obtain ⟨fl, e⟩ := q
    intro h
    have h := wr_okE h
    cases fl with
    | next =>
      obtain ⟨o', h1, h2⟩ := h
      obtain ⟨rest, hr⟩ := wipe0 (p := p) h1 hv
      exact ⟨_, o', h2, rest, by rw [← hr, ← hp]; rfl⟩
    | ret r =>
      obtain ⟨o', h1, h2⟩ := h
      obtain ⟨rest, hr⟩ := wipe0 (p := p) h1 hv
      exact ⟨r, o', h2, rest, by rw [← hr, ← hp]; rfl⟩
    | brk => exact (show False from h).elim
    | cont => exact (show False from h).elim
  | err c => intro h; exact (wr_errE h).elim
  | stuck => intro h; cases h
end
end Ev

end
section
set_option autoImplicit false
set_option linter.all false
set_option maxRecDepth 100000
/-! More of the calculus: comprehensions, values. -/
namespace Ev
open PySem
mutual
theorem assignT_same : ∀ (t : Tgt) {d : D} {env env' : Env}, assignT t d env = some env' → env'.length = env.length ∧ ∀ j, j ∉ tslots t → env'[j]? = env[j]?
  | .nm i, d, env, env', h => by
    have h : (if i < env.length then some (setO env i (.val d)) else none) = some env' := h
    split at h
    · cases h
      refine ⟨List.length_set, fun j hj => ?_⟩
      have hj : j ≠ i := fun e => hj (by subst e; exact List.mem_singleton.mpr rfl)
      exact List.getElem?_set_ne (Ne.symm hj)
    · cases h
  | .tup ts, d, env, env', h => by
    cases d with
    | tuple ds => exact assignTs_same ts h
    | list ds => exact assignTs_same ts h
    | _ => cases h
theorem assignTs_same : ∀ (ts : List Tgt) {ds : List D} {env env' : Env}, assignTs ts ds env = some env' → env'.length = env.length ∧ ∀ j, j ∉ tslotss ts → env'[j]? = env[j]?
  | [], ds, env, env', h => by
    cases ds with
    | nil => cases h; exact ⟨rfl, fun _ _ => rfl⟩
    | cons _ _ => cases h
  | t :: ts, ds, env, env', h => by
    cases ds with
    | nil => cases h
    | cons d ds =>
      have h : (match assignT t d env with | some e => assignTs ts ds e | none => none) = some env' := h
      cases h1 : assignT t d env with
      | none => rw [h1] at h; cases h
      | some e =>
        rw [h1] at h
        obtain ⟨a1, a2⟩ := assignT_same t h1
        obtain ⟨b1, b2⟩ := assignTs_same ts h
        refine ⟨b1.trans a1, fun j hj => ?_⟩
        have hj : j ∉ tslots t ++ tslotss ts := hj
        rw [List.mem_append, not_or] at hj
        rw [b2 j hj.2, a2 j hj.1]
end
theorem assign_wipe {t : Tgt} {d : D} {env env' : Env} (h : assignT t d (wipeE env (tslots t)) = some env') : wipeE env' (tslots t) = wipeE env (tslots t) := by
  obtain ⟨h1, h2⟩ := assignT_same t h
  rw [← wipeE_idem env (tslots t)]
  generalize wipeE env (tslots t) = e0 at *
  generalize tslots t = vs at *
  apply List.ext_getElem?
  intro j
  by_cases hj : j ∈ vs
  · have key : ∀ (vs : List Nat) (env : Env), j ∈ vs → (wipeE env vs)[j]? = (env[j]?).map fun _ => none := by
      intro vs env
      induction vs with
      | nil => intro h; cases h
      | cons a r ih =>
        intro h
        show ((wipeE env r).set a none)[j]? = _
        by_cases ha : a = j
        · subst ha
          rw [List.getElem?_set_self']
          by_cases hr : a ∈ r
          · rw [ih hr]; cases env[a]? <;> rfl
          · rw [(wipeE_get env a r).1 hr]; cases env[a]? <;> rfl
        · rw [List.getElem?_set_ne ha]
          rcases List.mem_cons.mp h with e | e
          · exact absurd e.symm ha
          · exact ih e
    rw [key vs _ hj, key vs _ hj]
    rcases Nat.lt_or_ge j e0.length with hk | hk
    · rw [List.getElem?_eq_getElem hk, List.getElem?_eq_getElem (by rw [h1]; exact hk)]; rfl
    · rw [List.getElem?_eq_none hk, List.getElem?_eq_none (by rw [h1]; exact hk)]
  · rw [(wipeE_get _ j vs).1 hj, (wipeE_get _ j vs).1 hj, h2 j hj]
/-- a value that leaves all as it was -/
def Pu (e2 : Env) (v : D) : D → Env → Prop := fun d e3 => d = v ∧ e3 = e2
theorem pu_of {e2 : Env} {v d : D} (h : d = v) : Pu e2 v d e2 := ⟨h, rfl⟩
def Pb (e2 : Env) (v : Bool) : Bool → Env → Prop := fun b e3 => b = v ∧ e3 = e2
theorem pb_of {e2 : Env} {v b : Bool} (h : b = v) : Pb e2 v b e2 := ⟨h, rfl⟩
section
variable {T : Tab} {n : Nat} {elt : E} {t : Tgt} {ds : List D} {env env0 : Env} {k : List D → Prop} {α : Type}
theorem pu_ok {e : E} {e2 : Env} {v : D} (h : We T n e e2 (Pu e2 v) (fun _ => False)) : evD (evN T n) e e2 = .ok (v, e2) := by
  unfold We at h
  generalize evD (evN T n) e e2 = r at h
  cases h with
  | ok h => obtain ⟨rfl, rfl⟩ := h; rfl
  | err h => exact h.elim
theorem pb_ok {e : E} {e2 : Env} {v : Bool} (h : We T n e e2 (fun x e3 => Tr x fun b => Pb e2 v b e3) (fun _ => False)) : truthE (evN T n) e e2 = .ok (v, e2) := by
  have h := wr_truth (K := fun b e3 => Pb e2 v b e3) h
  generalize truthE (evN T n) e e2 = r at h
  cases h with
  | ok h => obtain ⟨rfl, rfl⟩ := h; rfl
  | err h => exact h.elim
theorem cq_map (emb : α → D) (ms : List α) (g : α → D) (hd : ds = ms.map emb) (hw : Lit (wipeE env (tslots t)) env0)
    (h : ∀ a ∈ ms, Wt t (emb a) env0 (fun e2 => We T n elt e2 (Pu e2 (g a)) (fun _ => False))) (hk : k (ms.map g)) : Cq T n elt t none ds env k := by
  subst hd
  have hw' : wipeE env (tslots t) = env0 := hw
  clear hw
  subst hw'
  refine ⟨ms.map g, ?_⟩
  suffices ∃ envE, turns (evN T n) elt t none (tslots t) (ms.map emb) env = .ok ((ms.map g).map .val, envE) ∧ wipeE envE (tslots t) = wipeE env (tslots t) by
    obtain ⟨envE, h1, h2⟩ := this
    exact ⟨envE, h1, h2, hk⟩
  clear hk
  generalize he : wipeE env (tslots t) = e0 at h
  induction ms generalizing env with
  | nil => exact ⟨env, rfl, he⟩
  | cons a ms ih =>
    obtain ⟨e2, h1, h2⟩ := h a List.mem_cons_self
    have h1' : assignT t (emb a) (wipeE env (tslots t)) = some e2 := by rw [he]; exact h1
    obtain ⟨envE, q1, q2⟩ := ih (env := e2) ((assign_wipe h1').trans he) (fun b hb => h b (List.mem_cons_of_mem _ hb))
    refine ⟨envE, ?_, q2⟩
    rw [List.map_cons]
    unfold turns
    rw [h1']
    show ((evD (evN T n) elt e2).bind fun q => (turns (evN T n) elt t none (tslots t) (ms.map emb) q.2).bind fun r => .ok (O.val q.1 :: r.1, r.2)) = _
    rw [pu_ok h2, okb, q1]; rfl
theorem cq_fil {c : E} (emb : α → D) (ms : List α) (p : α → Bool) (g : α → D) (hd : ds = ms.map emb) (hw : Lit (wipeE env (tslots t)) env0)
    (h : ∀ a ∈ ms, Wt t (emb a) env0 (fun e2 => We T n c e2 (fun x e3 => Tr x fun b => Pb e2 (p a) b e3) (fun _ => False)))
    (h' : ∀ a ∈ ms, p a = true → Wt t (emb a) env0 (fun e2 => We T n elt e2 (Pu e2 (g a)) (fun _ => False))) (hk : k ((ms.filter p).map g)) : Cq T n elt t (some c) ds env k := by
  subst hd
  have hw' : wipeE env (tslots t) = env0 := hw
  clear hw
  subst hw'
  refine ⟨(ms.filter p).map g, ?_⟩
  suffices ∃ envE, turns (evN T n) elt t (some c) (tslots t) (ms.map emb) env = .ok (((ms.filter p).map g).map .val, envE) ∧ wipeE envE (tslots t) = wipeE env (tslots t) by
    obtain ⟨envE, h1, h2⟩ := this
    exact ⟨envE, h1, h2, hk⟩
  clear hk
  generalize he : wipeE env (tslots t) = e0 at h h'
  induction ms generalizing env with
  | nil => exact ⟨env, rfl, he⟩
  | cons a ms ih =>
    obtain ⟨e2, h1, h2⟩ := h a List.mem_cons_self
    have h1' : assignT t (emb a) (wipeE env (tslots t)) = some e2 := by rw [he]; exact h1
    obtain ⟨envE, q1, q2⟩ := ih (env := e2) ((assign_wipe h1').trans he) (fun b hb => h b (List.mem_cons_of_mem _ hb)) (fun b hb => h' b (List.mem_cons_of_mem _ hb))
    refine ⟨envE, ?_, q2⟩
    rw [List.map_cons]
    unfold turns
    rw [h1']
    show ((truthE (evN T n) c e2).bind fun q => if q.1 then (evD (evN T n) elt q.2).bind fun q => (turns (evN T n) elt t (some c) (tslots t) (ms.map emb) q.2).bind fun r => .ok (O.val q.1 :: r.1, r.2) else turns (evN T n) elt t (some c) (tslots t) (ms.map emb) q.2) = _
    rw [pb_ok h2, okb]
    dsimp only
    cases hp : p a with
    | true =>
      obtain ⟨e2', h1'', h3⟩ := h' a List.mem_cons_self hp
      have : e2' = e2 := by rw [h1] at h1''; cases h1''; rfl
      subst this
      rw [if_pos rfl, pu_ok h3, okb, q1, List.filter_cons, hp]; rfl
    | false =>
      rw [if_neg (by decide), q1, List.filter_cons, hp]; rfl
end
/-! values -/
section
variable {k : O → Prop} {a b c d e : D} {l : List D}
theorem ixT {xs : List D} {i : Nat} {x : D} (h : xs[i]? = some x) : ev2 .idx (.tuple xs) (.int (i : Int)) = some (.val x) := by
  show (atD xs i).map _ = _; unfold atD; rw [L2.atI_nat h]; rfl
theorem ixL {xs : List D} {i : Nat} {x : D} (h : xs[i]? = some x) : ev2 .idx (.list xs) (.int (i : Int)) = some (.val x) := by
  show (atD xs i).map _ = _; unfold atD; rw [L2.atI_nat h]; rfl
theorem v2_ixT {xs : List D} {i : Int} {x : D} (h0 : 0 ≤ i) (h : xs[i.toNat]? = some x) (hk : k (.val x)) : V2 .idx (.tuple xs) (.int i) k := ⟨_, by have := ixT h; rwa [Int.toNat_of_nonneg h0] at this, hk⟩
theorem v2_ixL {xs : List D} {i : Int} {x : D} (h0 : 0 ≤ i) (h : xs[i.toNat]? = some x) (hk : k (.val x)) : V2 .idx (.list xs) (.int i) k := ⟨_, by have := ixL h; rwa [Int.toNat_of_nonneg h0] at this, hk⟩
theorem v2_t0 (h : k (.val a)) : V2 .idx (.tuple (a :: l)) (.int 0) k := ⟨_, ixT (i := 0) rfl, h⟩
theorem v2_t1 (h : k (.val b)) : V2 .idx (.tuple (a :: b :: l)) (.int 1) k := ⟨_, ixT (i := 1) rfl, h⟩
theorem v2_t2 (h : k (.val c)) : V2 .idx (.tuple (a :: b :: c :: l)) (.int 2) k := ⟨_, ixT (i := 2) rfl, h⟩
theorem v2_t3 (h : k (.val d)) : V2 .idx (.tuple (a :: b :: c :: d :: l)) (.int 3) k := ⟨_, ixT (i := 3) rfl, h⟩
theorem v2_l0 (h : k (.val a)) : V2 .idx (.list (a :: l)) (.int 0) k := ⟨_, ixL (i := 0) rfl, h⟩
theorem v2_l1 (h : k (.val b)) : V2 .idx (.list (a :: b :: l)) (.int 1) k := ⟨_, ixL (i := 1) rfl, h⟩
theorem v2_l2 (h : k (.val c)) : V2 .idx (.list (a :: b :: c :: l)) (.int 2) k := ⟨_, ixL (i := 2) rfl, h⟩
theorem v2_l3 (h : k (.val d)) : V2 .idx (.list (a :: b :: c :: d :: l)) (.int 3) k := ⟨_, ixL (i := 3) rfl, h⟩
theorem v2_isN (x : D) (h : k (.val (.bool (isNone x)))) : V2 .is x .none k := ⟨_, by cases x <;> rfl, h⟩
theorem v2_isnN (x : D) (h : k (.val (.bool (!isNone x)))) : V2 .isnt x .none k := ⟨_, by cases x <;> rfl, h⟩
theorem v2_eqS {x y : Str} (h : k (.val (.bool (decide (x = y))))) : V2 .eq (.str x) (.str y) k := ⟨_, v_eqA x y (by decide), h⟩
theorem v2_neS {x y : Str} (h : k (.val (.bool (!decide (x = y))))) : V2 .ne (.str x) (.str y) k := ⟨_, v_neA x y (by decide), h⟩
theorem v2_eqB {x y : Bool} (h : k (.val (.bool (x == y)))) : V2 .eq (.bool x) (.bool y) k := ⟨_, by simp [ev2, PyData.plain, PyData.depth, PyData.eqv], h⟩
theorem v2_neB {x y : Bool} (h : k (.val (.bool (!(x == y))))) : V2 .ne (.bool x) (.bool y) k := ⟨_, by simp [ev2, PyData.plain, PyData.depth, PyData.eqv], h⟩
theorem v2_lcat {xs ys : List D} (h0 : xs.length + ys.length ≤ 1000000) (h : k (.lst ((xs ++ ys).map .val))) : V2 .add (.list xs) (.list ys) k := ⟨_, if_pos (show xs.length + ys.length ≤ most from h0), h⟩
theorem v2_tcat {xs ys : List D} (h0 : xs.length + ys.length ≤ 1000000) (h : k (.val (.tuple (xs ++ ys)))) : V2 .add (.tuple xs) (.tuple ys) k := ⟨_, if_pos (show xs.length + ys.length ≤ most from h0), h⟩
theorem v1_isT {t : Ty} {x : D} {b : Bool} (e : isTy t x = b) (h : k (.val (.bool b))) : V1 (.isT t) x k := ⟨_, rfl, by rw [e]; exact h⟩
theorem v1_lenL {xs : List D} (h : k (.val (.int xs.length))) : V1 .len (.list xs) k := ⟨_, rfl, h⟩
theorem v1_lenT {xs : List D} (h : k (.val (.int xs.length))) : V1 .len (.tuple xs) k := ⟨_, rfl, h⟩
theorem v1_int {i : Int} (h : k (.val (.int i))) : V1 .int (.int i) k := ⟨_, rfl, h⟩
theorem v1_intB {p : Bool} (h : k (.val (.int (if p then 1 else 0)))) : V1 .int (.bool p) k := ⟨_, rfl, h⟩
theorem v1_abs {i : Int} (h : k (.val (.int (if i < 0 then -i else i)))) : V1 .abs (.int i) k := ⟨_, rfl, h⟩
theorem v1_neg {i : Int} (h : k (.val (.int (-i)))) : V1 .neg (.int i) k := ⟨_, rfl, h⟩
theorem v1_tupL {xs : List D} (h : k (.val (.tuple xs))) : V1 .tuple (.list xs) k := ⟨_, rfl, h⟩
theorem v1_tupT {xs : List D} (h : k (.val (.tuple xs))) : V1 .tuple (.tuple xs) k := ⟨_, rfl, h⟩
theorem v1_lstL {xs : List D} (h : k (.lst (xs.map .val))) : V1 .list (.list xs) k := ⟨_, rfl, h⟩
theorem v1_lstT {xs : List D} (h : k (.lst (xs.map .val))) : V1 .list (.tuple xs) k := ⟨_, rfl, h⟩
theorem v1_revL {xs : List D} (h : k (.lst (xs.reverse.map .val))) : V1 .rev (.list xs) k := ⟨_, rfl, h⟩
theorem v1_revT {xs : List D} (h : k (.val (.tuple xs.reverse))) : V1 .rev (.tuple xs) k := ⟨_, rfl, h⟩
theorem v1_lrev {xs : List D} (h : k (.lst (xs.reverse.map .val))) : V1 .listRev (.list xs) k := ⟨_, rfl, h⟩
theorem v1_all {α : Type} {q : α → Bool} {ms : List α} (h : k (.val (.bool (ms.all q)))) : V1 .all (.list (ms.map fun a => .bool (q a))) k := ⟨_, u_all q ms, h⟩
theorem v1_any {α : Type} {q : α → Bool} {ms : List α} (h : k (.val (.bool (ms.any q)))) : V1 .any (.list (ms.map fun a => .bool (q a))) k := ⟨_, u_any q ms, h⟩
theorem ints_map {α : Type} (q : α → Int) : ∀ ms : List α, ints? (ms.map fun a => PyData.int (q a)) = some (ms.map q)
  | [] => rfl
  | a :: ms => by show (ints? (ms.map _)).map _ = _; rw [ints_map q ms]; rfl
theorem v1_sum {α : Type} {q : α → Int} {ms : List α} (h : k (.val (.int (ms.map q).sum))) : V1 .sum (.list (ms.map fun a => .int (q a))) k := ⟨_, by show (ints? _).map _ = _; rw [ints_map]; rfl, h⟩
theorem v1_sumT {α : Type} {q : α → Int} {ms : List α} (h : k (.val (.int (ms.map q).sum))) : V1 .sum (.tuple (ms.map fun a => .int (q a))) k := ⟨_, by show (ints? _).map _ = _; rw [ints_map]; rfl, h⟩
theorem vs_T {xs : List D} {lo hi : Option Int} (h : k (.val (.tuple (cutD xs lo hi)))) : Vs (.tuple xs) lo hi k := ⟨_, rfl, h⟩
theorem vs_L {xs : List D} {lo hi : Option Int} (h : k (.lst ((cutD xs lo hi).map .val))) : Vs (.list xs) lo hi k := ⟨_, rfl, h⟩
theorem ex_int {p : Int → Prop} {i : Int} (h : p i) : ∃ j, (PyData.int i) = .int j ∧ p j := ⟨i, rfl, h⟩
end
/-! lent calls -/
section
variable {T : Tab} {n f i : Nat} {K : O → Env → Prop} {X : Nat → Prop} {env : Env} {o o' r : O}
theorem wcl0 (h : RetL T n f o [] r o') (hk0 : lentOk T f [(some i, .none)] = true) (e : env[i]? = some (some o)) (hk : St env i (some o') fun e1 => K r e1) : Wc T n f [(some i, .none)] env K X := wcl (ds := []) h rfl hk0 e hk
theorem wcl1 {a : D} (h : RetL T n f o [.val a] r o') (hk0 : lentOk T f [(some i, .none), (none, a)] = true) (e : env[i]? = some (some o)) (hk : St env i (some o') fun e1 => K r e1) : Wc T n f [(some i, .none), (none, a)] env K X := wcl (ds := [a]) h rfl hk0 e hk
theorem wcl2 {a b : D} (h : RetL T n f o [.val a, .val b] r o') (hk0 : lentOk T f [(some i, .none), (none, a), (none, b)] = true) (e : env[i]? = some (some o)) (hk : St env i (some o') fun e1 => K r e1) : Wc T n f [(some i, .none), (none, a), (none, b)] env K X := wcl (ds := [a, b]) h rfl hk0 e hk
theorem wcl3 {a b c : D} (h : RetL T n f o [.val a, .val b, .val c] r o') (hk0 : lentOk T f [(some i, .none), (none, a), (none, b), (none, c)] = true) (e : env[i]? = some (some o)) (hk : St env i (some o') fun e1 => K r e1) : Wc T n f [(some i, .none), (none, a), (none, b), (none, c)] env K X := wcl (ds := [a, b, c]) h rfl hk0 e hk
/-- all of written things -/
def Am (xs : List D) (P : D → Prop) : Prop := ∀ x ∈ xs, P x
theorem am_nil {P : D → Prop} : Am [] P := fun _ h => (nomatch h)
theorem am_cons {P : D → Prop} {x : D} {xs : List D} (h : P x) (h2 : Am xs P) : Am (x :: xs) P := fun y hy => by
  rcases List.mem_cons.mp hy with rfl | hy
  · exact h
  · exact h2 y hy
end
/-! written things -/
def LitD (xs ys : List D) : Prop := xs = ys
theorem ld_cons {xs l l' : List D} {a : D} (h : xs = a :: l) (h2 : LitD l l') : LitD xs (a :: l') := by unfold LitD at *; rw [h, h2]
theorem ld_nil {xs : List D} (h : xs = []) : LitD xs [] := h
def Ln (xs : List D) (n : Nat) : Prop := xs.length = n
theorem ln_nil : Ln [] 0 := rfl
theorem ln_cons {a : D} {l : List D} {n : Nat} (h : Ln l n) : Ln (a :: l) (n + 1) := by unfold Ln at *; rw [List.length_cons, h]
theorem ln_map {α : Type} {f : α → D} {l : List α} : Ln (l.map f) l.length := List.length_map ..
theorem ln_app {l m : List D} {a b : Nat} (h : Ln l a) (h2 : Ln m b) : Ln (l ++ m) (a + b) := by unfold Ln at *; rw [List.length_append, h, h2]
theorem ln_any {l : List D} : Ln l l.length := rfl
section
variable {k : O → Prop}
theorem v1_lenTn {xs : List D} {n : Nat} (e : Ln xs n) (h : k (.val (.int (n : Int)))) : V1 .len (.tuple xs) k := ⟨_, rfl, by rw [show xs.length = n from e]; exact h⟩
theorem v1_lenLn {xs : List D} {n : Nat} (e : Ln xs n) (h : k (.val (.int (n : Int)))) : V1 .len (.list xs) k := ⟨_, rfl, by rw [show xs.length = n from e]; exact h⟩
theorem v2_lcatl {xs ys zs : List D} (h0 : xs.length + ys.length ≤ 1000000) (e : LitD (xs ++ ys) zs) (h : k (.lst (zs.map .val))) : V2 .add (.list xs) (.list ys) k := v2_lcat h0 (by rw [show xs ++ ys = zs from e]; exact h)
theorem v2_tcatl {xs ys zs : List D} (h0 : xs.length + ys.length ≤ 1000000) (e : LitD (xs ++ ys) zs) (h : k (.val (.tuple zs))) : V2 .add (.tuple xs) (.tuple ys) k := v2_tcat h0 (by rw [show xs ++ ys = zs from e]; exact h)
theorem vs_Tl {xs ys : List D} {lo hi : Option Int} (e : LitD (cutD xs lo hi) ys) (h : k (.val (.tuple ys))) : Vs (.tuple xs) lo hi k := vs_T (by rw [show cutD xs lo hi = ys from e]; exact h)
theorem vs_Ll {xs ys : List D} {lo hi : Option Int} (e : LitD (cutD xs lo hi) ys) (h : k (.lst (ys.map .val))) : Vs (.list xs) lo hi k := vs_L (by rw [show cutD xs lo hi = ys from e]; exact h)
end
section
variable {k : O → Prop} {a b : Int}
theorem v2_addI (h : k (.val (.int (a + b)))) : V2 .add (.int a) (.int b) k := ⟨_, v_add _ _, h⟩
theorem v2_subI (h : k (.val (.int (a - b)))) : V2 .sub (.int a) (.int b) k := ⟨_, v_sub _ _, h⟩
theorem v2_eqI (h : k (.val (.bool (decide (a = b))))) : V2 .eq (.int a) (.int b) k := ⟨_, v_eq _ _, by rw [show (a == b) = decide (a = b) by rw [Bool.eq_iff_iff]; simp]; exact h⟩
theorem v2_neI (h : k (.val (.bool (!decide (a = b))))) : V2 .ne (.int a) (.int b) k := ⟨_, v_ne _ _, by rw [show (a == b) = decide (a = b) by rw [Bool.eq_iff_iff]; simp]; exact h⟩
theorem v2_ltI (h : k (.val (.bool (decide (a < b))))) : V2 .lt (.int a) (.int b) k := ⟨_, v_lt _ _, h⟩
theorem v2_leI (h : k (.val (.bool (decide (a ≤ b))))) : V2 .le (.int a) (.int b) k := ⟨_, v_le _ _, h⟩
theorem v2_gtI (h : k (.val (.bool (decide (b < a))))) : V2 .gt (.int a) (.int b) k := ⟨_, v_gt _ _, h⟩
theorem v2_geI (h : k (.val (.bool (decide (b ≤ a))))) : V2 .ge (.int a) (.int b) k := ⟨_, v_ge _ _, h⟩
theorem v2_mulI (h1 : Sm a) (h2 : Sm b) (h : k (.val (.int (a * b)))) : V2 .mul (.int a) (.int b) k := ⟨_, v_mul h1 h2, h⟩
theorem v2_modI (h1 : 0 < b) (h : k (.val (.int (a % b)))) : V2 .mod (.int a) (.int b) k := ⟨_, v_mod h1, h⟩
theorem v2_fdivI (h1 : 0 < b) (h2 : SmD b) (h : k (.val (.int (a / b)))) : V2 .fdiv (.int a) (.int b) k := ⟨_, v_fdiv h1 h2, h⟩
theorem v2_minI (h : k (.val (.int (min a b)))) : V2 .min2 (.int a) (.int b) k := ⟨_, v_min _ _, by rw [show (if b < a then b else a) = min a b by omega]; exact h⟩
theorem v2_maxI (h : k (.val (.int (max a b)))) : V2 .max2 (.int a) (.int b) k := ⟨_, v_max _ _, by rw [show (if b > a then b else a) = max a b by omega]; exact h⟩
theorem v2_isB {p q : Bool} (h : k (.val (.bool (p == q)))) : V2 .is (.bool p) (.bool q) k := ⟨_, v_is _ _, h⟩
theorem v2_isnB {p q : Bool} (h : k (.val (.bool (!(p == q))))) : V2 .isnt (.bool p) (.bool q) k := ⟨_, v_isnt _ _, h⟩
theorem v2_eqL0 {xs : List Int} (h : k (.val (.bool (decide (xs = []))))) : V2 .eq (.list (xs.map .int)) (.list []) k := ⟨_, v_eqL0 _, h⟩
theorem v2_neL0 {xs : List Int} (h : k (.val (.bool (!decide (xs = []))))) : V2 .ne (.list (xs.map .int)) (.list []) k := ⟨_, v_neL0 _, h⟩
theorem v2_eqL {xs ys : List Int} (h : k (.val (.bool (decide (xs = ys))))) : V2 .eq (.list (xs.map .int)) (.list (ys.map .int)) k := ⟨_, v_eqL _ _, h⟩
theorem v2_neL {xs ys : List Int} (h : k (.val (.bool (!decide (xs = ys))))) : V2 .ne (.list (xs.map .int)) (.list (ys.map .int)) k := ⟨_, v_neL _ _, h⟩
theorem v2_innI {xs : List Int} (h : k (.val (.bool (decide (a ∈ xs))))) : V2 .inn (.int a) (.list (xs.map .int)) k := ⟨_, v_innI _ _, h⟩
theorem v2_ninI {xs : List Int} (h : k (.val (.bool (!decide (a ∈ xs))))) : V2 .nin (.int a) (.list (xs.map .int)) k := ⟨_, v_ninI _ _, h⟩
end
def fz1' (a : Option O) : Option O := match a with
  | some o => if o.tree then some (.val o.toD) else none
  | none => none
theorem fz_any {a : Option O} {l l' : Env} (h : Frz l l') : Frz (a :: l) (fz1' a :: l') := by
  show fz1' a :: frozen l = _
  rw [show frozen l = l' from h]
section
variable {k : O → Prop} {a : D}
theorem v2_mulL1 {j : Int} {m : Nat} (hm : j.toNat = m) (h0 : -1000000 ≤ j ∧ j ≤ 1000000) (h : k (.lst ((List.replicate m a).map .val))) : V2 .mul (.list [a]) (.int j) k := by
  refine ⟨_, if_pos ⟨h0, ?a⟩, ?b⟩
  case a =>
    rw [List.length_singleton]
    exact Nat.le_trans (show 1 * j.toNat ≤ 1000000 by omega) (Nat.le_refl _)
  case b =>
    have : (List.replicate j.toNat [a]).flatten = List.replicate m a := by
      rw [hm]
      clear hm h
      induction m with
      | zero => rfl
      | succ m ih => rw [List.replicate_succ, List.flatten_cons, ih]; rfl
    rw [this]; exact h
theorem v2_in {xs : List D} {x : D} {b : Bool} (h1 : PyData.plainAll xs = true) (h2 : x.plain = true) (h3 : x.depth ≤ 20) (e : (xs.any fun y => PyData.eqv y x) = b) (h : k (.val (.bool b))) : V2 .inn x (.list xs) k := by
  refine ⟨.val (.bool b), ?_, h⟩
  simp only [ev2, seq?]
  rw [h1, h2, decide_eq_true h3, e]; rfl
theorem v2_eqE {xs : List D} (h1 : PyData.plainAll xs = true) (h2 : (PyData.list xs).depth ≤ 20) (h : k (.val (.bool xs.isEmpty))) : V2 .eq (.list xs) (.list []) k := by
  refine ⟨_, ?_, h⟩
  simp only [ev2]
  rw [show (PyData.list xs).plain = true from h1, show (PyData.list []).plain = true from rfl, decide_eq_true h2]
  cases xs <;> rfl
end
section
variable {T : Tab} {n : Nat} {elt : E} {t : Tgt} {ds : List D} {env env0 : Env} {k : List D → Prop}
theorem cq_mapL (g : D → D) (hw : Lit (wipeE env (tslots t)) env0) (h : Am ds fun d => Wt t d env0 (fun e2 => We T n elt e2 (Pu e2 (g d)) (fun _ => False))) (hk : k (ds.map g)) : Cq T n elt t none ds env k :=
  cq_map (fun d => d) ds g (by rw [List.map_id']) hw h hk
end
/-- tuples by what is within -/
def Dt (xs : List D) (ws : List (List D)) : Prop := xs = ws.map .tuple
theorem dt_map {ws : List (List D)} : Dt (ws.map .tuple) ws := rfl
theorem dt_nil : Dt [] [] := rfl
theorem dt_cons {w : List D} {xs : List D} {ws : List (List D)} (h : Dt xs ws) : Dt (.tuple w :: xs) (w :: ws) := by unfold Dt at *; rw [h]; rfl
theorem dt_rep {w : List D} {m : Nat} : Dt (List.replicate m (.tuple w)) (List.replicate m w) := by unfold Dt; rw [List.map_replicate]
end Ev

end
section
set_option Elab.async false
set_option linter.all false
set_option maxRecDepth 100000
set_option maxHeartbeats 0
namespace Hd
open PySem PySem.Spec PyProof.Rows L2
def top (i : Nat) : Stmt := PySem.Challenge.pw_chimeward_k09_whole_faults_of_words.main.body.getD i (.Pass ⟨0, 0, 0, 0⟩)
def d0 : He.DefD := ⟨("is_integer", none), "is_integer", "is_integer", defArgs (top 7), defBody (top 7), defScope (top 7), [], []⟩
def d1 : He.DefD := ⟨("is_within", none), "is_within", "is_within", defArgs (top 8), defBody (top 8), defScope (top 8), [], []⟩
def d2 : He.DefD := ⟨("check", none), "check", "check", defArgs (top 9), defBody (top 9), defScope (top 9), [], []⟩
def d3 : He.DefD := ⟨("has_minutes", none), "has_minutes", "has_minutes", defArgs (top 15), defBody (top 15), defScope (top 15), [], []⟩
def d4 : He.DefD := ⟨("fault_of", none), "fault_of", "fault_of", defArgs (top 16), defBody (top 16), defScope (top 16), [], []⟩
def d5 : He.DefD := ⟨("word_faults", none), "word_faults", "word_faults", defArgs (top 17), defBody (top 17), defScope (top 17), [], []⟩
def d6 : He.DefD := ⟨("check_until", none), "check_until", "check_until", defArgs (top 23), defBody (top 23), defScope (top 23), [], []⟩
def d7 : He.DefD := ⟨("is_word", none), "is_word", "is_word", defArgs (top 24), defBody (top 24), defScope (top 24), [], []⟩
def d8 : He.DefD := ⟨("words_by", none), "words_by", "words_by", defArgs (top 25), defBody (top 25), defScope (top 25), [], []⟩
def d9 : He.DefD := ⟨("are_words", none), "are_words", "are_words", defArgs (top 26), defBody (top 26), defScope (top 26), [], []⟩
def d10 : He.DefD := ⟨("_law_draws", none), "_law_draws", "_law_draws", defArgs (top 28), defBody (top 28), defScope (top 28), [], []⟩
def d11 : He.DefD := ⟨("_law_take", none), "_law_take", "_law_take", defArgs (top 29), defBody (top 29), defScope (top 29), [], []⟩
def d12 : He.DefD := ⟨("_law_pick", none), "_law_pick", "_law_pick", defArgs (top 30), defBody (top 30), defScope (top 30), [], []⟩
def d13 : He.DefD := ⟨("_law_same", none), "_law_same", "_law_same", defArgs (top 31), defBody (top 31), defScope (top 31), [], []⟩
def d14 : He.DefD := ⟨("_law_flags", none), "_law_flags", "_law_flags", defArgs (top 32), defBody (top 32), defScope (top 32), [], []⟩
def d15 : He.DefD := ⟨("_law_told", none), "_law_told", "_law_told", defArgs (top 33), defBody (top 33), defScope (top 33), [], []⟩
def d16 : He.DefD := ⟨("_law_is_number", none), "_law_is_number", "_law_is_number", defArgs (top 34), defBody (top 34), defScope (top 34), [], []⟩
def d17 : He.DefD := ⟨("_law_faults", none), "_law_faults", "_law_faults", defArgs (top 35), defBody (top 35), defScope (top 35), [], []⟩
def d18 : He.DefD := ⟨("_law_draft", none), "_law_draft", "_law_draft", defArgs (top 36), defBody (top 36), defScope (top 36), [], []⟩
def d19 : He.DefD := ⟨("law", none), "law", "law", defArgs (top 37), defBody (top 37), defScope (top 37), [], []⟩
def fn : List He.DefD := ([d0, d1, d2, d3, d4, d5, d6, d7, d8, d9, d10, d11, d12, d13, d14, d15, d16, d17, d18, d19] : List He.DefD)
def fa : List He.Fa := ([.glo "is_integer", .glo "is_within", .glo "check", .glo "has_minutes", .glo "fault_of", .glo "word_faults", .glo "check_until", .glo "is_word", .glo "words_by", .glo "are_words", .glo "_law_draws", .glo "_law_take", .glo "_law_pick", .glo "_law_same", .glo "_law_flags", .glo "_law_told", .glo "_law_is_number", .glo "_law_faults", .glo "_law_draft", .glo "law", .free "abs", .free "all", .free "bool", .free "dict", .free "enumerate", .free "int", .free "isinstance", .free "len", .free "list", .free "range"] : List He.Fa) ++ ([.free "repr", .free "reversed", .free "str", .free "super", .free "tuple", .int "MOST_WORDS_sheets" 40, .int "MOST_UNTIL_sheets" 20000, .int "MOST_STRUCK" 400, .int "MOST_UNTIL_stops" 20000, .int "MOST_WORDS_stops" 40, .int "MOST_TIMES" 400, .glo "ChimeError", .keep "ChimeError", .glo "NotRight", .keep "NotRight", .glo "NotThere", .keep "NotThere", .glo "NoAnswer", .keep "NoAnswer", .glo "TooLarge", .keep "TooLarge", .glo "Malformed", .keep "Malformed", .glo "SIZES", .glo "LONG", .exc "ChimeError", .exc "NotRight", .exc "NotThere", .exc "NoAnswer", .exc "TooLarge"] : List He.Fa) ++ ([.exm "ChimeError" "ChimeError" true, .exm "ChimeError" "NotRight" false, .exm "ChimeError" "NotThere" false, .exm "ChimeError" "NoAnswer" false, .exm "ChimeError" "TooLarge" false, .exm "ChimeError" "Malformed" false, .exm "NotRight" "ChimeError" true, .exm "NotRight" "NotRight" true, .exm "NotRight" "NotThere" false, .exm "NotRight" "NoAnswer" false, .exm "NotRight" "TooLarge" false, .exm "NotRight" "Malformed" false, .exm "NotThere" "ChimeError" true, .exm "NotThere" "NotRight" false, .exm "NotThere" "NotThere" true, .exm "NotThere" "NoAnswer" false, .exm "NotThere" "TooLarge" false, .exm "NotThere" "Malformed" false, .exm "NoAnswer" "ChimeError" true, .exm "NoAnswer" "NotRight" false, .exm "NoAnswer" "NotThere" false, .exm "NoAnswer" "NoAnswer" true, .exm "NoAnswer" "TooLarge" false, .exm "NoAnswer" "Malformed" false, .exm "TooLarge" "ChimeError" true, .exm "TooLarge" "NotRight" false, .exm "TooLarge" "NotThere" false, .exm "TooLarge" "NoAnswer" false, .exm "TooLarge" "TooLarge" true, .exm "TooLarge" "Malformed" false] : List He.Fa)
abbrev R : PySem.W.OpenRow := PySem.W.OpenLaw.row PySem.Challenge.rw_chimeward_k09_whole_faults_of_words
def exn : List Str := ["ChimeError", "NotRight", "NotThere", "NoAnswer", "TooLarge"]
def gt0 : List (Str × Int) := [("heard", 3), ("quiet", 3), ("went", 2), ("stood", 2), ("struck", 4)]
def gt1 : List (Str × Int) := [("heard", 3), ("quiet", 3), ("went", 2), ("stood", 2), ("struck", 4)]
def gts : List Ev.GTab := [("SIZES", gt0), ("LONG", gt1)]
abbrev hk : PySem.W.Hook := Ev.hookE 5 fa fn exn gts
def ob (s : PySem.W.SharedT) : (He.AlD × Bool) × (List (Option (List (Option (Str × Int)))) × Bool) := Ev.obsE 5 fa fn exn gts (HandSHeadRun.getT s)
theorem ob_eq (s : PySem.W.SharedT) : ob s = hk.obs s.abs := Ev.obsE_eq (HandSHeadRun.getT_eq s)
def loose : List Str := (["is_integer", "is_within", "check", "has_minutes", "fault_of", "word_faults", "check_until", "is_word", "words_by", "are_words", "_law_draws", "_law_take", "_law_pick", "_law_same", "_law_flags", "_law_told", "_law_is_number", "_law_faults", "_law_draft", "SIZES", "MOST_WORDS_sheets", "MOST_UNTIL_sheets", "MOST_STRUCK", "MOST_UNTIL_stops", "MOST_WORDS_stops", "MOST_TIMES", "LONG", "ChimeError", "NotRight", "NotThere"] : List Str) ++ (["NoAnswer", "TooLarge", "Malformed"] : List Str)
theorem run0 (w : World) : HandSHeadRun.RunEq R (PySem.W.view R.prog [37]) hk ob 4000 loose (w.withFollow "special-get-raises" false) := by
  intro os
  kernel_rfl
theorem run1 (w : World) : HandSHeadRun.RunEq R (PySem.W.view R.prog [37]) hk ob 4000 loose (w.withFollow "special-get-raises" true) := by
  intro os
  kernel_rfl
theorem run (w : World) : HandSHeadRun.RunEq R (PySem.W.view R.prog [37]) hk ob 4000 loose w :=
  PySem.W.byRow2 "special-get-raises" (P := fun w => HandSHeadRun.RunEq R (PySem.W.view R.prog [37]) hk ob 4000 loose w) run0 run1 w

def f0 : Ev.FDef := ⟨1, 1, [(.ret (.and (.op1 (.isT .int) (.var 0)) (.not (.op1 (.isT .bool) (.var 0)))))]⟩ -- is_integer
def f1 : Ev.FDef := ⟨3, 3, [(.ret (.and (.call 0 [(.var 0)]) (.chain .le .le (.var 1) (.var 0) (.var 2))))]⟩ -- is_within
def f2 : Ev.FDef := ⟨1, 1, [(.ifS (.not (.var 0)) [(.raise 1)] [])]⟩ -- check
def f3 : Ev.FDef := ⟨2, 4, [(.asg (.nm 2) (.ite (.op2 .ne (.op2 .idx (.var 1) (.int 0)) (.str "struck")) (.slice (.var 1) (some (.int 1)) none) (.slice (.var 1) (some (.int 2)) none))), (.ret (.op1 .all (.comp (.call 1 [(.var 3), (.int 0), (.var 0)]) (.nm 3) (.seq (.var 2)) none)))]⟩ -- has_minutes
def f4 : Ev.FDef := ⟨3, 3, [(.ifS (.or (.op2 .eq (.op1 .len (.var 1)) (.int 0)) (.or (.not (.op1 (.isT .str) (.op2 .idx (.var 1) (.int 0)))) (.inG true 0 (.op2 .idx (.var 1) (.int 0))))) [(.ret (.tup [(.str "word"), (.var 2)]))] []), (.ifS (.op2 .ne (.op1 .len (.var 1)) (.ixG 0 (.op2 .idx (.var 1) (.int 0)))) [(.ret (.tup [(.str "form"), (.var 2)]))] []), (.ifS (.not (.call 3 [(.var 0), (.var 1)])) [(.ret (.tup [(.str "minute"), (.var 2)]))] []), (.ifS (.and (.op2 .gt (.op1 .len (.var 1)) (.int 2)) (.op2 .gt (.op2 .idx (.var 1) (.op1 .neg (.int 2))) (.op2 .idx (.var 1) (.op1 .neg (.int 1))))) [(.ret (.tup [(.str "order"), (.var 2)]))] []), (.ifS (.and (.op2 .eq (.op2 .idx (.var 1) (.int 0)) (.str "struck")) (.not (.call 1 [(.op2 .idx (.var 1) (.int 1)), (.int 0), (.glb 2)]))) [(.ret (.tup [(.str "many"), (.var 2), (.op2 .idx (.var 1) (.int 1))]))] []), (.ret .none)]⟩ -- fault_of
def f5 : Ev.FDef := ⟨2, 7, [(.expr (.call 2 [(.call 1 [(.var 0), (.int 0), (.glb 1)])])), (.expr (.call 2 [(.and (.op1 (.isT .list) (.var 1)) (.op1 .all (.comp (.op1 (.isT .tuple) (.var 5)) (.nm 5) (.seq (.var 1)) none)))])), (.asg (.nm 2) (.comp (.call 4 [(.var 0), (.var 5), (.var 4)]) (.tup [(.nm 4), (.nm 5)]) (.enum (.var 1)) none)), (.asg (.nm 3) (.ite (.op2 .gt (.op1 .len (.var 1)) (.glb 0)) (.lst [(.tup [(.str "many"), (.op1 .len (.var 1))])]) (.lst []))), (.retO (.op2 .add (.var 3) (.comp (.var 6) (.nm 6) (.seq (.var 2)) (some (.op2 .isnt (.var 6) .none)))))]⟩ -- word_faults
def f6 : Ev.FDef := ⟨1, 1, [(.expr (.call 2 [(.call 1 [(.var 0), (.int 0), (.glb 3)])]))]⟩ -- check_until
def f7 : Ev.FDef := ⟨2, 4, [(.ifS (.or (.not (.op1 (.isT .tuple) (.var 1))) (.or (.op2 .eq (.op1 .len (.var 1)) (.int 0)) (.or (.not (.op1 (.isT .str) (.op2 .idx (.var 1) (.int 0)))) (.inG true 1 (.op2 .idx (.var 1) (.int 0)))))) [(.ret (.bl false))] []), (.ifS (.op2 .ne (.op1 .len (.var 1)) (.ixG 1 (.op2 .idx (.var 1) (.int 0)))) [(.ret (.bl false))] []), (.asg (.nm 2) (.ite (.op2 .eq (.op2 .idx (.var 1) (.int 0)) (.str "struck")) (.slice (.var 1) (some (.int 2)) none) (.slice (.var 1) (some (.int 1)) none))), (.ifS (.or (.not (.op1 .all (.comp (.call 1 [(.var 3), (.int 0), (.var 0)]) (.nm 3) (.seq (.var 2)) none))) (.op2 .gt (.op2 .idx (.var 2) (.int 0)) (.op2 .idx (.var 2) (.op1 .neg (.int 1))))) [(.ret (.bl false))] []), (.ret (.or (.op2 .ne (.op2 .idx (.var 1) (.int 0)) (.str "struck")) (.call 1 [(.op2 .idx (.var 1) (.int 1)), (.int 0), (.glb 5)])))]⟩ -- is_word
def f8 : Ev.FDef := ⟨2, 3, [(.ret (.and (.op1 (.isT .list) (.var 1)) (.and (.op2 .le (.op1 .len (.var 1)) (.glb 4)) (.op1 .all (.comp (.call 7 [(.var 0), (.var 2)]) (.nm 2) (.seq (.var 1)) none)))))]⟩ -- words_by
def f9 : Ev.FDef := ⟨2, 2, [(.expr (.call 6 [(.var 0)])), (.retO (.call 8 [(.var 0), (.var 1)]))]⟩ -- are_words
def f10 : Ev.FDef := ⟨1, 6, [(.asgO 1 (.lst [])), (.asg (.nm 2) (.int 11)), (.forS (.nm 3) (.scr 0) [(.asg (.nm 5) (.op1 .abs (.op1 .int (.var 3)))), (.asg (.nm 2) (.op2 .mod (.op1 .int (.op2 .add (.op2 .add (.op2 .mul (.var 2) (.int 48271)) (.var 5)) (.int 1))) (.int 2147483647))), (.ifS (.op2 .lt (.var 5) (.op2 .pow (.int 10) (.int 18))) [(.app 1 (.op2 .mod (.op1 .int (.var 5)) (.int 997))), (.app 1 (.op2 .mod (.op1 .int (.var 2)) (.int 65521))), (.asg (.nm 5) (.int 0))] []), (.forS (.nm 4) (.range (.int 60)) [(.ifS (.op2 .gt (.var 5) (.int 0)) [(.app 1 (.op2 .mod (.op1 .int (.var 5)) (.int 997))), (.asg (.nm 5) (.op2 .fdiv (.var 5) (.int 997)))] [])])]), (.forS (.nm 4) (.range (.int 1600)) [(.asg (.nm 2) (.op2 .mod (.op1 .int (.op2 .add (.op2 .mul (.var 2) (.int 48271)) (.int 69621))) (.int 2147483647))), (.app 1 (.op2 .fdiv (.var 2) (.int 5)))]), (.frz [1]), (.retO (.op1 .listRev (.var 1)))]⟩ -- _law_draws
def f11 : Ev.FDef := ⟨2, 2, [(.ifS (.snap (.op2 .eq (.op1 .len (.var 0)) (.int 0))) [(.ret (.int 0))] []), (.ret (.op2 .mod (.op1 .int (.pop 0)) (.var 1)))]⟩ -- _law_take
def f12 : Ev.FDef := ⟨2, 2, [(.ret (.op2 .idx (.var 1) (.call 11 [(.lend 0), (.op1 .len (.var 1))])))]⟩ -- _law_pick
def f13 : Ev.FDef := ⟨2, 4, [(.ifS (.op2 .is (.var 1) .none) [(.ret (.op2 .is (.var 0) .none))] []), (.ifS (.or (.op1 (.isT .tuple) (.var 1)) (.op1 (.isT .list) (.var 1))) [(.ifS (.or (.op2 .ne (.op1 (.isT .tuple) (.var 1)) (.op1 (.isT .tuple) (.var 0))) (.op2 .ne (.op1 (.isT .list) (.var 1)) (.op1 (.isT .list) (.var 0)))) [(.ret (.bl false))] []), (.ifS (.op2 .ne (.op1 .len (.var 0)) (.op1 .len (.var 1))) [(.ret (.bl false))] []), (.forS (.nm 2) (.range (.op1 .len (.var 1))) [(.ifS (.not (.call 13 [(.op2 .idx (.var 0) (.var 2)), (.op2 .idx (.var 1) (.var 2))])) [(.ret (.bl false))] [])]), (.ret (.bl true))] []), (.ifS (.op1 (.isT .dict) (.var 1)) [(.ifS (.or (.not (.op1 (.isT .dict) (.var 0))) (.op2 .ne (.op1 .len (.var 0)) (.op1 .len (.var 1)))) [(.ret (.bl false))] []), (.ret (.op2 .eq (.comp (.var 3) (.nm 3) (.seq (.var 1)) (some (.or (.op2 .nin (.var 3) (.var 0)) (.not (.call 13 [(.op2 .idx (.var 0) (.var 3)), (.op2 .idx (.var 1) (.var 3))]))))) (.lst [])))] []), (.ifS (.op2 .ne (.op1 (.isT .bool) (.var 1)) (.op1 (.isT .bool) (.var 0))) [(.ret (.bl false))] []), (.ifS (.or (.op2 .ne (.op1 (.isT .int) (.var 1)) (.op1 (.isT .int) (.var 0))) (.op2 .ne (.op1 (.isT .str) (.var 1)) (.op1 (.isT .str) (.var 0)))) [(.ret (.bl false))] []), (.ret (.op2 .eq (.var 0) (.var 1)))]⟩ -- _law_same
def f14 : Ev.FDef := ⟨2, 3, [(.tryS [(.retO (.call 5 [(.var 0), (.var 1)]))] [(0, some 2, [(.ret (.flg 0 2))])])]⟩ -- _law_told
def f15 : Ev.FDef := ⟨2, 2, [(.ret (.and (.op1 (.isT .int) (.var 0)) (.and (.not (.op1 (.isT .bool) (.var 0))) (.chain .le .le (.int 0) (.var 0) (.var 1)))))]⟩ -- _law_is_number
def f16 : Ev.FDef := ⟨2, 8, [(.par [3, 4] [false, true] [(.cdct [("heard", 3), ("quiet", 3), ("went", 2), ("stood", 2), ("struck", 4)]), (.op2 .mul (.lst [(.tup [(.str "many"), (.op1 .len (.var 1))])]) (.op1 .int (.op2 .gt (.op1 .len (.var 1)) (.int 40))))]), (.forS (.nm 2) (.range (.op1 .len (.var 1))) [(.par [5, 6] [false, false] [(.op2 .idx (.var 1) (.var 2)), .none]), (.ifS (.or (.op2 .eq (.var 5) (.tup [])) (.or (.not (.op1 (.isT .str) (.op2 .idx (.var 5) (.int 0)))) (.op2 .ninD (.op2 .idx (.var 5) (.int 0)) (.var 3)))) [(.asg (.nm 6) (.tup [(.str "word"), (.var 2)]))] [(.ifS (.op2 .ne (.op1 .len (.var 5)) (.op2 .idxD (.var 3) (.op2 .idx (.var 5) (.int 0)))) [(.asg (.nm 6) (.tup [(.str "form"), (.var 2)]))] [(.ifS (.op2 .ne (.comp (.var 7) (.nm 7) (.seq (.slice (.var 5) (some (.op2 .add (.int 1) (.op1 .int (.op2 .eq (.op2 .idx (.var 5) (.int 0)) (.str "struck"))))) none)) (some (.not (.call 15 [(.var 7), (.var 0)])))) (.lst [])) [(.asg (.nm 6) (.tup [(.str "minute"), (.var 2)]))] [(.ifS (.and (.op2 .nin (.op2 .idx (.var 5) (.int 0)) (.lst [(.str "went"), (.str "stood")])) (.op2 .gt (.op2 .idx (.var 5) (.op2 .sub (.op1 .len (.var 5)) (.int 2))) (.op2 .idx (.var 5) (.op2 .sub (.op1 .len (.var 5)) (.int 1))))) [(.asg (.nm 6) (.tup [(.str "order"), (.var 2)]))] [(.ifS (.and (.op2 .eq (.op2 .idx (.var 5) (.int 0)) (.str "struck")) (.not (.call 15 [(.op2 .idx (.var 5) (.int 1)), (.int 400)]))) [(.asg (.nm 6) (.tup [(.str "many"), (.var 2), (.op2 .idx (.var 5) (.int 1))]))] [])])])])]), (.ifS (.op2 .isnt (.var 6) .none) [(.app 4 (.var 6))] [])]), (.retO (.move 4))]⟩ -- _law_faults
def f17 : Ev.FDef := ⟨3, 9, [(.asgO 3 (.lst [])), (.forS (.nm 4) (.range (.var 2)) [(.par [7, 8] [false, false] [(.call 11 [(.lend 0), (.op2 .add (.var 1) (.int 1))]), (.call 11 [(.lend 0), (.int 14)])]), (.asg (.nm 5) (.op2 .add (.var 7) (.call 11 [(.lend 0), (.op2 .add (.op2 .sub (.var 1) (.var 7)) (.int 1))]))), (.asg (.nm 6) (.call 12 [(.lend 0), (.lst [(.tup [(.str "heard"), (.var 7), (.var 5)]), (.tup [(.str "quiet"), (.var 7), (.var 5)]), (.tup [(.str "went"), (.var 7)]), (.tup [(.str "stood"), (.var 5)]), (.tup [(.str "struck"), (.call 11 [(.lend 0), (.int 401)]), (.var 7), (.var 5)])])])), (.ifS (.op2 .eq (.var 8) (.int 0)) [(.asg (.nm 6) (.call 12 [(.lend 0), (.lst [(.tup []), (.tup [(.op2 .idx (.var 6) (.int 0))]), (.op2 .add (.var 6) (.tup [(.int 1)])), (.op2 .add (.tup [(.str "cried")]) (.slice (.var 6) (some (.int 1)) none)), (.op2 .add (.tup [.none]) (.slice (.var 6) (some (.int 1)) none)), (.slice (.var 6) none (some (.op2 .sub (.op1 .len (.var 6)) (.int 1))))])]))] []), (.ifS (.op2 .eq (.var 8) (.int 1)) [(.asg (.nm 6) (.op2 .add (.slice (.var 6) none (some (.op2 .sub (.op1 .len (.var 6)) (.int 1)))) (.tup [(.call 12 [(.lend 0), (.lst [(.op1 .neg (.int 1)), (.op2 .add (.var 1) (.int 1)), .none, (.bl true), (.str "1")])])])))] []), (.ifS (.and (.op2 .eq (.var 8) (.int 2)) (.op2 .gt (.op1 .len (.var 6)) (.int 2))) [(.asg (.nm 6) (.op2 .add (.slice (.var 6) none (some (.op2 .sub (.op1 .len (.var 6)) (.int 2)))) (.tup [(.var 5), (.var 7)])))] []), (.ifS (.and (.op2 .eq (.var 8) (.int 3)) (.op2 .eq (.op2 .idx (.var 6) (.int 0)) (.str "struck"))) [(.asg (.nm 6) (.op2 .add (.tup [(.op2 .idx (.var 6) (.int 0)), (.call 12 [(.lend 0), (.lst [(.op1 .neg (.int 1)), (.int 401), .none, (.str "many"), (.int 5)])])]) (.slice (.var 6) (some (.int 2)) none)))] []), (.app 3 (.var 6))]), (.retO (.move 3))]⟩ -- _law_draft
def f18 : Ev.FDef := ⟨1, 13, [(.asgO 1 (.call 10 [(.lend 0)])), (.forS (.nm 2) (.range (.int 4)) [(.asg (.nm 4) (.call 12 [(.lend 1), (.lst [(.int 0), (.int 20000), (.call 11 [(.lend 1), (.int 500)])])])), (.forS (.nm 5) (.seq (.lst [(.call 11 [(.lend 1), (.int 6)]), (.call 11 [(.lend 1), (.int 20)])])) [(.asg (.nm 9) (.call 17 [(.lend 1), (.var 4), (.var 5)])), (.par [10, 11] [false, false] [(.op1 .repr (.var 9)), (.call 16 [(.var 4), (.var 9)])]), (.asgO 3 (.call 14 [(.var 4), (.var 9)])), (.ifS (.snap (.or (.not (.call 13 [(.var 3), (.var 11)])) (.or (.not (.call 13 [(.call 9 [(.var 4), (.var 9)]), (.op2 .eq (.var 11) (.lst []))])) (.op2 .ne (.op1 .repr (.var 9)) (.var 10))))) [(.ret (.bl false))] []), (.app 3 (.str "more"))]), (.asg (.nm 6) (.op2 .mul (.lst [(.tup [(.str "went"), (.int 0)])]) (.call 12 [(.lend 1), (.lst [(.int 40), (.int 41)])]))), (.ifS (.not (.call 13 [(.lst [(.call 14 [(.var 4), (.var 6)]), (.call 9 [(.var 4), (.var 6)])]), (.lst [(.op2 .mul (.lst [(.tup [(.str "many"), (.int 41)])]) (.op1 .int (.op2 .gt (.op1 .len (.var 6)) (.int 40)))), (.op2 .lt (.op1 .len (.var 6)) (.int 41))])])) [(.ret (.bl false))] []), (.asg (.nm 7) (.lst [.none, (.tup []), (.tup [(.tup [(.str "went"), (.int 0)])]), (.lst [(.lst [(.str "went"), (.int 0)])]), (.lst [.none]), (.str "text"), (.cdct [])])), (.asg (.nm 8) (.call 12 [(.lend 1), (.lst [(.op1 .neg (.int 1)), (.int 20001), .none, (.bl true), (.str "5")])])), (.asgO 3 (.op2 .add (.lst [(.call 14 [(.var 8), (.lst [])]), (.call 14 [(.var 8), .none])]) (.comp (.call 14 [(.var 4), (.var 12)]) (.nm 12) (.seq (.var 7)) none))), (.ifS (.snap (.not (.call 13 [(.var 3), (.op2 .mul (.lst [(.lst [(.bl true), (.bl false), (.bl false), (.bl false), (.bl false)])]) (.int 9))]))) [(.ret (.bl false))] [])]), (.asgO 3 (.lst [(.call 5 [(.int 300), (.lst [(.tup [(.str "went"), (.int 301)]), (.tup [(.str "heard"), (.int 9), (.int 3)]), (.tup [(.str "cried"), (.int 1)]), (.tup [(.str "struck"), (.int 401), (.int 0), (.int 9)]), (.tup [(.str "stood")])])]), (.call 5 [(.int 300), (.lst [(.tup [(.str "struck"), (.int 401), (.int 9), (.int 3)]), (.tup [(.str "struck"), .none, (.int 0), (.int 301)]), (.tup [(.str "heard"), (.bl true), (.int 3)])])])])), (.frz [3]), (.asgO 3 (.op2 .add (.var 3) (.lst [(.call 5 [(.int 300), (.lst [])])]))), (.frz [3]), (.retO (.call 13 [(.var 3), (.lst [(.lst [(.tup [(.str "minute"), (.int 0)]), (.tup [(.str "order"), (.int 1)]), (.tup [(.str "word"), (.int 2)]), (.tup [(.str "many"), (.int 3), (.int 401)]), (.tup [(.str "form"), (.int 4)])]), (.lst [(.tup [(.str "order"), (.int 0)]), (.tup [(.str "minute"), (.int 1)]), (.tup [(.str "minute"), (.int 2)])]), (.lst [])])]))]⟩ -- law
def fs : List Ev.FDef := ([f0, f1, f2, f3, f4, f5, f6, f7, f8, f9, f10, f11, f12, f13, f14, f15, f16, f17, f18] : List Ev.FDef)
def cs : List PyData := ([.int 40, .int 20000, .int 400, .int 20000, .int 40, .int 400] : List PyData)
def cls : List Str := ["NotRight", "NotThere", "NoAnswer", "TooLarge", "Malformed"]
def isx (c j : Nat) : Bool := decide ((c, j) ∈ ([(1, 0), (2, 1), (3, 2), (4, 3)] : List (Nat × Nat)))
def flj : List (List Nat) := [[0, 1, 2, 3, 4]]
def Tb : Ev.Tab := ⟨fs, cs, fun c k => decide ((c, k) ∈ ([(0, 0), (1, 0), (1, 1), (2, 0), (2, 2), (3, 0), (3, 3), (4, 0), (4, 4)] : List (Nat × Nat))), 5, fun g c => (flj.getD g []).map (isx c), [gt0, gt1]⟩
def fnn : List Str := (["is_integer", "is_within", "check", "has_minutes", "fault_of", "word_faults", "check_until", "is_word", "words_by", "are_words", "_law_draws", "_law_take", "_law_pick", "_law_same", "_law_told", "_law_is_number", "_law_faults", "_law_draft", "law"] : List Str)
def nms : Ev.Names := ⟨fnn.take 18, (["MOST_WORDS_sheets", "MOST_UNTIL_sheets", "MOST_STRUCK", "MOST_UNTIL_stops", "MOST_WORDS_stops", "MOST_TIMES"] : List Str), (["ChimeError", "NotRight", "NotThere", "NoAnswer", "TooLarge"] : List Str), (["abs", "all", "bool", "dict", "enumerate", "int", "isinstance", "len", "list", "range", "repr", "reversed", "str", "super", "tuple"] : List Str), ["_law_flags"], false, ["SIZES", "LONG"]⟩
theorem c0 : Ev.chkB { nms with rp := false } ["value"] (defScope (top 7)) 40 f0.body (defBody (top 7)) = true := by kernel_rfl
theorem c1 : Ev.chkB { nms with rp := false } ["value", "low", "high"] (defScope (top 8)) 40 f1.body (defBody (top 8)) = true := by kernel_rfl
theorem c2 : Ev.chkB { nms with rp := false } ["is_right"] (defScope (top 9)) 40 f2.body (defBody (top 9)) = true := by kernel_rfl
theorem c3 : Ev.chkB { nms with rp := false } ["until", "word", "minutes", "minute"] (defScope (top 15)) 40 f3.body (defBody (top 15)) = true := by kernel_rfl
theorem c4 : Ev.chkB { nms with rp := false } ["until", "word", "at"] (defScope (top 16)) 40 f4.body (defBody (top 16)) = true := by kernel_rfl
theorem c5 : Ev.chkB { nms with rp := false } ["until", "draft", "faults", "many", "at", "word", "fault"] (defScope (top 17)) 40 f5.body (defBody (top 17)) = true := by kernel_rfl
theorem c6 : Ev.chkB { nms with rp := false } ["until"] (defScope (top 23)) 40 f6.body (defBody (top 23)) = true := by kernel_rfl
theorem c7 : Ev.chkB { nms with rp := false } ["until", "value", "minutes", "minute"] (defScope (top 24)) 40 f7.body (defBody (top 24)) = true := by kernel_rfl
theorem c8 : Ev.chkB { nms with rp := false } ["until", "value", "word"] (defScope (top 25)) 40 f8.body (defBody (top 25)) = true := by kernel_rfl
theorem c9 : Ev.chkB { nms with rp := false } ["until", "value"] (defScope (top 26)) 40 f9.body (defBody (top 26)) = true := by kernel_rfl
theorem c10 : Ev.chkB { nms with rp := false } ["script", "draws", "seed", "cell", "k", "number"] (defScope (top 28)) 40 f10.body (defBody (top 28)) = true := by kernel_rfl
theorem c11 : Ev.chkB { nms with rp := false } ["draws", "bound"] (defScope (top 29)) 40 f11.body (defBody (top 29)) = true := by kernel_rfl
theorem c12 : Ev.chkB { nms with rp := false } ["draws", "some"] (defScope (top 30)) 40 f12.body (defBody (top 30)) = true := by kernel_rfl
theorem c13 : Ev.chkB { nms with rp := false } ["actual", "due", "k", "key"] (defScope (top 31)) 40 f13.body (defBody (top 31)) = true := by kernel_rfl
theorem c14 : Ev.chkB { nms with rp := false } ["until", "value", "e"] (defScope (top 33)) 40 f14.body (defBody (top 33)) = true := by kernel_rfl
theorem c15 : Ev.chkB { nms with rp := false } ["value", "most"] (defScope (top 34)) 40 f15.body (defBody (top 34)) = true := by kernel_rfl
theorem c16 : Ev.chkB { nms with rp := false } ["until", "draft", "k", "sizes", "found", "word", "fault", "one"] (defScope (top 35)) 40 f16.body (defBody (top 35)) = true := by kernel_rfl
theorem c17 : Ev.chkB { nms with rp := false } ["draws", "until", "much", "found", "k", "other", "word", "one", "odd"] (defScope (top 36)) 40 f17.body (defBody (top 36)) = true := by kernel_rfl
theorem c18 : Ev.chkB { nms with rp := true } ["script", "draws", "turn", "got", "until", "much", "many", "values", "bad", "draft", "kept", "due", "value"] (defScope (top 37)) 40 f18.body (defBody (top 37)) = true := by kernel_rfl
section
variable {P : Program} {w : World} {K : PySem.W.Frag} {h : Heap} {mg : Str → Option Value}
def fA (K : PySem.W.Frag) (i : Nat) : Addr := He.ga K (fnn.getD i "")
def cA (K : PySem.W.Frag) (i : Nat) : Addr := He.ga K (nms.ex.getD i "")
theorem o0 (X : K.In h) (G : h.Ns mainGlobals mg) (c : He.SaysD fa fn K) : Ev.DefOk P w K mg nms Tb (fA K 0) 0 "is_integer" := by
  obtain ⟨fd, F⟩ := c.def_ 0 (d := d0) rfl
  exact ⟨⟨fd, ["value"], ["value"], _, _, _, _, _, _, _, f0, He.glo_ok X G (c.fact 0 (f := .glo "is_integer") rfl), F.kp, F.bindsN (fun _ _ _ _ _ _ us hl => match us, hl with | [_], _ => rfl), F, C8.fnScope_by (by kernel_rfl), rfl, rfl, rfl, c0⟩⟩
theorem o1 (X : K.In h) (G : h.Ns mainGlobals mg) (c : He.SaysD fa fn K) : Ev.DefOk P w K mg nms Tb (fA K 1) 1 "is_within" := by
  obtain ⟨fd, F⟩ := c.def_ 1 (d := d1) rfl
  exact ⟨⟨fd, ["value", "low", "high"], ["value", "low", "high"], _, _, _, _, _, _, _, f1, He.glo_ok X G (c.fact 1 (f := .glo "is_within") rfl), F.kp, F.bindsN (fun _ _ _ _ _ _ us hl => match us, hl with | [_, _, _], _ => rfl), F, C8.fnScope_by (by kernel_rfl), rfl, rfl, rfl, c1⟩⟩
theorem o2 (X : K.In h) (G : h.Ns mainGlobals mg) (c : He.SaysD fa fn K) : Ev.DefOk P w K mg nms Tb (fA K 2) 2 "check" := by
  obtain ⟨fd, F⟩ := c.def_ 2 (d := d2) rfl
  exact ⟨⟨fd, ["is_right"], ["is_right"], _, _, _, _, _, _, _, f2, He.glo_ok X G (c.fact 2 (f := .glo "check") rfl), F.kp, F.bindsN (fun _ _ _ _ _ _ us hl => match us, hl with | [_], _ => rfl), F, C8.fnScope_by (by kernel_rfl), rfl, rfl, rfl, c2⟩⟩
theorem o3 (X : K.In h) (G : h.Ns mainGlobals mg) (c : He.SaysD fa fn K) : Ev.DefOk P w K mg nms Tb (fA K 3) 3 "has_minutes" := by
  obtain ⟨fd, F⟩ := c.def_ 3 (d := d3) rfl
  exact ⟨⟨fd, ["until", "word"], ["until", "word", "minutes", "minute"], _, _, _, _, _, _, _, f3, He.glo_ok X G (c.fact 3 (f := .glo "has_minutes") rfl), F.kp, F.bindsN (fun _ _ _ _ _ _ us hl => match us, hl with | [_, _], _ => rfl), F, C8.fnScope_by (by kernel_rfl), rfl, rfl, rfl, c3⟩⟩
theorem o4 (X : K.In h) (G : h.Ns mainGlobals mg) (c : He.SaysD fa fn K) : Ev.DefOk P w K mg nms Tb (fA K 4) 4 "fault_of" := by
  obtain ⟨fd, F⟩ := c.def_ 4 (d := d4) rfl
  exact ⟨⟨fd, ["until", "word", "at"], ["until", "word", "at"], _, _, _, _, _, _, _, f4, He.glo_ok X G (c.fact 4 (f := .glo "fault_of") rfl), F.kp, F.bindsN (fun _ _ _ _ _ _ us hl => match us, hl with | [_, _, _], _ => rfl), F, C8.fnScope_by (by kernel_rfl), rfl, rfl, rfl, c4⟩⟩
theorem o5 (X : K.In h) (G : h.Ns mainGlobals mg) (c : He.SaysD fa fn K) : Ev.DefOk P w K mg nms Tb (fA K 5) 5 "word_faults" := by
  obtain ⟨fd, F⟩ := c.def_ 5 (d := d5) rfl
  exact ⟨⟨fd, ["until", "draft"], ["until", "draft", "faults", "many", "at", "word", "fault"], _, _, _, _, _, _, _, f5, He.glo_ok X G (c.fact 5 (f := .glo "word_faults") rfl), F.kp, F.bindsN (fun _ _ _ _ _ _ us hl => match us, hl with | [_, _], _ => rfl), F, C8.fnScope_by (by kernel_rfl), rfl, rfl, rfl, c5⟩⟩
theorem o6 (X : K.In h) (G : h.Ns mainGlobals mg) (c : He.SaysD fa fn K) : Ev.DefOk P w K mg nms Tb (fA K 6) 6 "check_until" := by
  obtain ⟨fd, F⟩ := c.def_ 6 (d := d6) rfl
  exact ⟨⟨fd, ["until"], ["until"], _, _, _, _, _, _, _, f6, He.glo_ok X G (c.fact 6 (f := .glo "check_until") rfl), F.kp, F.bindsN (fun _ _ _ _ _ _ us hl => match us, hl with | [_], _ => rfl), F, C8.fnScope_by (by kernel_rfl), rfl, rfl, rfl, c6⟩⟩
theorem o7 (X : K.In h) (G : h.Ns mainGlobals mg) (c : He.SaysD fa fn K) : Ev.DefOk P w K mg nms Tb (fA K 7) 7 "is_word" := by
  obtain ⟨fd, F⟩ := c.def_ 7 (d := d7) rfl
  exact ⟨⟨fd, ["until", "value"], ["until", "value", "minutes", "minute"], _, _, _, _, _, _, _, f7, He.glo_ok X G (c.fact 7 (f := .glo "is_word") rfl), F.kp, F.bindsN (fun _ _ _ _ _ _ us hl => match us, hl with | [_, _], _ => rfl), F, C8.fnScope_by (by kernel_rfl), rfl, rfl, rfl, c7⟩⟩
theorem o8 (X : K.In h) (G : h.Ns mainGlobals mg) (c : He.SaysD fa fn K) : Ev.DefOk P w K mg nms Tb (fA K 8) 8 "words_by" := by
  obtain ⟨fd, F⟩ := c.def_ 8 (d := d8) rfl
  exact ⟨⟨fd, ["until", "value"], ["until", "value", "word"], _, _, _, _, _, _, _, f8, He.glo_ok X G (c.fact 8 (f := .glo "words_by") rfl), F.kp, F.bindsN (fun _ _ _ _ _ _ us hl => match us, hl with | [_, _], _ => rfl), F, C8.fnScope_by (by kernel_rfl), rfl, rfl, rfl, c8⟩⟩
theorem o9 (X : K.In h) (G : h.Ns mainGlobals mg) (c : He.SaysD fa fn K) : Ev.DefOk P w K mg nms Tb (fA K 9) 9 "are_words" := by
  obtain ⟨fd, F⟩ := c.def_ 9 (d := d9) rfl
  exact ⟨⟨fd, ["until", "value"], ["until", "value"], _, _, _, _, _, _, _, f9, He.glo_ok X G (c.fact 9 (f := .glo "are_words") rfl), F.kp, F.bindsN (fun _ _ _ _ _ _ us hl => match us, hl with | [_, _], _ => rfl), F, C8.fnScope_by (by kernel_rfl), rfl, rfl, rfl, c9⟩⟩
theorem o10 (X : K.In h) (G : h.Ns mainGlobals mg) (c : He.SaysD fa fn K) : Ev.DefOk P w K mg nms Tb (fA K 10) 10 "_law_draws" := by
  obtain ⟨fd, F⟩ := c.def_ 10 (d := d10) rfl
  exact ⟨⟨fd, ["script"], ["script", "draws", "seed", "cell", "k", "number"], _, _, _, _, _, _, _, f10, He.glo_ok X G (c.fact 10 (f := .glo "_law_draws") rfl), F.kp, F.bindsN (fun _ _ _ _ _ _ us hl => match us, hl with | [_], _ => rfl), F, C8.fnScope_by (by kernel_rfl), rfl, rfl, rfl, c10⟩⟩
theorem o11 (X : K.In h) (G : h.Ns mainGlobals mg) (c : He.SaysD fa fn K) : Ev.DefOk P w K mg nms Tb (fA K 11) 11 "_law_take" := by
  obtain ⟨fd, F⟩ := c.def_ 11 (d := d11) rfl
  exact ⟨⟨fd, ["draws", "bound"], ["draws", "bound"], _, _, _, _, _, _, _, f11, He.glo_ok X G (c.fact 11 (f := .glo "_law_take") rfl), F.kp, F.bindsN (fun _ _ _ _ _ _ us hl => match us, hl with | [_, _], _ => rfl), F, C8.fnScope_by (by kernel_rfl), rfl, rfl, rfl, c11⟩⟩
theorem o12 (X : K.In h) (G : h.Ns mainGlobals mg) (c : He.SaysD fa fn K) : Ev.DefOk P w K mg nms Tb (fA K 12) 12 "_law_pick" := by
  obtain ⟨fd, F⟩ := c.def_ 12 (d := d12) rfl
  exact ⟨⟨fd, ["draws", "some"], ["draws", "some"], _, _, _, _, _, _, _, f12, He.glo_ok X G (c.fact 12 (f := .glo "_law_pick") rfl), F.kp, F.bindsN (fun _ _ _ _ _ _ us hl => match us, hl with | [_, _], _ => rfl), F, C8.fnScope_by (by kernel_rfl), rfl, rfl, rfl, c12⟩⟩
theorem o13 (X : K.In h) (G : h.Ns mainGlobals mg) (c : He.SaysD fa fn K) : Ev.DefOk P w K mg nms Tb (fA K 13) 13 "_law_same" := by
  obtain ⟨fd, F⟩ := c.def_ 13 (d := d13) rfl
  exact ⟨⟨fd, ["actual", "due"], ["actual", "due", "k", "key"], _, _, _, _, _, _, _, f13, He.glo_ok X G (c.fact 13 (f := .glo "_law_same") rfl), F.kp, F.bindsN (fun _ _ _ _ _ _ us hl => match us, hl with | [_, _], _ => rfl), F, C8.fnScope_by (by kernel_rfl), rfl, rfl, rfl, c13⟩⟩
theorem o14 (X : K.In h) (G : h.Ns mainGlobals mg) (c : He.SaysD fa fn K) : Ev.DefOk P w K mg nms Tb (fA K 14) 14 "_law_told" := by
  obtain ⟨fd, F⟩ := c.def_ 15 (d := d15) rfl
  exact ⟨⟨fd, ["until", "value"], ["until", "value", "e"], _, _, _, _, _, _, _, f14, He.glo_ok X G (c.fact 15 (f := .glo "_law_told") rfl), F.kp, F.bindsN (fun _ _ _ _ _ _ us hl => match us, hl with | [_, _], _ => rfl), F, C8.fnScope_by (by kernel_rfl), rfl, rfl, rfl, c14⟩⟩
theorem o15 (X : K.In h) (G : h.Ns mainGlobals mg) (c : He.SaysD fa fn K) : Ev.DefOk P w K mg nms Tb (fA K 15) 15 "_law_is_number" := by
  obtain ⟨fd, F⟩ := c.def_ 16 (d := d16) rfl
  exact ⟨⟨fd, ["value", "most"], ["value", "most"], _, _, _, _, _, _, _, f15, He.glo_ok X G (c.fact 16 (f := .glo "_law_is_number") rfl), F.kp, F.bindsN (fun _ _ _ _ _ _ us hl => match us, hl with | [_, _], _ => rfl), F, C8.fnScope_by (by kernel_rfl), rfl, rfl, rfl, c15⟩⟩
theorem o16 (X : K.In h) (G : h.Ns mainGlobals mg) (c : He.SaysD fa fn K) : Ev.DefOk P w K mg nms Tb (fA K 16) 16 "_law_faults" := by
  obtain ⟨fd, F⟩ := c.def_ 17 (d := d17) rfl
  exact ⟨⟨fd, ["until", "draft"], ["until", "draft", "k", "sizes", "found", "word", "fault", "one"], _, _, _, _, _, _, _, f16, He.glo_ok X G (c.fact 17 (f := .glo "_law_faults") rfl), F.kp, F.bindsN (fun _ _ _ _ _ _ us hl => match us, hl with | [_, _], _ => rfl), F, C8.fnScope_by (by kernel_rfl), rfl, rfl, rfl, c16⟩⟩
theorem o17 (X : K.In h) (G : h.Ns mainGlobals mg) (c : He.SaysD fa fn K) : Ev.DefOk P w K mg nms Tb (fA K 17) 17 "_law_draft" := by
  obtain ⟨fd, F⟩ := c.def_ 18 (d := d18) rfl
  exact ⟨⟨fd, ["draws", "until", "much"], ["draws", "until", "much", "found", "k", "other", "word", "one", "odd"], _, _, _, _, _, _, _, f17, He.glo_ok X G (c.fact 18 (f := .glo "_law_draft") rfl), F.kp, F.bindsN (fun _ _ _ _ _ _ us hl => match us, hl with | [_, _, _], _ => rfl), F, C8.fnScope_by (by kernel_rfl), rfl, rfl, rfl, c17⟩⟩
theorem clsok (X : K.In h) (G : h.Ns mainGlobals mg) (c : He.SaysD fa fn K) (ce : ∀ x ∈ exn, Ev.excB K (He.ga K x) = true) : Ev.ClsOk K mg (cA K) Tb.nx cls isx where
  exc := fun i hi => Ev.all_n (n := 5) (p := fun i => L2.ExcC K (cA K i)) (⟨Ev.excB_ok (ce "TooLarge" (by decide)), ⟨Ev.excB_ok (ce "NoAnswer" (by decide)), ⟨Ev.excB_ok (ce "NotThere" (by decide)), ⟨Ev.excB_ok (ce "NotRight" (by decide)), ⟨Ev.excB_ok (ce "ChimeError" (by decide)), trivial⟩⟩⟩⟩⟩) i hi
  nam := fun j x hx => by
    have := Ev.all_ix (l := cls) (k := 0) (p := fun j x => ∃ a, mg x = some (.ref a) ∧ ∀ i, i < 5 → PySem.W.kitOne K (.ref (cA K i)) (.ref a) = some (isx i j)) (⟨⟨_, He.glo_ok X G (c.fact 43 (f := .glo "NotRight") rfl), fun i hi => Ev.all_n (n := 5) (p := fun i => PySem.W.kitOne K (.ref (cA K i)) (.ref (He.ga K "NotRight")) = some (isx i 0)) (⟨Ev.kit_of (He.exm_ok (c.fact 88 (f := .exm "TooLarge" "TooLarge" true) rfl)) (He.exm_ok (c.fact 85 (f := .exm "TooLarge" "NotRight" false) rfl)), ⟨Ev.kit_of (He.exm_ok (c.fact 81 (f := .exm "NoAnswer" "NoAnswer" true) rfl)) (He.exm_ok (c.fact 79 (f := .exm "NoAnswer" "NotRight" false) rfl)), ⟨Ev.kit_of (He.exm_ok (c.fact 74 (f := .exm "NotThere" "NotThere" true) rfl)) (He.exm_ok (c.fact 73 (f := .exm "NotThere" "NotRight" false) rfl)), ⟨Ev.kit_of (He.exm_ok (c.fact 67 (f := .exm "NotRight" "NotRight" true) rfl)) (He.exm_ok (c.fact 67 (f := .exm "NotRight" "NotRight" true) rfl)), ⟨Ev.kit_of (He.exm_ok (c.fact 60 (f := .exm "ChimeError" "ChimeError" true) rfl)) (He.exm_ok (c.fact 61 (f := .exm "ChimeError" "NotRight" false) rfl)), trivial⟩⟩⟩⟩⟩) i hi⟩, ⟨⟨_, He.glo_ok X G (c.fact 45 (f := .glo "NotThere") rfl), fun i hi => Ev.all_n (n := 5) (p := fun i => PySem.W.kitOne K (.ref (cA K i)) (.ref (He.ga K "NotThere")) = some (isx i 1)) (⟨Ev.kit_of (He.exm_ok (c.fact 88 (f := .exm "TooLarge" "TooLarge" true) rfl)) (He.exm_ok (c.fact 86 (f := .exm "TooLarge" "NotThere" false) rfl)), ⟨Ev.kit_of (He.exm_ok (c.fact 81 (f := .exm "NoAnswer" "NoAnswer" true) rfl)) (He.exm_ok (c.fact 80 (f := .exm "NoAnswer" "NotThere" false) rfl)), ⟨Ev.kit_of (He.exm_ok (c.fact 74 (f := .exm "NotThere" "NotThere" true) rfl)) (He.exm_ok (c.fact 74 (f := .exm "NotThere" "NotThere" true) rfl)), ⟨Ev.kit_of (He.exm_ok (c.fact 67 (f := .exm "NotRight" "NotRight" true) rfl)) (He.exm_ok (c.fact 68 (f := .exm "NotRight" "NotThere" false) rfl)), ⟨Ev.kit_of (He.exm_ok (c.fact 60 (f := .exm "ChimeError" "ChimeError" true) rfl)) (He.exm_ok (c.fact 62 (f := .exm "ChimeError" "NotThere" false) rfl)), trivial⟩⟩⟩⟩⟩) i hi⟩, ⟨⟨_, He.glo_ok X G (c.fact 47 (f := .glo "NoAnswer") rfl), fun i hi => Ev.all_n (n := 5) (p := fun i => PySem.W.kitOne K (.ref (cA K i)) (.ref (He.ga K "NoAnswer")) = some (isx i 2)) (⟨Ev.kit_of (He.exm_ok (c.fact 88 (f := .exm "TooLarge" "TooLarge" true) rfl)) (He.exm_ok (c.fact 87 (f := .exm "TooLarge" "NoAnswer" false) rfl)), ⟨Ev.kit_of (He.exm_ok (c.fact 81 (f := .exm "NoAnswer" "NoAnswer" true) rfl)) (He.exm_ok (c.fact 81 (f := .exm "NoAnswer" "NoAnswer" true) rfl)), ⟨Ev.kit_of (He.exm_ok (c.fact 74 (f := .exm "NotThere" "NotThere" true) rfl)) (He.exm_ok (c.fact 75 (f := .exm "NotThere" "NoAnswer" false) rfl)), ⟨Ev.kit_of (He.exm_ok (c.fact 67 (f := .exm "NotRight" "NotRight" true) rfl)) (He.exm_ok (c.fact 69 (f := .exm "NotRight" "NoAnswer" false) rfl)), ⟨Ev.kit_of (He.exm_ok (c.fact 60 (f := .exm "ChimeError" "ChimeError" true) rfl)) (He.exm_ok (c.fact 63 (f := .exm "ChimeError" "NoAnswer" false) rfl)), trivial⟩⟩⟩⟩⟩) i hi⟩, ⟨⟨_, He.glo_ok X G (c.fact 49 (f := .glo "TooLarge") rfl), fun i hi => Ev.all_n (n := 5) (p := fun i => PySem.W.kitOne K (.ref (cA K i)) (.ref (He.ga K "TooLarge")) = some (isx i 3)) (⟨Ev.kit_of (He.exm_ok (c.fact 88 (f := .exm "TooLarge" "TooLarge" true) rfl)) (He.exm_ok (c.fact 88 (f := .exm "TooLarge" "TooLarge" true) rfl)), ⟨Ev.kit_of (He.exm_ok (c.fact 81 (f := .exm "NoAnswer" "NoAnswer" true) rfl)) (He.exm_ok (c.fact 82 (f := .exm "NoAnswer" "TooLarge" false) rfl)), ⟨Ev.kit_of (He.exm_ok (c.fact 74 (f := .exm "NotThere" "NotThere" true) rfl)) (He.exm_ok (c.fact 76 (f := .exm "NotThere" "TooLarge" false) rfl)), ⟨Ev.kit_of (He.exm_ok (c.fact 67 (f := .exm "NotRight" "NotRight" true) rfl)) (He.exm_ok (c.fact 70 (f := .exm "NotRight" "TooLarge" false) rfl)), ⟨Ev.kit_of (He.exm_ok (c.fact 60 (f := .exm "ChimeError" "ChimeError" true) rfl)) (He.exm_ok (c.fact 64 (f := .exm "ChimeError" "TooLarge" false) rfl)), trivial⟩⟩⟩⟩⟩) i hi⟩, ⟨⟨_, He.glo_ok X G (c.fact 51 (f := .glo "Malformed") rfl), fun i hi => Ev.all_n (n := 5) (p := fun i => PySem.W.kitOne K (.ref (cA K i)) (.ref (He.ga K "Malformed")) = some (isx i 4)) (⟨Ev.kit_of (He.exm_ok (c.fact 88 (f := .exm "TooLarge" "TooLarge" true) rfl)) (He.exm_ok (c.fact 89 (f := .exm "TooLarge" "Malformed" false) rfl)), ⟨Ev.kit_of (He.exm_ok (c.fact 81 (f := .exm "NoAnswer" "NoAnswer" true) rfl)) (He.exm_ok (c.fact 83 (f := .exm "NoAnswer" "Malformed" false) rfl)), ⟨Ev.kit_of (He.exm_ok (c.fact 74 (f := .exm "NotThere" "NotThere" true) rfl)) (He.exm_ok (c.fact 77 (f := .exm "NotThere" "Malformed" false) rfl)), ⟨Ev.kit_of (He.exm_ok (c.fact 67 (f := .exm "NotRight" "NotRight" true) rfl)) (He.exm_ok (c.fact 71 (f := .exm "NotRight" "Malformed" false) rfl)), ⟨Ev.kit_of (He.exm_ok (c.fact 60 (f := .exm "ChimeError" "ChimeError" true) rfl)) (He.exm_ok (c.fact 65 (f := .exm "ChimeError" "Malformed" false) rfl)), trivial⟩⟩⟩⟩⟩) i hi⟩, trivial⟩⟩⟩⟩⟩) j x hx
    rwa [Nat.zero_add] at this
theorem fl0 (X : K.In h) (G : h.Ns mainGlobals mg) (c : He.SaysD fa fn K) (ce : ∀ x ∈ exn, Ev.excB K (He.ga K x) = true) : Ev.FlgOk K mg (cA K) nms Tb 0 "_law_flags" := by
  obtain ⟨fd, F⟩ := c.def_ 14 (d := d14) rfl
  exact ⟨_, fd, "e", ["e"], _, _, _, _, _, _, _, [0, 1, 2, 3, 4], cls, isx, He.glo_ok X G (c.fact 14 (f := .glo "_law_flags") rfl), F.kp, F.bindsN (fun _ _ _ _ _ _ us hl => match us, hl with | [_], _ => rfl), F, C8.fnScope_by (by kernel_rfl), clsok X G c ce, by decide, by kernel_rfl, fun _ => rfl⟩
theorem text (X : K.In h) (G : h.Ns mainGlobals mg) (c : He.SaysD fa fn K) (ce : ∀ x ∈ exn, Ev.excB K (He.ga K x) = true) (se : Ev.SaysE fa fn exn gts w K) : Ev.TextOk P w K mg nms Tb (cA K) (fA K) where
  blt := Ev.all_mem (⟨He.free_ok X G (c.fact 20 (f := .free "abs") rfl), ⟨He.free_ok X G (c.fact 21 (f := .free "all") rfl), ⟨He.free_ok X G (c.fact 22 (f := .free "bool") rfl), ⟨He.free_ok X G (c.fact 23 (f := .free "dict") rfl), ⟨He.free_ok X G (c.fact 24 (f := .free "enumerate") rfl), ⟨He.free_ok X G (c.fact 25 (f := .free "int") rfl), ⟨He.free_ok X G (c.fact 26 (f := .free "isinstance") rfl), ⟨He.free_ok X G (c.fact 27 (f := .free "len") rfl), ⟨He.free_ok X G (c.fact 28 (f := .free "list") rfl), ⟨He.free_ok X G (c.fact 29 (f := .free "range") rfl), ⟨He.free_ok X G (c.fact 30 (f := .free "repr") rfl), ⟨He.free_ok X G (c.fact 31 (f := .free "reversed") rfl), ⟨He.free_ok X G (c.fact 32 (f := .free "str") rfl), ⟨He.free_ok X G (c.fact 33 (f := .free "super") rfl), ⟨He.free_ok X G (c.fact 34 (f := .free "tuple") rfl), trivial⟩⟩⟩⟩⟩⟩⟩⟩⟩⟩⟩⟩⟩⟩⟩)
  cst := Ev.all_cst (⟨Ev.cst_int (He.int_ok X G (c.fact 35 (f := .int "MOST_WORDS_sheets" 40) rfl)) rfl, ⟨Ev.cst_int (He.int_ok X G (c.fact 36 (f := .int "MOST_UNTIL_sheets" 20000) rfl)) rfl, ⟨Ev.cst_int (He.int_ok X G (c.fact 37 (f := .int "MOST_STRUCK" 400) rfl)) rfl, ⟨Ev.cst_int (He.int_ok X G (c.fact 38 (f := .int "MOST_UNTIL_stops" 20000) rfl)) rfl, ⟨Ev.cst_int (He.int_ok X G (c.fact 39 (f := .int "MOST_WORDS_stops" 40) rfl)) rfl, ⟨Ev.cst_int (He.int_ok X G (c.fact 40 (f := .int "MOST_TIMES" 400) rfl)) rfl, trivial⟩⟩⟩⟩⟩⟩)
  defs := Ev.all_def (⟨o0 X G c, ⟨o1 X G c, ⟨o2 X G c, ⟨o3 X G c, ⟨o4 X G c, ⟨o5 X G c, ⟨o6 X G c, ⟨o7 X G c, ⟨o8 X G c, ⟨o9 X G c, ⟨o10 X G c, ⟨o11 X G c, ⟨o12 X G c, ⟨o13 X G c, ⟨o14 X G c, ⟨o15 X G c, ⟨o16 X G c, ⟨o17 X G c, trivial⟩⟩⟩⟩⟩⟩⟩⟩⟩⟩⟩⟩⟩⟩⟩⟩⟩⟩)
  exn := Ev.all_exn (⟨⟨He.glo_ok X G (c.fact 41 (f := .glo "ChimeError") rfl), He.exc_ok (c.fact 55 (f := .exc "ChimeError") rfl)⟩, ⟨⟨He.glo_ok X G (c.fact 43 (f := .glo "NotRight") rfl), He.exc_ok (c.fact 56 (f := .exc "NotRight") rfl)⟩, ⟨⟨He.glo_ok X G (c.fact 45 (f := .glo "NotThere") rfl), He.exc_ok (c.fact 57 (f := .exc "NotThere") rfl)⟩, ⟨⟨He.glo_ok X G (c.fact 47 (f := .glo "NoAnswer") rfl), He.exc_ok (c.fact 58 (f := .exc "NoAnswer") rfl)⟩, ⟨⟨He.glo_ok X G (c.fact 49 (f := .glo "TooLarge") rfl), He.exc_ok (c.fact 59 (f := .exc "TooLarge") rfl)⟩, trivial⟩⟩⟩⟩⟩)
  exm := fun i k hi hk => Ev.all_n (Ev.all_n (n := 5) (p := fun i => Ev.AllN 5 fun k => PySem.W.exmOne K (.ref (cA K i)) (.ref (cA K k)) = some (Tb.sub i k)) (⟨⟨He.exm_ok (c.fact 88 (f := .exm "TooLarge" "TooLarge" true) rfl), ⟨He.exm_ok (c.fact 87 (f := .exm "TooLarge" "NoAnswer" false) rfl), ⟨He.exm_ok (c.fact 86 (f := .exm "TooLarge" "NotThere" false) rfl), ⟨He.exm_ok (c.fact 85 (f := .exm "TooLarge" "NotRight" false) rfl), ⟨He.exm_ok (c.fact 84 (f := .exm "TooLarge" "ChimeError" true) rfl), trivial⟩⟩⟩⟩⟩, ⟨⟨He.exm_ok (c.fact 82 (f := .exm "NoAnswer" "TooLarge" false) rfl), ⟨He.exm_ok (c.fact 81 (f := .exm "NoAnswer" "NoAnswer" true) rfl), ⟨He.exm_ok (c.fact 80 (f := .exm "NoAnswer" "NotThere" false) rfl), ⟨He.exm_ok (c.fact 79 (f := .exm "NoAnswer" "NotRight" false) rfl), ⟨He.exm_ok (c.fact 78 (f := .exm "NoAnswer" "ChimeError" true) rfl), trivial⟩⟩⟩⟩⟩, ⟨⟨He.exm_ok (c.fact 76 (f := .exm "NotThere" "TooLarge" false) rfl), ⟨He.exm_ok (c.fact 75 (f := .exm "NotThere" "NoAnswer" false) rfl), ⟨He.exm_ok (c.fact 74 (f := .exm "NotThere" "NotThere" true) rfl), ⟨He.exm_ok (c.fact 73 (f := .exm "NotThere" "NotRight" false) rfl), ⟨He.exm_ok (c.fact 72 (f := .exm "NotThere" "ChimeError" true) rfl), trivial⟩⟩⟩⟩⟩, ⟨⟨He.exm_ok (c.fact 70 (f := .exm "NotRight" "TooLarge" false) rfl), ⟨He.exm_ok (c.fact 69 (f := .exm "NotRight" "NoAnswer" false) rfl), ⟨He.exm_ok (c.fact 68 (f := .exm "NotRight" "NotThere" false) rfl), ⟨He.exm_ok (c.fact 67 (f := .exm "NotRight" "NotRight" true) rfl), ⟨He.exm_ok (c.fact 66 (f := .exm "NotRight" "ChimeError" true) rfl), trivial⟩⟩⟩⟩⟩, ⟨⟨He.exm_ok (c.fact 64 (f := .exm "ChimeError" "TooLarge" false) rfl), ⟨He.exm_ok (c.fact 63 (f := .exm "ChimeError" "NoAnswer" false) rfl), ⟨He.exm_ok (c.fact 62 (f := .exm "ChimeError" "NotThere" false) rfl), ⟨He.exm_ok (c.fact 61 (f := .exm "ChimeError" "NotRight" false) rfl), ⟨He.exm_ok (c.fact 60 (f := .exm "ChimeError" "ChimeError" true) rfl), trivial⟩⟩⟩⟩⟩, trivial⟩⟩⟩⟩⟩) i hi) k hk
  flg := fun g x hg => by
    have := Ev.all_ix (l := nms.fl) (k := 0) (p := fun g x => Ev.FlgOk K mg (cA K) nms Tb g x) (⟨fl0 X G c ce, trivial⟩) g x hg
    rwa [Nat.zero_add] at this
  gdt := fun g x hg => by
    have := Ev.all_ix (l := nms.gd) (k := 0) (p := fun g x => ∃ a es k t, mg x = some (.ref a) ∧ KDict K w a es k ∧ Tb.gd[g]? = some t ∧ ∀ z, ∃ r, PySem.W.nsIn K a z = some r ∧ r.isSome = (t.lookup z).isSome ∧ ∀ i, t.lookup z = some i → ∃ tok, r = some (.int i tok)) (⟨(by obtain ⟨es, n, D, hz⟩ := se.tab 0 ("SIZES", gt0) rfl; exact ⟨_, es, n, gt0, He.glo_ok X G (c.fact 53 (f := .glo "SIZES") rfl), D, rfl, hz⟩), ⟨(by obtain ⟨es, n, D, hz⟩ := se.tab 1 ("LONG", gt1) rfl; exact ⟨_, es, n, gt1, He.glo_ok X G (c.fact 54 (f := .glo "LONG") rfl), D, rfl, hz⟩), trivial⟩⟩) g x hg
    rwa [Nat.zero_add] at this
end
theorem facts (n : Nat) {P : Program} {w : World} {K : PySem.W.Frag} {h : Heap} {mg : Str → Option Value} {f : Addr} (X : K.In h) (G : h.Ns mainGlobals mg) (hfa : mg ("law" : Str) = some (.ref f)) (ce : Ev.SaysE fa fn exn gts w K) :
    ∀ (t : Shared) (a : Addr) (b0 : Heap) (H : Hp) (Q : VK) (E : XK), n ≤ 220 → Env0 P w K mg b0 callerA [] t H → Ev.spF K (cA K) Tb n 18 [.ref a] H Q E → codeAny (model P w) callerA (.call (.ref f) ⟨[.ref a], []⟩) (CR (L2N.CX P w) [] P w H t Q E) t := by
  intro t a b0 H Q E hn e0 hs
  have c := ce.1
  obtain ⟨fd, F⟩ := c.def_ 19 (d := d19) rfl
  have e := hfa.symm.trans (He.glo_ok X G (c.fact 19 (f := .glo "law") rfl))
  cases e
  have b := FunD.bindsA (ps := ["script"]) F fun _ _ _ _ _ _ us hl => match us, hl with | [_], _ => rfl
  exact Ev.run_rp (text X G c ce.2.1 ce) n 18 F (C8.fnScope_by (N := ["script", "draws", "turn", "got", "until", "much", "many", "values", "bad", "draft", "kept", "due", "value"]) (by kernel_rfl)) (d := f18) rfl rfl rfl c18 rfl (Ev.room_at hn) (us := [.ref a]) (vs := [.ref a]) e0 (b t [.ref a] rfl) (.cons rfl .nil) hs
end Hd
open PySem PySem.W PySem.Calls PyProof.Rows
/-- what is left: the evaluator, at every script -/
theorem Hd.join (n : Nat) (hn : n ≤ 220) (law : ∀ ns : List Int, ns.length ≤ 63 → (∀ z ∈ ns, Builtin.Int.intBits z ≤ 1048576) → ∃ env, Ev.callF Hd.Tb (Ev.exN Hd.Tb n) 18 [.scr ns] = .ok (.val (.bool true), env)) : PySem.Challenge.rw_chimeward_k09_whole_faults_of_words.Holds := by
  w_on; o_law
  refine HandSHeadRun.head_any (r := OpenLaw.row PySem.Challenge.rw_chimeward_k09_whole_faults_of_words) (q := view (OpenLaw.row PySem.Challenge.rw_chimeward_k09_whole_faults_of_words).prog [37]) (H := Hd.hk) (ob := Hd.ob) (M := 4000) (loose := Hd.loose) (d := HandSHeadRun.topDef (OpenLaw.row PySem.Challenge.rw_chimeward_k09_whole_faults_of_words).prog 37) (kwd := []) Hd.ob_eq
    (by kernel_rfl) (fun s => by kernel_rfl) Hd.run (by kernel_rfl) (by kernel_rfl) (by kernel_rfl) (by rfl) (by first | assumption | decide +kernel) (by decide +kernel) ⟨rfl, rfl, rfl, rfl, rfl, by decide +kernel⟩ ?hw ?hc
  case hw => w_witness2
  case hc =>
    refine Ev.walk_endR (l := PySem.Challenge.rw_chimeward_k09_whole_faults_of_words) (n := 63) rfl (by decide) (by kernel_rfl) ?F
    intro w mg fa h Y G hmg0
    obtain ⟨K, KX, c⟩ := Y
    have hmg : mg ("law" : PySem.Str) = some (.ref fa) := by
      have e : (HandSHeadRun.topDef (OpenLaw.row PySem.Challenge.rw_chimeward_k09_whole_faults_of_words).prog 37).name = ("law" : PySem.Str) := by kernel_rfl
      rw [← e]
      exact hmg0
    exact ⟨K, KX, fun t a ns hl hbits b0 H _ _ e0 hS => Hd.facts n (P := (PySem.Challenge.rw_chimeward_k09_whole_faults_of_words).prog) (w := w) KX G hmg c t a b0 H _ _ hn e0 (Ev.sp_law rfl rfl hS (law ns hl hbits))⟩

end
section
set_option autoImplicit false
set_option linter.all false
set_option maxRecDepth 100000
set_option maxHeartbeats 1000000
namespace Hd
open PySem Ev
mutual
def simD : D → Bool
  | .dict _ => false
  | .list xs => decide (xs.length ≤ 1000) && simDs xs
  | .tuple xs => decide (xs.length ≤ 1000) && simDs xs
  | _ => true
def simDs : List D → Bool
  | [] => true
  | x :: xs => simD x && simDs xs
end
mutual
def dp : D → Nat
  | .list xs => dps xs + 1
  | .tuple xs => dps xs + 1
  | _ => 0
def dps : List D → Nat
  | [] => 0
  | x :: xs => max (dp x) (dps xs)
end
theorem dps_le : ∀ {xs : List D} {x : D}, x ∈ xs → dp x ≤ dps xs
  | y :: ys, x, h => by
    show _ ≤ max (dp y) (dps ys)
    rcases List.mem_cons.mp h with rfl | h
    · omega
    · have := dps_le h; omega
theorem simDs_at : ∀ {xs : List D} {x : D}, simDs xs = true → x ∈ xs → simD x = true
  | y :: ys, x, hs, h => by
    have hs : (simD y && simDs ys) = true := hs
    rw [Bool.and_eq_true] at hs
    rcases List.mem_cons.mp h with rfl | h
    · exact hs.1
    · exact simDs_at hs.2 h
theorem v_eqBB (x y : Bool) : ev2 .eq (.bool x) (.bool y) = some (.val (.bool (x == y))) := by simp [ev2, PyData.plain, PyData.depth, PyData.eqv]
theorem v_neBB (x y : Bool) : ev2 .ne (.bool x) (.bool y) = some (.val (.bool (!(x == y)))) := by simp [ev2, PyData.plain, PyData.depth, PyData.eqv]
theorem v_eqSS (x : Str) : ev2 .eq (.str x) (.str x) = some (.val (.bool true)) := by simp [ev2, PyData.plain, PyData.depth, PyData.eqv]
abbrev S13_1 : Ev.S := (.ifS (.op2 .is (.var 1) .none) [(.ret (.op2 .is (.var 0) .none))] [])
abbrev S13_2 : Ev.S := (.ifS (.or (.op1 (.isT .tuple) (.var 1)) (.op1 (.isT .list) (.var 1))) [(.ifS (.or (.op2 .ne (.op1 (.isT .tuple) (.var 1)) (.op1 (.isT .tuple) (.var 0))) (.op2 .ne (.op1 (.isT .list) (.var 1)) (.op1 (.isT .list) (.var 0)))) [(.ret (.bl false))] []), (.ifS (.op2 .ne (.op1 .len (.var 0)) (.op1 .len (.var 1))) [(.ret (.bl false))] []), (.forS (.nm 2) (.range (.op1 .len (.var 1))) [(.ifS (.not (.call 13 [(.op2 .idx (.var 0) (.var 2)), (.op2 .idx (.var 1) (.var 2))])) [(.ret (.bl false))] [])]), (.ret (.bl true))] [])
abbrev S13_3 : Ev.S := (.ifS (.op1 (.isT .dict) (.var 1)) [(.ifS (.or (.not (.op1 (.isT .dict) (.var 0))) (.op2 .ne (.op1 .len (.var 0)) (.op1 .len (.var 1)))) [(.ret (.bl false))] []), (.ret (.op2 .eq (.comp (.var 3) (.nm 3) (.seq (.var 1)) (some (.or (.op2 .nin (.var 3) (.var 0)) (.not (.call 13 [(.op2 .idx (.var 0) (.var 3)), (.op2 .idx (.var 1) (.var 3))]))))) (.lst [])))] [])
abbrev S13_4 : Ev.S := (.ifS (.op2 .ne (.op1 (.isT .bool) (.var 1)) (.op1 (.isT .bool) (.var 0))) [(.ret (.bl false))] [])
abbrev S13_5 : Ev.S := (.ifS (.or (.op2 .ne (.op1 (.isT .int) (.var 1)) (.op1 (.isT .int) (.var 0))) (.op2 .ne (.op1 (.isT .str) (.var 1)) (.op1 (.isT .str) (.var 0)))) [(.ret (.bl false))] [])
abbrev S13_6 : Ev.S := (.ret (.op2 .eq (.var 0) (.var 1)))
abbrev U13_1 : Ev.S := (.ifS (.or (.op2 .ne (.op1 (.isT .tuple) (.var 1)) (.op1 (.isT .tuple) (.var 0))) (.op2 .ne (.op1 (.isT .list) (.var 1)) (.op1 (.isT .list) (.var 0)))) [(.ret (.bl false))] [])
abbrev U13_2 : Ev.S := (.ifS (.op2 .ne (.op1 .len (.var 0)) (.op1 .len (.var 1))) [(.ret (.bl false))] [])
abbrev U13_3 : Ev.S := (.forS (.nm 2) (.range (.op1 .len (.var 1))) [(.ifS (.not (.call 13 [(.op2 .idx (.var 0) (.var 2)), (.op2 .idx (.var 1) (.var 2))])) [(.ret (.bl false))] [])])
abbrev U13_4 : Ev.S := (.ret (.bl true))
abbrev V13 : List Ev.S := [(.ifS (.not (.call 13 [(.op2 .idx (.var 0) (.var 2)), (.op2 .idx (.var 1) (.var 2))])) [(.ret (.bl false))] [])]
abbrev E13 (x : D) (a : Option O) : Ev.Env := [some (.val x), some (.val x), a, none]
theorem q13 (k : Nat) (x : D) (xs : List D) (hx : x = .list xs ∨ x = .tuple xs) (hl : xs.length ≤ 1000) (ih : ∀ y ∈ xs, ∀ n, Ret Tb (n + k) 13 [.val y, .val y] (.val (.bool true))) (n : Nat) : Ret Tb (n + (k + 20)) 13 [.val x, .val x] (.val (.bool true)) := by
  have hlen : ev1 .len x = some (.val (.int xs.length)) := by rcases hx with rfl | rfl <;> rfl
  have hn : ev2 .is x .none = some (.val (.bool false)) := by rcases hx with rfl | rfl <;> rfl
  rw [show n + (k + 20) = n + k + 20 from by omega]
  have hb : ∀ (i : Nat), i < xs.length → exN Tb (n + k + 18) V13 (E13 x (some (.val (.int (i : Int))))) = .ok (.next, E13 x (some (.val (.int (i : Int))))) := by
    intro i hi
    have hg : xs[i]? = some xs[i] := List.getElem?_eq_getElem hi
    have hidx : ev2 .idx x (.int (i : Int)) = some (.val xs[i]) := by
      have e2 := L2.atI_nat hg
      rcases hx with rfl | rfl
      · show (atD xs _).map _ = _
        unfold atD
        rw [e2]; rfl
      · show (atD xs _).map _ = _
        unfold atD
        rw [e2]; rfl
    have h := fun env => call2 (T := Tb) (n := n + k + 15) (f := 13) env (by have := ih _ (List.getElem_mem hi) (n + 15); rwa [show n + 15 + k = n + k + 15 from by omega] at this)
    unfold V13 E13
    simp only [evS, exS, okb, stb, seqS, one, stepE_none, stepE_bl, stepE_int, stepE_str, stepE_var, stepE_glb, stepE_tup, stepE_lst, stepE_op1, stepE_op2, stepE_not, stepE_and, stepE_or, stepE_ite, stepE_chain, stepE_slice, stepE_call, evD, evDs, evArgs, optI, truthE, truth, O.tree, O.toD, O.trees, O.toDs, v_add, v_sub, v_le, v_lt, v_ge, v_gt, v_min, v_max, v_eq, v_ne, v_is, v_isnt, v_t20, v_t21, u_lenL, u_lenT2, beq_self_eq_true, decide_true, Nat.reduceAdd, Nat.reduceLT, Nat.zero_add, Bool.and_self, Bool.and_true, Bool.true_and, u_isT, u_int, u_intB, u_abs, u_neg, u_tupL, u_revT, seq?, setO, assignT, assignTs, isTy, List.getElem?_cons_zero, List.getElem?_cons_succ, Option.join_some, List.set_cons_zero, List.set_cons_succ, List.length_cons, List.length_nil, Res.bind, if_true, if_false, Nat.lt_irrefl, Bool.not_true, Bool.not_false, reduceIte, Bool.false_eq_true, toDs_val, trees_val, hidx, h]
  have hloop : ∃ a', loopF (exN Tb (n + k + 18) V13) (.nm 2) (rangeD 0 (xs.length : Int)) (E13 x none) = .ok (.next, E13 x a') := by
    obtain ⟨env', h, a', e⟩ := loop_inv (body := exN Tb (n + k + 18) V13) (t := .nm 2) (fun env => ∃ a, env = E13 x a) (ds := rangeD 0 (xs.length : Int)) (env := E13 x none) ⟨_, rfl⟩ (by
      rintro v hv env ⟨a, rfl⟩
      unfold rangeD at hv
      obtain ⟨j, hj, rfl⟩ := List.mem_map.mp hv
      have hj := List.mem_range.mp hj
      refine ⟨E13 x (some (.val (.int (j : Int)))), _, ?_, hb j (by omega), _, rfl⟩
      rw [Int.zero_add]; rfl)
    exact ⟨a', by rw [h, e]⟩
  obtain ⟨a', hloop⟩ := hloop
  have c1 : ev1 (.isT .tuple) x = some (.val (.bool (isTy .tuple x))) := rfl
  have c2 : ev1 (.isT .list) x = some (.val (.bool (isTy .list x))) := rfl
  have ht : (isTy .tuple x = true ∧ isTy .list x = false) ∨ (isTy .tuple x = false ∧ isTy .list x = true) := by rcases hx with rfl | rfl <;> simp [isTy]
  have inner : exN Tb (n + k + 19) [U13_1, U13_2, U13_3, U13_4] (E13 x none) = .ok (.ret (.val (.bool true)), E13 x a') := by
    refine (exS (n := n + k + 18) _ _).trans (seq_next (env1 := E13 x none) (one_ifF (env1 := E13 x none) ?_ rfl) (seq_next (env1 := E13 x none) (one_ifF (env1 := E13 x none) ?_ rfl) (seq_next (one_for (items_range (j := xs.length) (env1 := E13 x none) ?_ (by omega) rfl) hloop) (seq_ret (one_ret (env1 := E13 x a') (d := .bool true) rfl)))))
    · unfold E13
      rcases hx with rfl | rfl <;> simp only [evS, exS, okb, stb, seqS, one, stepE_none, stepE_bl, stepE_int, stepE_str, stepE_var, stepE_glb, stepE_tup, stepE_lst, stepE_op1, stepE_op2, stepE_not, stepE_and, stepE_or, stepE_ite, stepE_chain, stepE_slice, stepE_call, evD, evDs, evArgs, optI, truthE, truth, O.tree, O.toD, O.trees, O.toDs, v_add, v_sub, v_le, v_lt, v_ge, v_gt, v_min, v_max, v_eq, v_ne, v_is, v_isnt, v_t20, v_t21, u_lenL, u_lenT2, beq_self_eq_true, decide_true, Nat.reduceAdd, Nat.reduceLT, Nat.zero_add, Bool.and_self, Bool.and_true, Bool.true_and, u_isT, u_int, u_intB, u_abs, u_neg, u_tupL, u_revT, seq?, setO, assignT, assignTs, isTy, List.getElem?_cons_zero, List.getElem?_cons_succ, Option.join_some, List.set_cons_zero, List.set_cons_succ, List.length_cons, List.length_nil, Res.bind, if_true, if_false, Nat.lt_irrefl, Bool.not_true, Bool.not_false, reduceIte, Bool.false_eq_true, toDs_val, trees_val, v_neBB]
    · unfold E13
      simp only [evS, exS, okb, stb, seqS, one, stepE_none, stepE_bl, stepE_int, stepE_str, stepE_var, stepE_glb, stepE_tup, stepE_lst, stepE_op1, stepE_op2, stepE_not, stepE_and, stepE_or, stepE_ite, stepE_chain, stepE_slice, stepE_call, evD, evDs, evArgs, optI, truthE, truth, O.tree, O.toD, O.trees, O.toDs, v_add, v_sub, v_le, v_lt, v_ge, v_gt, v_min, v_max, v_eq, v_ne, v_is, v_isnt, v_t20, v_t21, u_lenL, u_lenT2, beq_self_eq_true, decide_true, Nat.reduceAdd, Nat.reduceLT, Nat.zero_add, Bool.and_self, Bool.and_true, Bool.true_and, u_isT, u_int, u_intB, u_abs, u_neg, u_tupL, u_revT, seq?, setO, assignT, assignTs, isTy, List.getElem?_cons_zero, List.getElem?_cons_succ, Option.join_some, List.set_cons_zero, List.set_cons_succ, List.length_cons, List.length_nil, Res.bind, if_true, if_false, Nat.lt_irrefl, Bool.not_true, Bool.not_false, reduceIte, Bool.false_eq_true, toDs_val, trees_val, hlen]
    · unfold E13
      simp only [evS, exS, okb, stb, seqS, one, stepE_none, stepE_bl, stepE_int, stepE_str, stepE_var, stepE_glb, stepE_tup, stepE_lst, stepE_op1, stepE_op2, stepE_not, stepE_and, stepE_or, stepE_ite, stepE_chain, stepE_slice, stepE_call, evD, evDs, evArgs, optI, truthE, truth, O.tree, O.toD, O.trees, O.toDs, v_add, v_sub, v_le, v_lt, v_ge, v_gt, v_min, v_max, v_eq, v_ne, v_is, v_isnt, v_t20, v_t21, u_lenL, u_lenT2, beq_self_eq_true, decide_true, Nat.reduceAdd, Nat.reduceLT, Nat.zero_add, Bool.and_self, Bool.and_true, Bool.true_and, u_isT, u_int, u_intB, u_abs, u_neg, u_tupL, u_revT, seq?, setO, assignT, assignTs, isTy, List.getElem?_cons_zero, List.getElem?_cons_succ, Option.join_some, List.set_cons_zero, List.set_cons_succ, List.length_cons, List.length_nil, Res.bind, if_true, if_false, Nat.lt_irrefl, Bool.not_true, Bool.not_false, reduceIte, Bool.false_eq_true, toDs_val, trees_val, hlen]
  refine ⟨[some (.val x), some (.val x)], callF_ret (d := f13) (os := [.val x, .val x]) (env := E13 x a') (e0 := E13 x none) rfl rfl rfl ((exS (n := n + k + 19) _ _).trans (seq_next (env1 := E13 x none) (one_ifF (env1 := E13 x none) ?_ rfl) (seq_ret (one_ifT (env1 := E13 x none) ?_ inner)))) rfl⟩
  · unfold E13
    simp only [evS, exS, okb, stb, seqS, one, stepE_none, stepE_bl, stepE_int, stepE_str, stepE_var, stepE_glb, stepE_tup, stepE_lst, stepE_op1, stepE_op2, stepE_not, stepE_and, stepE_or, stepE_ite, stepE_chain, stepE_slice, stepE_call, evD, evDs, evArgs, optI, truthE, truth, O.tree, O.toD, O.trees, O.toDs, v_add, v_sub, v_le, v_lt, v_ge, v_gt, v_min, v_max, v_eq, v_ne, v_is, v_isnt, v_t20, v_t21, u_lenL, u_lenT2, beq_self_eq_true, decide_true, Nat.reduceAdd, Nat.reduceLT, Nat.zero_add, Bool.and_self, Bool.and_true, Bool.true_and, u_isT, u_int, u_intB, u_abs, u_neg, u_tupL, u_revT, seq?, setO, assignT, assignTs, isTy, List.getElem?_cons_zero, List.getElem?_cons_succ, Option.join_some, List.set_cons_zero, List.set_cons_succ, List.length_cons, List.length_nil, Res.bind, if_true, if_false, Nat.lt_irrefl, Bool.not_true, Bool.not_false, reduceIte, Bool.false_eq_true, toDs_val, trees_val, hn]
  · unfold E13
    rcases hx with rfl | rfl <;> simp only [evS, exS, okb, stb, seqS, one, stepE_none, stepE_bl, stepE_int, stepE_str, stepE_var, stepE_glb, stepE_tup, stepE_lst, stepE_op1, stepE_op2, stepE_not, stepE_and, stepE_or, stepE_ite, stepE_chain, stepE_slice, stepE_call, evD, evDs, evArgs, optI, truthE, truth, O.tree, O.toD, O.trees, O.toDs, v_add, v_sub, v_le, v_lt, v_ge, v_gt, v_min, v_max, v_eq, v_ne, v_is, v_isnt, v_t20, v_t21, u_lenL, u_lenT2, beq_self_eq_true, decide_true, Nat.reduceAdd, Nat.reduceLT, Nat.zero_add, Bool.and_self, Bool.and_true, Bool.true_and, u_isT, u_int, u_intB, u_abs, u_neg, u_tupL, u_revT, seq?, setO, assignT, assignTs, isTy, List.getElem?_cons_zero, List.getElem?_cons_succ, Option.join_some, List.set_cons_zero, List.set_cons_succ, List.length_cons, List.length_nil, Res.bind, if_true, if_false, Nat.lt_irrefl, Bool.not_true, Bool.not_false, reduceIte, Bool.false_eq_true, toDs_val, trees_val, show (Ty.tuple == Ty.list) = false from rfl, show (Ty.list == Ty.tuple) = false from rfl]
theorem r13 : ∀ (d : Nat) (x : D), simD x = true → dp x ≤ d → ∀ n, Ret Tb (n + (20 * d + 30)) 13 [.val x, .val x] (.val (.bool true)) := by
  intro d
  induction d with
  | zero =>
    intro x hs hd n
    rw [show n + (20 * 0 + 30) = n + 30 from rfl]
    cases x with
    | none => exact ⟨[some (.val .none), some (.val .none)], by kernel_rfl⟩
    | bool b => refine ⟨[some (.val (.bool b)), some (.val (.bool b))], ?_⟩; cases b <;> kernel_rfl
    | int i =>
      refine ⟨[some (.val (.int i)), some (.val (.int i))], ?_⟩
      have e1 : ev2 .is (PyData.int i) .none = some (.val (.bool false)) := rfl
      have c : ∀ t, ev1 (.isT t) (PyData.int i) = some (.val (.bool (t == .int))) := fun t => rfl
      simp only [callF, List.replicate, Nat.sub_self, List.append_nil, List.map_cons, List.map_nil, show Tb.fs[13]? = some f13 from rfl, f13, evS, exS, okb, stb, seqS, one, stepE_none, stepE_bl, stepE_int, stepE_str, stepE_var, stepE_glb, stepE_tup, stepE_lst, stepE_op1, stepE_op2, stepE_not, stepE_and, stepE_or, stepE_ite, stepE_chain, stepE_slice, stepE_call, evD, evDs, evArgs, optI, truthE, truth, O.tree, O.toD, O.trees, O.toDs, v_add, v_sub, v_le, v_lt, v_ge, v_gt, v_min, v_max, v_eq, v_ne, v_is, v_isnt, v_t20, v_t21, u_lenL, u_lenT2, beq_self_eq_true, decide_true, Nat.reduceAdd, Nat.reduceLT, Nat.zero_add, Bool.and_self, Bool.and_true, Bool.true_and, u_isT, u_int, u_intB, u_abs, u_neg, u_tupL, u_revT, seq?, setO, assignT, assignTs, isTy, List.getElem?_cons_zero, List.getElem?_cons_succ, Option.join_some, List.set_cons_zero, List.set_cons_succ, List.length_cons, List.length_nil, Res.bind, if_true, if_false, Nat.lt_irrefl, Bool.not_true, Bool.not_false, reduceIte, Bool.false_eq_true, toDs_val, trees_val, e1, c, v_neBB, show 4 - 2 = 2 from rfl, List.cons_append, List.nil_append, show (Ty.int == Ty.int) = true from rfl, show (Ty.tuple == Ty.int) = false from rfl, show (Ty.list == Ty.int) = false from rfl, show (Ty.dict == Ty.int) = false from rfl, show (Ty.bool == Ty.int) = false from rfl, show (Ty.str == Ty.int) = false from rfl]
      rfl
    | str z =>
      refine ⟨[some (.val (.str z)), some (.val (.str z))], ?_⟩
      have e1 : ev2 .is (PyData.str z) .none = some (.val (.bool false)) := rfl
      have c : ∀ t, ev1 (.isT t) (PyData.str z) = some (.val (.bool (t == .str))) := fun t => rfl
      simp only [callF, List.replicate, Nat.sub_self, List.append_nil, List.map_cons, List.map_nil, show Tb.fs[13]? = some f13 from rfl, f13, evS, exS, okb, stb, seqS, one, stepE_none, stepE_bl, stepE_int, stepE_str, stepE_var, stepE_glb, stepE_tup, stepE_lst, stepE_op1, stepE_op2, stepE_not, stepE_and, stepE_or, stepE_ite, stepE_chain, stepE_slice, stepE_call, evD, evDs, evArgs, optI, truthE, truth, O.tree, O.toD, O.trees, O.toDs, v_add, v_sub, v_le, v_lt, v_ge, v_gt, v_min, v_max, v_eq, v_ne, v_is, v_isnt, v_t20, v_t21, u_lenL, u_lenT2, beq_self_eq_true, decide_true, Nat.reduceAdd, Nat.reduceLT, Nat.zero_add, Bool.and_self, Bool.and_true, Bool.true_and, u_isT, u_int, u_intB, u_abs, u_neg, u_tupL, u_revT, seq?, setO, assignT, assignTs, isTy, List.getElem?_cons_zero, List.getElem?_cons_succ, Option.join_some, List.set_cons_zero, List.set_cons_succ, List.length_cons, List.length_nil, Res.bind, if_true, if_false, Nat.lt_irrefl, Bool.not_true, Bool.not_false, reduceIte, Bool.false_eq_true, toDs_val, trees_val, e1, c, v_neBB, v_eqSS, show 4 - 2 = 2 from rfl, List.cons_append, List.nil_append, show (Ty.str == Ty.str) = true from rfl, show (Ty.tuple == Ty.str) = false from rfl, show (Ty.list == Ty.str) = false from rfl, show (Ty.dict == Ty.str) = false from rfl, show (Ty.bool == Ty.str) = false from rfl, show (Ty.int == Ty.str) = false from rfl]
      rfl
    | list xs => exact absurd hd (by show ¬ dps xs + 1 ≤ 0; omega)
    | tuple xs => exact absurd hd (by show ¬ dps xs + 1 ≤ 0; omega)
    | dict kvs => cases hs
  | succ d IH =>
    intro x hs hd n
    have more : dp x ≤ d → Ret Tb (n + (20 * (d + 1) + 30)) 13 [.val x, .val x] (.val (.bool true)) := fun h0 => by
      have := IH x hs h0 (n + 20)
      rwa [show n + 20 + (20 * d + 30) = n + (20 * (d + 1) + 30) from by omega] at this
    have step : ∀ xs, (x = .list xs ∨ x = .tuple xs) → decide (xs.length ≤ 1000) = true → simDs xs = true → dps xs ≤ d → Ret Tb (n + (20 * (d + 1) + 30)) 13 [.val x, .val x] (.val (.bool true)) := by
      intro xs hx hl hs hd
      have := q13 (20 * d + 30) x xs hx (of_decide_eq_true hl) (fun y hy m => IH y (simDs_at hs hy) (Nat.le_trans (dps_le hy) hd) m) n
      rwa [show n + (20 * d + 30 + 20) = n + (20 * (d + 1) + 30) from by omega] at this
    cases x with
    | list xs =>
      have hs : (decide (xs.length ≤ 1000) && simDs xs) = true := hs
      rw [Bool.and_eq_true] at hs
      exact step xs (.inl rfl) hs.1 hs.2 (by have : dps xs + 1 ≤ d + 1 := hd; omega)
    | tuple xs =>
      have hs : (decide (xs.length ≤ 1000) && simDs xs) = true := hs
      rw [Bool.and_eq_true] at hs
      exact step xs (.inr rfl) hs.1 hs.2 (by have : dps xs + 1 ≤ d + 1 := hd; omega)
    | dict kvs => cases hs
    | _ => exact more (Nat.zero_le _)
end Hd

end
section
set_option autoImplicit false
set_option linter.all false
set_option maxRecDepth 100000
namespace Hd
open PySem Ev
/-! the law's draws -/
def dr (ds : List Int) : O := .lst ((ds.map PyData.int).map .val)
def tk (ds : List Int) (b : Int) : Int := match ds.getLast? with
  | none => 0
  | some x => x % b
theorem tk_in (ds : List Int) {b : Int} (hb : 0 < b) : 0 ≤ tk ds b ∧ tk ds b < b := by
  unfold tk
  split
  · omega
  · exact ⟨Int.emod_nonneg _ (by omega), Int.emod_lt_of_pos _ hb⟩
theorem r11 (n : Nat) (ds : List Int) {b : Int} (hb : 0 < b) : callF Tb (exN Tb (n + 9)) 11 [dr ds, .val (.int b)] = .ok (.val (.int (tk ds b)), [some (dr ds.dropLast), some (.val (.int b))]) := by
  rcases List.eq_nil_or_concat ds with rfl | ⟨l, x, rfl⟩
  · rfl
  · have k2 := v_mod (a := x) (b := b) hb
    have e1 : ((l.concat x).map PyData.int).length = l.length + 1 := by rw [List.length_map, List.length_concat]
    have e2 : (((l.length + 1 : Nat) : Int) == 0) = false := by rw [beq_eq_false_iff_ne]; omega
    have e3 : (((l.concat x).map PyData.int).map O.val).getLast? = some (.val (.int x)) := by
      rw [List.concat_eq_append, List.map_append, List.map_append]; exact List.getLast?_concat
    have e4 : (((l.concat x).map PyData.int).map O.val).dropLast = (l.map PyData.int).map O.val := by
      rw [List.concat_eq_append, List.map_append, List.map_append]; exact List.dropLast_concat
    have e5 : (l.concat x).dropLast = l := by rw [List.concat_eq_append]; exact List.dropLast_concat
    have e6 : tk (l.concat x) b = x % b := by unfold tk; rw [List.concat_eq_append, List.getLast?_concat]
    rw [e5, e6]
    unfold dr
    simp only [callF, List.replicate, Nat.sub_self, List.append_nil, List.map_nil, List.map_cons, show Tb.fs[11]? = some f11 from rfl, f11, evS, exS, okb, stb, seqS, one, stepE_none, stepE_bl, stepE_int, stepE_str, stepE_var, stepE_glb, stepE_tup, stepE_lst, stepE_op1, stepE_op2, stepE_not, stepE_and, stepE_or, stepE_ite, stepE_chain, stepE_slice, stepE_call, evD, evDs, evArgs, optI, truthE, truth, O.tree, O.toD, O.trees, O.toDs, v_add, v_sub, v_le, v_lt, v_ge, v_gt, v_min, v_max, v_eq, v_ne, v_is, v_isnt, v_t20, v_t21, u_lenL, u_lenT2, beq_self_eq_true, decide_true, Nat.reduceAdd, Nat.reduceLT, Nat.zero_add, Bool.and_self, Bool.and_true, Bool.true_and, u_isT, u_int, u_intB, u_abs, u_neg, u_tupL, u_revT, seq?, setO, assignT, assignTs, isTy, List.getElem?_cons_zero, List.getElem?_cons_succ, Option.join_some, List.set_cons_zero, List.set_cons_succ, List.length_cons, List.length_nil, Res.bind, if_true, if_false, Nat.lt_irrefl, Bool.not_true, Bool.not_false, reduceIte, Bool.false_eq_true, toDs_val, trees_val, stepE_snap, stepE_pop, frozen, Ev.loose, Ev.looses, flat, e1, e2, e3, e4, k2]
    rfl
theorem t11_0 (n : Nat) (ds : List Int) {b : Int} (hb : 0 < b) (env : Ev.Env) : callA Tb (exN Tb (n + 9)) 11 [(some 0, .none), (none, .int b)] (some (dr ds) :: env) = .ok (.val (.int (tk ds b)), some (dr ds.dropLast) :: env) :=
  callA_run (by simp [lent]) rfl rfl (r11 n ds hb)
theorem t11_1 (n : Nat) (ds : List Int) {b : Int} (hb : 0 < b) (o : Option O) (env : Ev.Env) : callA Tb (exN Tb (n + 9)) 11 [(some 1, .none), (none, .int b)] (o :: some (dr ds) :: env) = .ok (.val (.int (tk ds b)), o :: some (dr ds.dropLast) :: env) :=
  callA_run (by simp [lent]) rfl rfl (r11 n ds hb)
def pk (ds : List Int) (xs : List D) : D := (xs[(tk ds xs.length).toNat]?).getD .none
theorem r12 (n : Nat) (ds : List Int) (xs : List D) (h : xs ≠ []) : callF Tb (exN Tb (n + 20)) 12 [dr ds, .val (.list xs)] = .ok (.val (pk ds xs), [some (dr ds.dropLast), some (.val (.list xs))]) := by
  have hl : 0 < (xs.length : Int) := by
    cases xs with
    | nil => exact absurd rfl h
    | cons a r => rw [List.length_cons]; omega
  obtain ⟨t0, t1⟩ := tk_in ds hl
  have hi : ev2 .idx (.list xs) (.int (tk ds xs.length)) = some (.val (pk ds xs)) := by
    have hj : (tk ds xs.length).toNat < xs.length := by omega
    have e : xs[(tk ds xs.length).toNat]? = some (pk ds xs) := by
      unfold pk
      rw [List.getElem?_eq_getElem hj]
      rfl
    have e2 := L2.atI_nat e
    rw [show (((tk ds xs.length).toNat : Nat) : Int) = tk ds xs.length from by omega] at e2
    show (atD xs _).map _ = _
    unfold atD
    rw [e2]
    rfl
  have k11 := fun m' => t11_0 m' ds hl
  simp only [callF, List.replicate, Nat.sub_self, List.append_nil, List.map_cons, List.map_nil, show Tb.fs[12]? = some f12 from rfl, f12, evS, exS, okb, stb, seqS, one, stepE_none, stepE_bl, stepE_int, stepE_str, stepE_var, stepE_glb, stepE_tup, stepE_lst, stepE_op1, stepE_op2, stepE_not, stepE_and, stepE_or, stepE_ite, stepE_chain, stepE_slice, stepE_call, evD, evDs, evArgs, optI, truthE, truth, O.tree, O.toD, O.trees, O.toDs, v_add, v_sub, v_le, v_lt, v_ge, v_gt, v_min, v_max, v_eq, v_ne, v_is, v_isnt, v_t20, v_t21, u_lenL, u_lenT2, beq_self_eq_true, decide_true, Nat.reduceAdd, Nat.reduceLT, Nat.zero_add, Bool.and_self, Bool.and_true, Bool.true_and, u_isT, u_int, u_intB, u_abs, u_neg, u_tupL, u_revT, seq?, setO, assignT, assignTs, isTy, List.getElem?_cons_zero, List.getElem?_cons_succ, Option.join_some, List.set_cons_zero, List.set_cons_succ, List.length_cons, List.length_nil, Res.bind, if_true, if_false, Nat.lt_irrefl, Bool.not_true, Bool.not_false, reduceIte, Bool.false_eq_true, toDs_val, trees_val, k11, hi, show ((some (dr ds)) :: ([] : Ev.Env))[0]? = some (some (dr ds)) from rfl]
  rfl
theorem t12_0 (n : Nat) (ds : List Int) (xs : List D) (h : xs ≠ []) (env : Ev.Env) : callA Tb (exN Tb (n + 20)) 12 [(some 0, .none), (none, .list xs)] (some (dr ds) :: env) = .ok (.val (pk ds xs), some (dr ds.dropLast) :: env) :=
  callA_run (by simp [lent]) rfl rfl (r12 n ds xs h)
theorem t12_1 (n : Nat) (ds : List Int) (xs : List D) (h : xs ≠ []) (o : Option O) (env : Ev.Env) : callA Tb (exN Tb (n + 20)) 12 [(some 1, .none), (none, .list xs)] (o :: some (dr ds) :: env) = .ok (.val (pk ds xs), o :: some (dr ds.dropLast) :: env) :=
  callA_run (by simp [lent]) rfl rfl (r12 n ds xs h)
theorem pk_in {ds : List Int} {xs : List D} (h : xs ≠ []) : pk ds xs ∈ xs := by
  have hl : 0 < (xs.length : Int) := by
    cases xs with
    | nil => exact absurd rfl h
    | cons a r => rw [List.length_cons]; omega
  obtain ⟨t0, t1⟩ := tk_in ds hl
  have hj : (tk ds xs.length).toNat < xs.length := by omega
  unfold pk
  rw [List.getElem?_eq_getElem hj]
  exact List.getElem_mem hj
theorem dr_app (ds : List Int) (r : Int) : O.lst (((ds.map PyData.int).map O.val) ++ [.val (.int r)]) = dr (ds ++ [r]) := by
  unfold dr; rw [List.map_append, List.map_append]; rfl
theorem app_dr {T : Tab} {ev : Ev.E → Ev.Env → Res (O × Ev.Env)} {exs : List Ev.S → Ev.Env → Res (Fl × Ev.Env)} {i : Nat} {e : Ev.E} {env : Ev.Env} {r : Int} {ds : List Int} (h0 : (env[i]?).join = some (dr ds)) (he : evD ev e env = .ok (.int r, env)) (hl : ds.length < 20000) : Ev.one T ev exs (.app i e) env = .ok (.next, setO env i (dr (ds ++ [r]))) := by
  rw [one_app (xs := (ds.map PyData.int).map O.val) h0 he (by rw [List.length_map, List.length_map]; exact Nat.lt_of_lt_of_le hl (most_ok (by decide))), dr_app]
theorem v_pow18 : ev2 .pow (.int 10) (.int 18) = some (.val (.int 1000000000000000000)) := by simp only [ev2]; rfl
abbrev E10 (ns ds : List Int) (s : Int) (c b y : Option O) : Ev.Env := [some (.scr ns), some (dr ds), some (.val (.int s)), c, b, y]
abbrev inn10 : List Ev.S := [(.ifS (.op2 .gt (.var 5) (.int 0)) [(.app 1 (.op2 .mod (.op1 .int (.var 5)) (.int 997))), (.asg (.nm 5) (.op2 .fdiv (.var 5) (.int 997)))] [])]
theorem q10in (k : Nat) (ns : List Int) (s : Int) (a b : Option O) (y : Int) (ds : List Int) (hl : ds.length ≤ 10000) : ∃ ds' b' y', loopF (exN Tb (k + 20) inn10) (.nm 4) (rangeD 0 60) (E10 ns ds s a b (some (.val (.int y)))) = .ok (.next, E10 ns ds' s a b' (some (.val (.int y')))) ∧ ds'.length ≤ ds.length + 60 := by
  obtain ⟨env', h, ds', b', y', e, hl'⟩ := loop_cnt (body := exN Tb (k + 20) inn10) (t := .nm 4) (fun j env => ∃ ds' b' y', env = E10 ns ds' s a b' (some (.val (.int y'))) ∧ ds'.length + j ≤ ds.length + 60) (ds := rangeD 0 60) (env := E10 ns ds s a b (some (.val (.int y))))
    ⟨ds, b, y, rfl, Nat.le_refl _⟩ (by
      rintro v _ j env ⟨ds', b', y', rfl, hj⟩
      refine ⟨E10 ns ds' s a (some (.val v)) (some (.val (.int y'))), ?_⟩
      by_cases hy : 0 < y'
      · refine ⟨E10 ns (ds' ++ [y' % 997]) s a (some (.val v)) (some (.val (.int (y' / 997)))), rfl, ?_, _, _, _, rfl, by rw [List.length_append, List.length_singleton]; omega⟩
        rw [exS]
        refine seq_next (one_ifT (env1 := E10 ns ds' s a (some (.val v)) (some (.val (.int y')))) ?_ ?_) seq_nil
        · simp only [evS, exS, okb, stb, seqS, one, stepE_none, stepE_bl, stepE_int, stepE_str, stepE_var, stepE_glb, stepE_tup, stepE_lst, stepE_op1, stepE_op2, stepE_not, stepE_and, stepE_or, stepE_ite, stepE_chain, stepE_slice, stepE_call, evD, evDs, evArgs, optI, truthE, truth, O.tree, O.toD, O.trees, O.toDs, v_add, v_sub, v_le, v_lt, v_ge, v_gt, v_min, v_max, v_eq, v_ne, v_is, v_isnt, v_t20, v_t21, u_lenL, u_lenT2, beq_self_eq_true, decide_true, Nat.reduceAdd, Nat.reduceLT, Nat.zero_add, Bool.and_self, Bool.and_true, Bool.true_and, u_isT, u_int, u_intB, u_abs, u_neg, u_tupL, u_revT, seq?, setO, assignT, assignTs, isTy, List.getElem?_cons_zero, List.getElem?_cons_succ, Option.join_some, List.set_cons_zero, List.set_cons_succ, List.length_cons, List.length_nil, Res.bind, if_true, if_false, Nat.lt_irrefl, Bool.not_true, Bool.not_false, reduceIte, Bool.false_eq_true, toDs_val, trees_val, decide_eq_true (show y' > 0 from hy)]
        · rw [exS]
          have k1 := v_mod (a := y') (b := 997) (by decide)
          have k2 := v_fdiv (a := y') (b := 997) (by decide) (SmD_of (by decide) (by decide))
          refine seq_next (app_dr (r := y' % 997) rfl ?_ (by omega)) (seq_next (one_asg (d := .int (y' / 997)) (env1 := E10 ns (ds' ++ [y' % 997]) s a (some (.val v)) (some (.val (.int y')))) ?_ (show 5 < 6 by decide)) seq_nil)
          · simp only [evS, exS, okb, stb, seqS, one, stepE_none, stepE_bl, stepE_int, stepE_str, stepE_var, stepE_glb, stepE_tup, stepE_lst, stepE_op1, stepE_op2, stepE_not, stepE_and, stepE_or, stepE_ite, stepE_chain, stepE_slice, stepE_call, evD, evDs, evArgs, optI, truthE, truth, O.tree, O.toD, O.trees, O.toDs, v_add, v_sub, v_le, v_lt, v_ge, v_gt, v_min, v_max, v_eq, v_ne, v_is, v_isnt, v_t20, v_t21, u_lenL, u_lenT2, beq_self_eq_true, decide_true, Nat.reduceAdd, Nat.reduceLT, Nat.zero_add, Bool.and_self, Bool.and_true, Bool.true_and, u_isT, u_int, u_intB, u_abs, u_neg, u_tupL, u_revT, seq?, setO, assignT, assignTs, isTy, List.getElem?_cons_zero, List.getElem?_cons_succ, Option.join_some, List.set_cons_zero, List.set_cons_succ, List.length_cons, List.length_nil, Res.bind, if_true, if_false, Nat.lt_irrefl, Bool.not_true, Bool.not_false, reduceIte, Bool.false_eq_true, toDs_val, trees_val, k1]
          · simp only [evS, exS, okb, stb, seqS, one, stepE_none, stepE_bl, stepE_int, stepE_str, stepE_var, stepE_glb, stepE_tup, stepE_lst, stepE_op1, stepE_op2, stepE_not, stepE_and, stepE_or, stepE_ite, stepE_chain, stepE_slice, stepE_call, evD, evDs, evArgs, optI, truthE, truth, O.tree, O.toD, O.trees, O.toDs, v_add, v_sub, v_le, v_lt, v_ge, v_gt, v_min, v_max, v_eq, v_ne, v_is, v_isnt, v_t20, v_t21, u_lenL, u_lenT2, beq_self_eq_true, decide_true, Nat.reduceAdd, Nat.reduceLT, Nat.zero_add, Bool.and_self, Bool.and_true, Bool.true_and, u_isT, u_int, u_intB, u_abs, u_neg, u_tupL, u_revT, seq?, setO, assignT, assignTs, isTy, List.getElem?_cons_zero, List.getElem?_cons_succ, Option.join_some, List.set_cons_zero, List.set_cons_succ, List.length_cons, List.length_nil, Res.bind, if_true, if_false, Nat.lt_irrefl, Bool.not_true, Bool.not_false, reduceIte, Bool.false_eq_true, toDs_val, trees_val, k2]
      · refine ⟨E10 ns ds' s a (some (.val v)) (some (.val (.int y'))), rfl, ?_, _, _, _, rfl, by omega⟩
        rw [exS]
        refine seq_next (one_ifF (env1 := E10 ns ds' s a (some (.val v)) (some (.val (.int y')))) ?_ ?_) seq_nil
        · simp only [evS, exS, okb, stb, seqS, one, stepE_none, stepE_bl, stepE_int, stepE_str, stepE_var, stepE_glb, stepE_tup, stepE_lst, stepE_op1, stepE_op2, stepE_not, stepE_and, stepE_or, stepE_ite, stepE_chain, stepE_slice, stepE_call, evD, evDs, evArgs, optI, truthE, truth, O.tree, O.toD, O.trees, O.toDs, v_add, v_sub, v_le, v_lt, v_ge, v_gt, v_min, v_max, v_eq, v_ne, v_is, v_isnt, v_t20, v_t21, u_lenL, u_lenT2, beq_self_eq_true, decide_true, Nat.reduceAdd, Nat.reduceLT, Nat.zero_add, Bool.and_self, Bool.and_true, Bool.true_and, u_isT, u_int, u_intB, u_abs, u_neg, u_tupL, u_revT, seq?, setO, assignT, assignTs, isTy, List.getElem?_cons_zero, List.getElem?_cons_succ, Option.join_some, List.set_cons_zero, List.set_cons_succ, List.length_cons, List.length_nil, Res.bind, if_true, if_false, Nat.lt_irrefl, Bool.not_true, Bool.not_false, reduceIte, Bool.false_eq_true, toDs_val, trees_val, decide_eq_false (show ¬ y' > 0 from hy)]
        · rfl)
  exact ⟨ds', b', y', by rw [h, e], by omega⟩
abbrev if10 : Ev.S := (.ifS (.op2 .lt (.var 5) (.op2 .pow (.int 10) (.int 18))) [(.app 1 (.op2 .mod (.op1 .int (.var 5)) (.int 997))), (.app 1 (.op2 .mod (.op1 .int (.var 2)) (.int 65521))), (.asg (.nm 5) (.int 0))] [])
abbrev cell10 : List Ev.S := [(.asg (.nm 5) (.op1 .abs (.op1 .int (.var 3)))), (.asg (.nm 2) (.op2 .mod (.op1 .int (.op2 .add (.op2 .add (.op2 .mul (.var 2) (.int 48271)) (.var 5)) (.int 1))) (.int 2147483647))), if10, (.forS (.nm 4) (.range (.int 60)) inn10)]
theorem q10cell (k : Nat) (ns : List Int) (c : Int) (b y : Option O) (s : Int) (hs : Sm s) (ds : List Int) (hl : ds.length ≤ 9000) : ∃ ds' s' b' y', exN Tb (k + 40) cell10 (E10 ns ds s (some (.val (.int c))) b y) = .ok (.next, E10 ns ds' s' (some (.val (.int c))) b' (some (.val (.int y')))) ∧ Sm s' ∧ ds'.length ≤ ds.length + 62 := by
  have hy : 0 ≤ (if c < 0 then -c else c) := by split <;> omega
  have m1 := v_mul (a := s) (b := 48271) hs (Sm_of (by decide) (by decide))
  have m2 := v_mod (a := s * 48271 + (if c < 0 then -c else c) + 1) (b := 2147483647) (by decide)
  have h0 : exN Tb (k + 40) cell10 (E10 ns ds s (some (.val (.int c))) b y) = seqS (Ev.one Tb (evN Tb (k + 39)) (exN Tb (k + 39))) [if10, (.forS (.nm 4) (.range (.int 60)) inn10)] (E10 ns ds ((s * 48271 + (if c < 0 then -c else c) + 1) % 2147483647) (some (.val (.int c))) b (some (.val (.int (if c < 0 then -c else c))))) := by
    rw [exS]
    refine seq_next (one_asg (d := .int (if c < 0 then -c else c)) (env1 := E10 ns ds s (some (.val (.int c))) b y) ?_ (show 5 < 6 by decide)) (seq_next (one_asg (d := .int ((s * 48271 + (if c < 0 then -c else c) + 1) % 2147483647)) (env1 := E10 ns ds s (some (.val (.int c))) b (some (.val (.int (if c < 0 then -c else c))))) ?_ (show 2 < 6 by decide)) rfl)
    · simp only [evS, exS, okb, stb, seqS, one, stepE_none, stepE_bl, stepE_int, stepE_str, stepE_var, stepE_glb, stepE_tup, stepE_lst, stepE_op1, stepE_op2, stepE_not, stepE_and, stepE_or, stepE_ite, stepE_chain, stepE_slice, stepE_call, evD, evDs, evArgs, optI, truthE, truth, O.tree, O.toD, O.trees, O.toDs, v_add, v_sub, v_le, v_lt, v_ge, v_gt, v_min, v_max, v_eq, v_ne, v_is, v_isnt, v_t20, v_t21, u_lenL, u_lenT2, beq_self_eq_true, decide_true, Nat.reduceAdd, Nat.reduceLT, Nat.zero_add, Bool.and_self, Bool.and_true, Bool.true_and, u_isT, u_int, u_intB, u_abs, u_neg, u_tupL, u_revT, seq?, setO, assignT, assignTs, isTy, List.getElem?_cons_zero, List.getElem?_cons_succ, Option.join_some, List.set_cons_zero, List.set_cons_succ, List.length_cons, List.length_nil, Res.bind, if_true, if_false, Nat.lt_irrefl, Bool.not_true, Bool.not_false, reduceIte, Bool.false_eq_true, toDs_val, trees_val]
    · simp only [evS, exS, okb, stb, seqS, one, stepE_none, stepE_bl, stepE_int, stepE_str, stepE_var, stepE_glb, stepE_tup, stepE_lst, stepE_op1, stepE_op2, stepE_not, stepE_and, stepE_or, stepE_ite, stepE_chain, stepE_slice, stepE_call, evD, evDs, evArgs, optI, truthE, truth, O.tree, O.toD, O.trees, O.toDs, v_add, v_sub, v_le, v_lt, v_ge, v_gt, v_min, v_max, v_eq, v_ne, v_is, v_isnt, v_t20, v_t21, u_lenL, u_lenT2, beq_self_eq_true, decide_true, Nat.reduceAdd, Nat.reduceLT, Nat.zero_add, Bool.and_self, Bool.and_true, Bool.true_and, u_isT, u_int, u_intB, u_abs, u_neg, u_tupL, u_revT, seq?, setO, assignT, assignTs, isTy, List.getElem?_cons_zero, List.getElem?_cons_succ, Option.join_some, List.set_cons_zero, List.set_cons_succ, List.length_cons, List.length_nil, Res.bind, if_true, if_false, Nat.lt_irrefl, Bool.not_true, Bool.not_false, reduceIte, Bool.false_eq_true, toDs_val, trees_val, m1, m2]
  rw [h0]
  have hf : 0 ≤ (s * 48271 + (if c < 0 then -c else c) + 1) % 2147483647 ∧ (s * 48271 + (if c < 0 then -c else c) + 1) % 2147483647 < 2147483647 := ⟨Int.emod_nonneg _ (by decide), Int.emod_lt_of_pos _ (by decide)⟩
  generalize (s * 48271 + (if c < 0 then -c else c) + 1) % 2147483647 = t at hf ⊢
  generalize (if c < 0 then -c else c) = y0 at hy ⊢
  have key : ∃ ds2 y2, Ev.one Tb (evN Tb (k + 39)) (exN Tb (k + 39)) if10 (E10 ns ds t (some (.val (.int c))) b (some (.val (.int y0)))) = .ok (.next, E10 ns ds2 t (some (.val (.int c))) b (some (.val (.int y2)))) ∧ ds2.length ≤ ds.length + 2 := by
    by_cases hc : y0 < 1000000000000000000
    · refine ⟨ds ++ [y0 % 997] ++ [t % 65521], 0, ?_, by simp only [List.length_append, List.length_singleton]; omega⟩
      refine one_ifT (env1 := E10 ns ds t (some (.val (.int c))) b (some (.val (.int y0)))) ?_ ?_
      · simp only [evS, exS, okb, stb, seqS, one, stepE_none, stepE_bl, stepE_int, stepE_str, stepE_var, stepE_glb, stepE_tup, stepE_lst, stepE_op1, stepE_op2, stepE_not, stepE_and, stepE_or, stepE_ite, stepE_chain, stepE_slice, stepE_call, evD, evDs, evArgs, optI, truthE, truth, O.tree, O.toD, O.trees, O.toDs, v_add, v_sub, v_le, v_lt, v_ge, v_gt, v_min, v_max, v_eq, v_ne, v_is, v_isnt, v_t20, v_t21, u_lenL, u_lenT2, beq_self_eq_true, decide_true, Nat.reduceAdd, Nat.reduceLT, Nat.zero_add, Bool.and_self, Bool.and_true, Bool.true_and, u_isT, u_int, u_intB, u_abs, u_neg, u_tupL, u_revT, seq?, setO, assignT, assignTs, isTy, List.getElem?_cons_zero, List.getElem?_cons_succ, Option.join_some, List.set_cons_zero, List.set_cons_succ, List.length_cons, List.length_nil, Res.bind, if_true, if_false, Nat.lt_irrefl, Bool.not_true, Bool.not_false, reduceIte, Bool.false_eq_true, toDs_val, trees_val, v_pow18, decide_eq_true hc]
      · have m2 := v_mod (a := y0) (b := 997) (by decide)
        have m4 := v_mod (a := t) (b := 65521) (by decide)
        rw [exS]
        refine seq_next (app_dr (r := y0 % 997) (ds := ds) rfl ?_ (by omega)) (seq_next (app_dr (r := t % 65521) (ds := ds ++ [y0 % 997]) rfl ?_ (by rw [List.length_append, List.length_singleton]; omega)) (seq_next (one_asg (d := .int 0) (env1 := E10 ns (ds ++ [y0 % 997] ++ [t % 65521]) t (some (.val (.int c))) b (some (.val (.int y0)))) ?_ (show 5 < 6 by decide)) seq_nil))
        · simp only [evS, exS, okb, stb, seqS, one, stepE_none, stepE_bl, stepE_int, stepE_str, stepE_var, stepE_glb, stepE_tup, stepE_lst, stepE_op1, stepE_op2, stepE_not, stepE_and, stepE_or, stepE_ite, stepE_chain, stepE_slice, stepE_call, evD, evDs, evArgs, optI, truthE, truth, O.tree, O.toD, O.trees, O.toDs, v_add, v_sub, v_le, v_lt, v_ge, v_gt, v_min, v_max, v_eq, v_ne, v_is, v_isnt, v_t20, v_t21, u_lenL, u_lenT2, beq_self_eq_true, decide_true, Nat.reduceAdd, Nat.reduceLT, Nat.zero_add, Bool.and_self, Bool.and_true, Bool.true_and, u_isT, u_int, u_intB, u_abs, u_neg, u_tupL, u_revT, seq?, setO, assignT, assignTs, isTy, List.getElem?_cons_zero, List.getElem?_cons_succ, Option.join_some, List.set_cons_zero, List.set_cons_succ, List.length_cons, List.length_nil, Res.bind, if_true, if_false, Nat.lt_irrefl, Bool.not_true, Bool.not_false, reduceIte, Bool.false_eq_true, toDs_val, trees_val, m2]
        · simp only [evS, exS, okb, stb, seqS, one, stepE_none, stepE_bl, stepE_int, stepE_str, stepE_var, stepE_glb, stepE_tup, stepE_lst, stepE_op1, stepE_op2, stepE_not, stepE_and, stepE_or, stepE_ite, stepE_chain, stepE_slice, stepE_call, evD, evDs, evArgs, optI, truthE, truth, O.tree, O.toD, O.trees, O.toDs, v_add, v_sub, v_le, v_lt, v_ge, v_gt, v_min, v_max, v_eq, v_ne, v_is, v_isnt, v_t20, v_t21, u_lenL, u_lenT2, beq_self_eq_true, decide_true, Nat.reduceAdd, Nat.reduceLT, Nat.zero_add, Bool.and_self, Bool.and_true, Bool.true_and, u_isT, u_int, u_intB, u_abs, u_neg, u_tupL, u_revT, seq?, setO, assignT, assignTs, isTy, List.getElem?_cons_zero, List.getElem?_cons_succ, Option.join_some, List.set_cons_zero, List.set_cons_succ, List.length_cons, List.length_nil, Res.bind, if_true, if_false, Nat.lt_irrefl, Bool.not_true, Bool.not_false, reduceIte, Bool.false_eq_true, toDs_val, trees_val, m4]
        · simp only [evS, exS, okb, stb, seqS, one, stepE_none, stepE_bl, stepE_int, stepE_str, stepE_var, stepE_glb, stepE_tup, stepE_lst, stepE_op1, stepE_op2, stepE_not, stepE_and, stepE_or, stepE_ite, stepE_chain, stepE_slice, stepE_call, evD, evDs, evArgs, optI, truthE, truth, O.tree, O.toD, O.trees, O.toDs, v_add, v_sub, v_le, v_lt, v_ge, v_gt, v_min, v_max, v_eq, v_ne, v_is, v_isnt, v_t20, v_t21, u_lenL, u_lenT2, beq_self_eq_true, decide_true, Nat.reduceAdd, Nat.reduceLT, Nat.zero_add, Bool.and_self, Bool.and_true, Bool.true_and, u_isT, u_int, u_intB, u_abs, u_neg, u_tupL, u_revT, seq?, setO, assignT, assignTs, isTy, List.getElem?_cons_zero, List.getElem?_cons_succ, Option.join_some, List.set_cons_zero, List.set_cons_succ, List.length_cons, List.length_nil, Res.bind, if_true, if_false, Nat.lt_irrefl, Bool.not_true, Bool.not_false, reduceIte, Bool.false_eq_true, toDs_val, trees_val]
    · refine ⟨ds, y0, ?_, by omega⟩
      refine one_ifF (env1 := E10 ns ds t (some (.val (.int c))) b (some (.val (.int y0)))) ?_ rfl
      simp only [evS, exS, okb, stb, seqS, one, stepE_none, stepE_bl, stepE_int, stepE_str, stepE_var, stepE_glb, stepE_tup, stepE_lst, stepE_op1, stepE_op2, stepE_not, stepE_and, stepE_or, stepE_ite, stepE_chain, stepE_slice, stepE_call, evD, evDs, evArgs, optI, truthE, truth, O.tree, O.toD, O.trees, O.toDs, v_add, v_sub, v_le, v_lt, v_ge, v_gt, v_min, v_max, v_eq, v_ne, v_is, v_isnt, v_t20, v_t21, u_lenL, u_lenT2, beq_self_eq_true, decide_true, Nat.reduceAdd, Nat.reduceLT, Nat.zero_add, Bool.and_self, Bool.and_true, Bool.true_and, u_isT, u_int, u_intB, u_abs, u_neg, u_tupL, u_revT, seq?, setO, assignT, assignTs, isTy, List.getElem?_cons_zero, List.getElem?_cons_succ, Option.join_some, List.set_cons_zero, List.set_cons_succ, List.length_cons, List.length_nil, Res.bind, if_true, if_false, Nat.lt_irrefl, Bool.not_true, Bool.not_false, reduceIte, Bool.false_eq_true, toDs_val, trees_val, v_pow18, decide_eq_false hc]
  obtain ⟨ds2, y2, h2, l2⟩ := key
  obtain ⟨ds3, b3, y3, h3, l3⟩ := q10in (k + 19) ns t (some (.val (.int c))) b y2 ds2 (by omega)
  refine ⟨ds3, t, b3, y3, ?_, Sm_of (by omega) (by omega), by omega⟩
  refine seq_next h2 (seq_next (one_for (items_range (j := 60) (env1 := E10 ns ds2 t (some (.val (.int c))) b (some (.val (.int y2)))) ?_ (by decide) rfl) h3) seq_nil)
  simp only [evS, exS, okb, stb, seqS, one, stepE_none, stepE_bl, stepE_int, stepE_str, stepE_var, stepE_glb, stepE_tup, stepE_lst, stepE_op1, stepE_op2, stepE_not, stepE_and, stepE_or, stepE_ite, stepE_chain, stepE_slice, stepE_call, evD, evDs, evArgs, optI, truthE, truth, O.tree, O.toD, O.trees, O.toDs, v_add, v_sub, v_le, v_lt, v_ge, v_gt, v_min, v_max, v_eq, v_ne, v_is, v_isnt, v_t20, v_t21, u_lenL, u_lenT2, beq_self_eq_true, decide_true, Nat.reduceAdd, Nat.reduceLT, Nat.zero_add, Bool.and_self, Bool.and_true, Bool.true_and, u_isT, u_int, u_intB, u_abs, u_neg, u_tupL, u_revT, seq?, setO, assignT, assignTs, isTy, List.getElem?_cons_zero, List.getElem?_cons_succ, Option.join_some, List.set_cons_zero, List.set_cons_succ, List.length_cons, List.length_nil, Res.bind, if_true, if_false, Nat.lt_irrefl, Bool.not_true, Bool.not_false, reduceIte, Bool.false_eq_true, toDs_val, trees_val]
theorem q10out (k : Nat) (ns : List Int) (hn : ns.length ≤ 63) : ∃ ds s a b y, loopF (exN Tb (k + 40) cell10) (.nm 3) (ns.map .int) (E10 ns [] 11 none none none) = .ok (.next, E10 ns ds s a b y) ∧ Sm s ∧ ds.length ≤ 62 * ns.length := by
  obtain ⟨env', h, ds, s, a, b, y, e, hs, hl⟩ := loop_cnt (body := exN Tb (k + 40) cell10) (t := .nm 3) (fun j env => ∃ ds s a b y, env = E10 ns ds s a b y ∧ Sm s ∧ ds.length + 62 * j ≤ 62 * ns.length) (ds := ns.map .int) (env := E10 ns [] 11 none none none)
    ⟨[], 11, none, none, none, rfl, Sm_of (by decide) (by decide), by rw [List.length_map, List.length_nil]; omega⟩ (by
      rintro v hv j env ⟨ds, s, a, b, y, rfl, hs, hj⟩
      obtain ⟨z, hz, rfl⟩ := List.mem_map.mp hv
      obtain ⟨ds', s', b', y', h, hs', hl⟩ := q10cell k ns z b y s hs ds (by omega)
      exact ⟨E10 ns ds s (some (.val (.int z))) b y, _, rfl, h, _, _, _, _, _, rfl, hs', by omega⟩)
  exact ⟨ds, s, a, b, y, by rw [h, e], hs, by omega⟩
abbrev seed10 : List Ev.S := [(.asg (.nm 2) (.op2 .mod (.op1 .int (.op2 .add (.op2 .mul (.var 2) (.int 48271)) (.int 69621))) (.int 2147483647))), (.app 1 (.op2 .fdiv (.var 2) (.int 5)))]
theorem q10seed (k : Nat) (ns ds : List Int) (a b y : Option O) (s : Int) (hs : Sm s) (hl : ds.length ≤ 5000) : ∃ ds' s' b', loopF (exN Tb (k + 20) seed10) (.nm 4) (rangeD 0 1600) (E10 ns ds s a b y) = .ok (.next, E10 ns ds' s' a b' y) := by
  obtain ⟨env', h, ds', s', b', e, _⟩ := loop_cnt (body := exN Tb (k + 20) seed10) (t := .nm 4) (fun j env => ∃ ds s b, env = E10 ns ds s a b y ∧ Sm s ∧ ds.length + j ≤ 14000) (ds := rangeD 0 1600) (env := E10 ns ds s a b y)
    ⟨ds, s, b, rfl, hs, by unfold rangeD; rw [List.length_map, List.length_range]; omega⟩ (by
      rintro v _ j env ⟨ds, s, b, rfl, hs, hj⟩
      have hf : 0 ≤ (s * 48271 + 69621) % 2147483647 ∧ (s * 48271 + 69621) % 2147483647 < 2147483647 := ⟨Int.emod_nonneg _ (by decide), Int.emod_lt_of_pos _ (by decide)⟩
      have m1 := v_mul (a := s) (b := 48271) hs (Sm_of (by decide) (by decide))
      have m2 := v_mod (a := s * 48271 + 69621) (b := 2147483647) (by decide)
      have m3 := v_fdiv (a := (s * 48271 + 69621) % 2147483647) (b := 5) (by decide) (SmD_of (by decide) (by decide))
      refine ⟨E10 ns ds s a (some (.val v)) y, E10 ns (ds ++ [(s * 48271 + 69621) % 2147483647 / 5]) ((s * 48271 + 69621) % 2147483647) a (some (.val v)) y, rfl, ?_, _, _, _, rfl, Sm_of (by omega) (by omega), by rw [List.length_append, List.length_singleton]; omega⟩
      rw [exS]
      refine seq_next (one_asg (d := .int ((s * 48271 + 69621) % 2147483647)) (env1 := E10 ns ds s a (some (.val v)) y) ?_ (show 2 < 6 by decide)) (seq_next (app_dr (r := (s * 48271 + 69621) % 2147483647 / 5) (ds := ds) rfl ?_ (by omega)) seq_nil)
      · simp only [evS, exS, okb, stb, seqS, one, stepE_none, stepE_bl, stepE_int, stepE_str, stepE_var, stepE_glb, stepE_tup, stepE_lst, stepE_op1, stepE_op2, stepE_not, stepE_and, stepE_or, stepE_ite, stepE_chain, stepE_slice, stepE_call, evD, evDs, evArgs, optI, truthE, truth, O.tree, O.toD, O.trees, O.toDs, v_add, v_sub, v_le, v_lt, v_ge, v_gt, v_min, v_max, v_eq, v_ne, v_is, v_isnt, v_t20, v_t21, u_lenL, u_lenT2, beq_self_eq_true, decide_true, Nat.reduceAdd, Nat.reduceLT, Nat.zero_add, Bool.and_self, Bool.and_true, Bool.true_and, u_isT, u_int, u_intB, u_abs, u_neg, u_tupL, u_revT, seq?, setO, assignT, assignTs, isTy, List.getElem?_cons_zero, List.getElem?_cons_succ, Option.join_some, List.set_cons_zero, List.set_cons_succ, List.length_cons, List.length_nil, Res.bind, if_true, if_false, Nat.lt_irrefl, Bool.not_true, Bool.not_false, reduceIte, Bool.false_eq_true, toDs_val, trees_val, m1, m2]
      · simp only [evS, exS, okb, stb, seqS, one, stepE_none, stepE_bl, stepE_int, stepE_str, stepE_var, stepE_glb, stepE_tup, stepE_lst, stepE_op1, stepE_op2, stepE_not, stepE_and, stepE_or, stepE_ite, stepE_chain, stepE_slice, stepE_call, evD, evDs, evArgs, optI, truthE, truth, O.tree, O.toD, O.trees, O.toDs, v_add, v_sub, v_le, v_lt, v_ge, v_gt, v_min, v_max, v_eq, v_ne, v_is, v_isnt, v_t20, v_t21, u_lenL, u_lenT2, beq_self_eq_true, decide_true, Nat.reduceAdd, Nat.reduceLT, Nat.zero_add, Bool.and_self, Bool.and_true, Bool.true_and, u_isT, u_int, u_intB, u_abs, u_neg, u_tupL, u_revT, seq?, setO, assignT, assignTs, isTy, List.getElem?_cons_zero, List.getElem?_cons_succ, Option.join_some, List.set_cons_zero, List.set_cons_succ, List.length_cons, List.length_nil, Res.bind, if_true, if_false, Nat.lt_irrefl, Bool.not_true, Bool.not_false, reduceIte, Bool.false_eq_true, toDs_val, trees_val, m3])
  exact ⟨ds', s', b', by rw [h, e]⟩
theorem r10 (n : Nat) (ns : List Int) (hn : ns.length ≤ 63) : ∃ ds, callF Tb (exN Tb (n + 60)) 10 [.scr ns] = .ok (dr ds, [some (.scr ns)]) := by
  obtain ⟨ds, s, a, b, y, h1, hs, l1⟩ := q10out (n + 19) ns hn
  obtain ⟨ds', s', b', h3⟩ := q10seed (n + 39) ns ds a b y s hs (by omega)
  refine ⟨ds'.reverse, ?_⟩
  have e : freezeAt (E10 ns ds' s' a b' y) [1] = [some (.scr ns), some (.val (.list (ds'.map .int))), some (.val (.int s')), a, b', y] := by
    show (match some (dr ds') with | some o => if o.tree then setO (E10 ns ds' s' a b' y) 1 (.val o.toD) else E10 ns ds' s' a b' y | none => E10 ns ds' s' a b' y) = _
    unfold dr
    dsimp only
    rw [show O.tree (O.lst ((ds'.map PyData.int).map O.val)) = true from trees_val _, if_pos rfl]
    show setO _ 1 (O.val (PyData.list (O.toDs ((ds'.map PyData.int).map O.val)))) = _
    rw [toDs_val]
    rfl
  have hx : exN Tb (n + 60) f10.body [some (.scr ns), none, none, none, none, none] = .ok (.ret (dr ds'.reverse), [some (.scr ns), some (.val (.list (ds'.map .int))), some (.val (.int s')), a, b', y]) := by
    rw [exS]
    refine seq_next (env1 := [some (.scr ns), some (dr []), none, none, none, none]) rfl (seq_next (env1 := E10 ns [] 11 none none none) rfl (seq_next (one_for (ds := ns.map .int) (env1 := E10 ns [] 11 none none none) rfl h1) (seq_next (one_for (ds := rangeD 0 1600) (env1 := E10 ns ds s a b y) (items_range (j := 1600) ?_ (by decide) rfl) h3) (seq_next (env1 := [some (.scr ns), some (.val (.list (ds'.map .int))), some (.val (.int s')), a, b', y]) (congrArg (fun e => Res.ok (Fl.next, e)) e) (seq_ret ?_)))))
    · simp only [evS, exS, okb, stb, seqS, one, stepE_none, stepE_bl, stepE_int, stepE_str, stepE_var, stepE_glb, stepE_tup, stepE_lst, stepE_op1, stepE_op2, stepE_not, stepE_and, stepE_or, stepE_ite, stepE_chain, stepE_slice, stepE_call, evD, evDs, evArgs, optI, truthE, truth, O.tree, O.toD, O.trees, O.toDs, v_add, v_sub, v_le, v_lt, v_ge, v_gt, v_min, v_max, v_eq, v_ne, v_is, v_isnt, v_t20, v_t21, u_lenL, u_lenT2, beq_self_eq_true, decide_true, Nat.reduceAdd, Nat.reduceLT, Nat.zero_add, Bool.and_self, Bool.and_true, Bool.true_and, u_isT, u_int, u_intB, u_abs, u_neg, u_tupL, u_revT, seq?, setO, assignT, assignTs, isTy, List.getElem?_cons_zero, List.getElem?_cons_succ, Option.join_some, List.set_cons_zero, List.set_cons_succ, List.length_cons, List.length_nil, Res.bind, if_true, if_false, Nat.lt_irrefl, Bool.not_true, Bool.not_false, reduceIte, Bool.false_eq_true, toDs_val, trees_val]
    · have e2 : ev1 .listRev (.list (ds'.map .int)) = some (dr ds'.reverse) := by
        show some (O.lst ((ds'.map PyData.int).reverse.map O.val)) = _
        unfold dr
        simp only [List.map_reverse]
      simp only [evS, exS, okb, stb, seqS, one, stepE_none, stepE_bl, stepE_int, stepE_str, stepE_var, stepE_glb, stepE_tup, stepE_lst, stepE_op1, stepE_op2, stepE_not, stepE_and, stepE_or, stepE_ite, stepE_chain, stepE_slice, stepE_call, evD, evDs, evArgs, optI, truthE, truth, O.tree, O.toD, O.trees, O.toDs, v_add, v_sub, v_le, v_lt, v_ge, v_gt, v_min, v_max, v_eq, v_ne, v_is, v_isnt, v_t20, v_t21, u_lenL, u_lenT2, beq_self_eq_true, decide_true, Nat.reduceAdd, Nat.reduceLT, Nat.zero_add, Bool.and_self, Bool.and_true, Bool.true_and, u_isT, u_int, u_intB, u_abs, u_neg, u_tupL, u_revT, seq?, setO, assignT, assignTs, isTy, List.getElem?_cons_zero, List.getElem?_cons_succ, Option.join_some, List.set_cons_zero, List.set_cons_succ, List.length_cons, List.length_nil, Res.bind, if_true, if_false, Nat.lt_irrefl, Bool.not_true, Bool.not_false, reduceIte, Bool.false_eq_true, toDs_val, trees_val, e2]
  unfold callF
  rw [show Tb.fs[10]? = some f10 from rfl]
  show (exN Tb (n + 60) f10.body [some (.scr ns), none, none, none, none, none]).bind _ = _
  rw [hx]
  rfl
end Hd

end
section
set_option autoImplicit false
set_option linter.all false
set_option maxRecDepth 100000
set_option maxHeartbeats 1000000
namespace Hd
open PySem Ev
/-! what a fault is -/
def isN (u : Int) : D → Bool
  | .int i => decide (0 ≤ i) && decide (i ≤ u)
  | _ => false
def gtD : D → D → Bool
  | .int x, .int y => decide (y < x)
  | _, _ => false
abbrev fWord (k : Int) : D := .tuple [.str "word", .int k]
abbrev fForm (k : Int) : D := .tuple [.str "form", .int k]
abbrev fMin (k : Int) : D := .tuple [.str "minute", .int k]
abbrev fOrd (k : Int) : D := .tuple [.str "order", .int k]
abbrev fMany (k : Int) (c : D) : D := .tuple [.str "many", .int k, c]
def two (u : Int) (a b : D) (k : Int) (e : D) : D := if isN u a && isN u b then (if gtD a b then fOrd k else e) else fMin k
def fl2 (u : Int) (k : Int) : List D → D
  | [a, b] => two u a b k .none
  | _ => fForm k
def fl1 (u : Int) (k : Int) : List D → D
  | [a] => if isN u a then .none else fMin k
  | _ => fForm k
def fl3 (u : Int) (k : Int) : List D → D
  | [c, a, b] => two u a b k (if isN 400 c then .none else fMany k c)
  | _ => fForm k
def flt (u : Int) (w : List D) (k : Int) : D := match w with
  | .str s :: r => if s = "heard" ∨ s = "quiet" then fl2 u k r else if s = "went" ∨ s = "stood" then fl1 u k r else if s = "struck" then fl3 u k r else fWord k
  | _ => fWord k
theorem flt_str (u : Int) (s : Str) (r : List D) (k : Int) : flt u (.str s :: r) k = if s = "heard" ∨ s = "quiet" then fl2 u k r else if s = "went" ∨ s = "stood" then fl1 u k r else if s = "struck" then fl3 u k r else fWord k := rfl
theorem fl2_form {u k : Int} {r : List D} (h : r.length ≠ 2) : fl2 u k r = fForm k := by
  match r, h with
  | [], _ => rfl
  | [_], _ => rfl
  | [_, _], h => exact absurd rfl h
  | _ :: _ :: _ :: _, _ => rfl
theorem fl1_form {u k : Int} {r : List D} (h : r.length ≠ 1) : fl1 u k r = fForm k := by
  match r, h with
  | [], _ => rfl
  | [_], h => exact absurd rfl h
  | _ :: _ :: _, _ => rfl
theorem fl3_form {u k : Int} {r : List D} (h : r.length ≠ 3) : fl3 u k r = fForm k := by
  match r, h with
  | [], _ => rfl
  | [_], _ => rfl
  | [_, _], _ => rfl
  | [_, _, _], h => exact absurd rfl h
  | _ :: _ :: _ :: _ :: _, _ => rfl
theorem str_cases (s : Str) : (s = "heard" ∨ s = "quiet" ∨ s = "went" ∨ s = "stood" ∨ s = "struck") ∨ (gt0.lookup s = none ∧ ∀ u r k, flt u (.str s :: r) k = fWord k) := by
  by_cases h1 : s = "heard"
  · exact .inl (.inl h1)
  by_cases h2 : s = "quiet"
  · exact .inl (.inr (.inl h2))
  by_cases h3 : s = "went"
  · exact .inl (.inr (.inr (.inl h3)))
  by_cases h4 : s = "stood"
  · exact .inl (.inr (.inr (.inr (.inl h4))))
  by_cases h5 : s = "struck"
  · exact .inl (.inr (.inr (.inr (.inr h5))))
  · refine .inr ⟨?_, fun u r k => ?_⟩
    · have e : ∀ a : Str, s ≠ a → (s == a) = false := fun a h => beq_eq_false_iff_ne.mpr h
      unfold gt0
      simp only [List.lookup, e _ h1, e _ h2, e _ h3, e _ h4, e _ h5]
    · rw [flt_str]
      simp only [h1, h2, h3, h4, h5, or_self, if_false]
/-! little ones -/
def isI : D → Bool
  | .int _ => true
  | _ => false
theorem r0 (n : Nat) (d : D) : Ret Tb (n + 5) 0 [.val d] (.val (.bool (isI d))) := by
  cases d <;> exact ⟨_, rfl⟩
theorem r1 (n : Nat) (d : D) (u : Int) : Ret Tb (n + 9) 1 [.val d, .val (.int 0), .val (.int u)] (.val (.bool (isN u d))) := by
  have k := fun m' env => call1 (T := Tb) (n := m' + 5) env (r0 m' d)
  refine ⟨[some (.val d), some (.val (.int 0)), some (.val (.int u))], ?_⟩
  cases d with
  | int i =>
    simp only [callF, List.replicate, Nat.sub_self, List.append_nil, List.map_cons, List.map_nil, show Tb.fs[1]? = some f1 from rfl, f1, evS, exS, okb, stb, seqS, one, stepE_none, stepE_bl, stepE_int, stepE_str, stepE_var, stepE_glb, stepE_tup, stepE_lst, stepE_op1, stepE_op2, stepE_not, stepE_and, stepE_or, stepE_ite, stepE_chain, stepE_slice, stepE_call, evD, evDs, evArgs, optI, truthE, truth, O.tree, O.toD, O.trees, O.toDs, v_add, v_sub, v_le, v_lt, v_ge, v_gt, v_min, v_max, v_eq, v_ne, v_is, v_isnt, v_t20, v_t21, u_lenL, u_lenT2, beq_self_eq_true, decide_true, Nat.reduceAdd, Nat.reduceLT, Nat.zero_add, Bool.and_self, Bool.and_true, Bool.true_and, u_isT, u_int, u_intB, u_abs, u_neg, u_tupL, u_revT, seq?, setO, assignT, assignTs, isTy, List.getElem?_cons_zero, List.getElem?_cons_succ, Option.join_some, List.set_cons_zero, List.set_cons_succ, List.length_cons, List.length_nil, Res.bind, if_true, if_false, Nat.lt_irrefl, Bool.not_true, Bool.not_false, reduceIte, Bool.false_eq_true, toDs_val, trees_val, k, isI, isN]
    by_cases h : 0 ≤ i
    · simp only [h, decide_true, Bool.true_and]; rfl
    · simp only [h, decide_false, Bool.false_and]; rfl
  | _ => simp only [callF, List.replicate, Nat.sub_self, List.append_nil, List.map_cons, List.map_nil, show Tb.fs[1]? = some f1 from rfl, f1, evS, exS, okb, stb, seqS, one, stepE_none, stepE_bl, stepE_int, stepE_str, stepE_var, stepE_glb, stepE_tup, stepE_lst, stepE_op1, stepE_op2, stepE_not, stepE_and, stepE_or, stepE_ite, stepE_chain, stepE_slice, stepE_call, evD, evDs, evArgs, optI, truthE, truth, O.tree, O.toD, O.trees, O.toDs, v_add, v_sub, v_le, v_lt, v_ge, v_gt, v_min, v_max, v_eq, v_ne, v_is, v_isnt, v_t20, v_t21, u_lenL, u_lenT2, beq_self_eq_true, decide_true, Nat.reduceAdd, Nat.reduceLT, Nat.zero_add, Bool.and_self, Bool.and_true, Bool.true_and, u_isT, u_int, u_intB, u_abs, u_neg, u_tupL, u_revT, seq?, setO, assignT, assignTs, isTy, List.getElem?_cons_zero, List.getElem?_cons_succ, Option.join_some, List.set_cons_zero, List.set_cons_succ, List.length_cons, List.length_nil, Res.bind, if_true, if_false, Nat.lt_irrefl, Bool.not_true, Bool.not_false, reduceIte, Bool.false_eq_true, toDs_val, trees_val, k, isI, isN]; rfl
theorem r15 (n : Nat) (d : D) (u : Int) : Ret Tb (n + 9) 15 [.val d, .val (.int u)] (.val (.bool (isN u d))) := by
  refine ⟨[some (.val d), some (.val (.int u))], ?_⟩
  cases d with
  | int i =>
    simp only [callF, List.replicate, Nat.sub_self, List.append_nil, List.map_cons, List.map_nil, show Tb.fs[15]? = some f15 from rfl, f15, evS, exS, okb, stb, seqS, one, stepE_none, stepE_bl, stepE_int, stepE_str, stepE_var, stepE_glb, stepE_tup, stepE_lst, stepE_op1, stepE_op2, stepE_not, stepE_and, stepE_or, stepE_ite, stepE_chain, stepE_slice, stepE_call, evD, evDs, evArgs, optI, truthE, truth, O.tree, O.toD, O.trees, O.toDs, v_add, v_sub, v_le, v_lt, v_ge, v_gt, v_min, v_max, v_eq, v_ne, v_is, v_isnt, v_t20, v_t21, u_lenL, u_lenT2, beq_self_eq_true, decide_true, Nat.reduceAdd, Nat.reduceLT, Nat.zero_add, Bool.and_self, Bool.and_true, Bool.true_and, u_isT, u_int, u_intB, u_abs, u_neg, u_tupL, u_revT, seq?, setO, assignT, assignTs, isTy, List.getElem?_cons_zero, List.getElem?_cons_succ, Option.join_some, List.set_cons_zero, List.set_cons_succ, List.length_cons, List.length_nil, Res.bind, if_true, if_false, Nat.lt_irrefl, Bool.not_true, Bool.not_false, reduceIte, Bool.false_eq_true, toDs_val, trees_val, isN, show (Ty.int == Ty.int) = true from rfl, show (Ty.bool == Ty.int) = false from rfl]
    by_cases h : 0 ≤ i
    · simp only [h, decide_true, Bool.true_and]; rfl
    · simp only [h, decide_false, Bool.false_and]; rfl
  | bool b => simp only [callF, List.replicate, Nat.sub_self, List.append_nil, List.map_cons, List.map_nil, show Tb.fs[15]? = some f15 from rfl, f15, evS, exS, okb, stb, seqS, one, stepE_none, stepE_bl, stepE_int, stepE_str, stepE_var, stepE_glb, stepE_tup, stepE_lst, stepE_op1, stepE_op2, stepE_not, stepE_and, stepE_or, stepE_ite, stepE_chain, stepE_slice, stepE_call, evD, evDs, evArgs, optI, truthE, truth, O.tree, O.toD, O.trees, O.toDs, v_add, v_sub, v_le, v_lt, v_ge, v_gt, v_min, v_max, v_eq, v_ne, v_is, v_isnt, v_t20, v_t21, u_lenL, u_lenT2, beq_self_eq_true, decide_true, Nat.reduceAdd, Nat.reduceLT, Nat.zero_add, Bool.and_self, Bool.and_true, Bool.true_and, u_isT, u_int, u_intB, u_abs, u_neg, u_tupL, u_revT, seq?, setO, assignT, assignTs, isTy, List.getElem?_cons_zero, List.getElem?_cons_succ, Option.join_some, List.set_cons_zero, List.set_cons_succ, List.length_cons, List.length_nil, Res.bind, if_true, if_false, Nat.lt_irrefl, Bool.not_true, Bool.not_false, reduceIte, Bool.false_eq_true, toDs_val, trees_val, isN, show (Ty.int == Ty.bool) = false from rfl, show (Ty.int == Ty.int) = true from rfl, show (Ty.bool == Ty.bool) = true from rfl, Bool.or_true, Bool.true_or]; rfl
  | _ => exact rfl
theorem r2t (n : Nat) : Ret Tb (n + 5) 2 [.val (.bool true)] (.val .none) := ⟨_, rfl⟩
theorem r2f (n : Nat) : callF Tb (exN Tb (n + 5)) 2 [.val (.bool false)] = .err 1 := rfl
theorem v_eqS (x y : Str) : ev2 .eq (.str x) (.str y) = some (.val (.bool (decide (x = y)))) := v_eqA x y (by decide)
theorem v_neS (x y : Str) : ev2 .ne (.str x) (.str y) = some (.val (.bool (!decide (x = y)))) := v_neA x y (by decide)
theorem ixT {xs : List D} {i : Nat} {x : D} (h : xs[i]? = some x) : ev2 .idx (.tuple xs) (.int (i : Int)) = some (.val x) := by
  show (atD xs _).map _ = _
  unfold atD
  rw [L2.atI_nat h]; rfl
theorem ixL {xs : List D} {i : Nat} {x : D} (h : xs[i]? = some x) : ev2 .idx (.list xs) (.int (i : Int)) = some (.val x) := by
  show (atD xs _).map _ = _
  unfold atD
  rw [L2.atI_nat h]; rfl
theorem ix0 (d : D) (r : List D) : ev2 .idx (.tuple (d :: r)) (.int 0) = some (.val d) := ixT (xs := d :: r) (i := 0) rfl
theorem cut1 (d : D) (r : List D) : slice1 (.tuple (d :: r)) (some 1) none = some (.val (.tuple r)) := by
  show some (O.val (.tuple (cutD (d :: r) (some 1) none))) = _
  unfold cutD
  have e1 : _root_.HT.sIx (d :: r).length 0 (some 1) = 1 := by
    unfold _root_.HT.sIx
    simp
  have e2 : _root_.HT.sIx (d :: r).length (d :: r).length none = (d :: r).length := rfl
  rw [e1, e2]
  simp
theorem cut2 (d e : D) (r : List D) : slice1 (.tuple (d :: e :: r)) (some 2) none = some (.val (.tuple r)) := by
  show some (O.val (.tuple (cutD (d :: e :: r) (some 2) none))) = _
  unfold cutD
  have e1 : _root_.HT.sIx (d :: e :: r).length 0 (some 2) = 2 := by
    unfold _root_.HT.sIx
    simp
  have e2 : _root_.HT.sIx (d :: e :: r).length (d :: e :: r).length none = (d :: e :: r).length := rfl
  rw [e1, e2]
  simp
theorem all3 (m : Nat) (u : Int) (x : D) (r : List D) (hl : r.length ≤ 100) : stepE Tb (evN Tb (m + 18)) (exN Tb (m + 18)) (.comp (.call 1 [(.var 3), (.int 0), (.var 0)]) (.nm 3) (.seq (.var 2)) none) [some (.val (.int u)), some (.val x), some (.val (.tuple r)), none] = .ok (.lst ((r.map fun d => PyData.bool (isN u d)).map .val), [some (.val (.int u)), some (.val x), some (.val (.tuple r)), none]) := by
  have k := fun m' d env => call3 (T := Tb) (n := m' + 9) env (r1 m' d u)
  exact compM (fun d => d) r (fun d => [some (.val (.int u)), some (.val x), some (.val (.tuple r)), some (.val d)]) (fun d => .bool (isN u d)) (by rw [List.map_id']; exact items_seqT rfl) (most_ok (by omega)) rfl (fun d _ => ⟨rfl, rfl⟩) fun d _ => by simp only [evS, exS, okb, stb, seqS, one, stepE_none, stepE_bl, stepE_int, stepE_str, stepE_var, stepE_glb, stepE_tup, stepE_lst, stepE_op1, stepE_op2, stepE_not, stepE_and, stepE_or, stepE_ite, stepE_chain, stepE_slice, stepE_call, evD, evDs, evArgs, optI, truthE, truth, O.tree, O.toD, O.trees, O.toDs, v_add, v_sub, v_le, v_lt, v_ge, v_gt, v_min, v_max, v_eq, v_ne, v_is, v_isnt, v_t20, v_t21, u_lenL, u_lenT2, beq_self_eq_true, decide_true, Nat.reduceAdd, Nat.reduceLT, Nat.zero_add, Bool.and_self, Bool.and_true, Bool.true_and, u_isT, u_int, u_intB, u_abs, u_neg, u_tupL, u_revT, seq?, setO, assignT, assignTs, isTy, List.getElem?_cons_zero, List.getElem?_cons_succ, Option.join_some, List.set_cons_zero, List.set_cons_succ, List.length_cons, List.length_nil, Res.bind, if_true, if_false, Nat.lt_irrefl, Bool.not_true, Bool.not_false, reduceIte, Bool.false_eq_true, toDs_val, trees_val, k]
theorem r3 (n : Nat) (u : Int) (s : Str) (hs : s ≠ "struck") (r : List D) (hl : r.length ≤ 100) : Ret Tb (n + 30) 3 [.val (.int u), .val (.tuple (.str s :: r))] (.val (.bool (r.all (isN u)))) := by
  have ha := fun m => all3 m u (.tuple (.str s :: r)) r hl
  refine ⟨[some (.val (.int u)), some (.val (.tuple (.str s :: r)))], ?_⟩
  have e : (!decide (s = "struck")) = true := by rw [decide_eq_false hs]; rfl
  simp only [callF, List.replicate, Nat.sub_self, List.append_nil, List.map_cons, List.map_nil, show Tb.fs[3]? = some f3 from rfl, f3, evS, exS, okb, stb, seqS, one, stepE_none, stepE_bl, stepE_int, stepE_str, stepE_var, stepE_glb, stepE_tup, stepE_lst, stepE_op1, stepE_op2, stepE_not, stepE_and, stepE_or, stepE_ite, stepE_chain, stepE_slice, stepE_call, evD, evDs, evArgs, optI, truthE, truth, O.tree, O.toD, O.trees, O.toDs, v_add, v_sub, v_le, v_lt, v_ge, v_gt, v_min, v_max, v_eq, v_ne, v_is, v_isnt, v_t20, v_t21, u_lenL, u_lenT2, beq_self_eq_true, decide_true, Nat.reduceAdd, Nat.reduceLT, Nat.zero_add, Bool.and_self, Bool.and_true, Bool.true_and, u_isT, u_int, u_intB, u_abs, u_neg, u_tupL, u_revT, seq?, setO, assignT, assignTs, isTy, List.getElem?_cons_zero, List.getElem?_cons_succ, Option.join_some, List.set_cons_zero, List.set_cons_succ, List.length_cons, List.length_nil, Res.bind, if_true, if_false, Nat.lt_irrefl, Bool.not_true, Bool.not_false, reduceIte, Bool.false_eq_true, toDs_val, trees_val, ix0, v_neS, e, cut1, ha, u_all, show 4 - 2 = 2 from rfl, List.cons_append, List.nil_append]
  rfl
theorem r3s (n : Nat) (u : Int) (c : D) (r : List D) (hl : r.length ≤ 100) : Ret Tb (n + 30) 3 [.val (.int u), .val (.tuple (.str "struck" :: c :: r))] (.val (.bool (r.all (isN u)))) := by
  have ha := fun m => all3 m u (.tuple (.str "struck" :: c :: r)) r hl
  refine ⟨[some (.val (.int u)), some (.val (.tuple (.str "struck" :: c :: r)))], ?_⟩
  simp only [callF, List.replicate, Nat.sub_self, List.append_nil, List.map_cons, List.map_nil, show Tb.fs[3]? = some f3 from rfl, f3, evS, exS, okb, stb, seqS, one, stepE_none, stepE_bl, stepE_int, stepE_str, stepE_var, stepE_glb, stepE_tup, stepE_lst, stepE_op1, stepE_op2, stepE_not, stepE_and, stepE_or, stepE_ite, stepE_chain, stepE_slice, stepE_call, evD, evDs, evArgs, optI, truthE, truth, O.tree, O.toD, O.trees, O.toDs, v_add, v_sub, v_le, v_lt, v_ge, v_gt, v_min, v_max, v_eq, v_ne, v_is, v_isnt, v_t20, v_t21, u_lenL, u_lenT2, beq_self_eq_true, decide_true, Nat.reduceAdd, Nat.reduceLT, Nat.zero_add, Bool.and_self, Bool.and_true, Bool.true_and, u_isT, u_int, u_intB, u_abs, u_neg, u_tupL, u_revT, seq?, setO, assignT, assignTs, isTy, List.getElem?_cons_zero, List.getElem?_cons_succ, Option.join_some, List.set_cons_zero, List.set_cons_succ, List.length_cons, List.length_nil, Res.bind, if_true, if_false, Nat.lt_irrefl, Bool.not_true, Bool.not_false, reduceIte, Bool.false_eq_true, toDs_val, trees_val, ix0, v_neS, cut2, ha, u_all, show 4 - 2 = 2 from rfl, List.cons_append, List.nil_append]
  rfl
end Hd

end
section
set_option autoImplicit false
set_option linter.all false
set_option maxRecDepth 100000
set_option maxHeartbeats 1000000
namespace Hd
open PySem Ev
theorem mo2 : (0 + 1 + 1 ≤ most) = True := eq_true (by decide)
theorem mo2' : (1 + 1 ≤ most) = True := eq_true (by decide)
theorem mo2'' : (2 ≤ most) = True := eq_true (by decide)
theorem mo3 : (0 + 1 + 1 + 1 ≤ most) = True := eq_true (by decide)
theorem mo3' : (1 + 1 + 1 ≤ most) = True := eq_true (by decide)
theorem mo3'' : (3 ≤ most) = True := eq_true (by decide)
theorem isN_int {u : Int} {d : D} (h : isN u d = true) : ∃ i, d = .int i ∧ 0 ≤ i ∧ i ≤ u := by
  cases d with
  | int i =>
    have h : (decide (0 ≤ i) && decide (i ≤ u)) = true := h
    rw [Bool.and_eq_true, decide_eq_true_eq, decide_eq_true_eq] at h
    exact ⟨i, rfl, h.1, h.2⟩
  | _ => cases h
theorem isS (s : Str) : ev1 (.isT .str) (.str s) = some (.val (.bool true)) := rfl
theorem gd0 : Tb.gd[0]? = some gt0 := rfl
theorem gd1 : Tb.gd[1]? = some gt1 := rfl
theorem gt01 : gt1 = gt0 := rfl
theorem sS : (Ty.str == Ty.str) = true := rfl
theorem nz (k : Nat) : (((k + 1 : Nat) : Int) == 0) = false := by rw [beq_eq_false_iff_ne]; omega
section
variable (n : Nat) (u k : Int)
theorem r4nil : Ret Tb (n + 50) 4 [.val (.int u), .val (.tuple []), .val (.int k)] (.val (fWord k)) := by
  refine ⟨[some (.val (.int u)), some (.val (.tuple [])), some (.val (.int k))], ?_⟩
  simp only [callF, List.replicate, Nat.sub_self, List.append_nil, List.map_cons, List.map_nil, show Tb.fs[4]? = some f4 from rfl, f4, evS, exS, okb, stb, seqS, one, stepE_none, stepE_bl, stepE_int, stepE_str, stepE_var, stepE_glb, stepE_tup, stepE_lst, stepE_op1, stepE_op2, stepE_not, stepE_and, stepE_or, stepE_ite, stepE_chain, stepE_slice, stepE_call, evD, evDs, evArgs, optI, truthE, truth, O.tree, O.toD, O.trees, O.toDs, v_add, v_sub, v_le, v_lt, v_ge, v_gt, v_min, v_max, v_eq, v_ne, v_is, v_isnt, v_t20, v_t21, u_lenL, u_lenT2, beq_self_eq_true, decide_true, Nat.reduceAdd, Nat.reduceLT, Nat.zero_add, Bool.and_self, Bool.and_true, Bool.true_and, u_isT, u_int, u_intB, u_abs, u_neg, u_tupL, u_revT, seq?, setO, assignT, assignTs, isTy, List.getElem?_cons_zero, List.getElem?_cons_succ, Option.join_some, List.set_cons_zero, List.set_cons_succ, List.length_cons, List.length_nil, Res.bind, if_true, if_false, Nat.lt_irrefl, Bool.not_true, Bool.not_false, reduceIte, Bool.false_eq_true, toDs_val, trees_val, u_lenT, show (((0 : Nat) : Int) == 0) = true from rfl, mo2, mo2', mo2'']
  rfl
theorem r4odd (d : D) (r : List D) (hd : isTy .str d = false) : Ret Tb (n + 50) 4 [.val (.int u), .val (.tuple (d :: r)), .val (.int k)] (.val (fWord k)) := by
  refine ⟨[some (.val (.int u)), some (.val (.tuple (d :: r))), some (.val (.int k))], ?_⟩
  have t1 : (Ty.str == Ty.int) = false := rfl
  have t2 : (Ty.str == Ty.bool) = false := rfl
  have t3 : (Ty.str == Ty.list) = false := rfl
  have t4 : (Ty.str == Ty.tuple) = false := rfl
  have t5 : (Ty.str == Ty.dict) = false := rfl
  cases d with
  | str s => cases hd
  | _ =>
    simp only [callF, List.replicate, Nat.sub_self, List.append_nil, List.map_cons, List.map_nil, show Tb.fs[4]? = some f4 from rfl, f4, evS, exS, okb, stb, seqS, one, stepE_none, stepE_bl, stepE_int, stepE_str, stepE_var, stepE_glb, stepE_tup, stepE_lst, stepE_op1, stepE_op2, stepE_not, stepE_and, stepE_or, stepE_ite, stepE_chain, stepE_slice, stepE_call, evD, evDs, evArgs, optI, truthE, truth, O.tree, O.toD, O.trees, O.toDs, v_add, v_sub, v_le, v_lt, v_ge, v_gt, v_min, v_max, v_eq, v_ne, v_is, v_isnt, v_t20, v_t21, u_lenL, u_lenT2, beq_self_eq_true, decide_true, Nat.reduceAdd, Nat.reduceLT, Nat.zero_add, Bool.and_self, Bool.and_true, Bool.true_and, u_isT, u_int, u_intB, u_abs, u_neg, u_tupL, u_revT, seq?, setO, assignT, assignTs, isTy, List.getElem?_cons_zero, List.getElem?_cons_succ, Option.join_some, List.set_cons_zero, List.set_cons_succ, List.length_cons, List.length_nil, Res.bind, if_true, if_false, Nat.lt_irrefl, Bool.not_true, Bool.not_false, reduceIte, Bool.false_eq_true, toDs_val, trees_val, u_lenT, nz, ix0, t1, t2, t3, t4, t5, Bool.or_false, mo2, mo2', mo2'']
    rfl
theorem r4none (s : Str) (r : List D) (h : gt0.lookup s = none) : Ret Tb (n + 50) 4 [.val (.int u), .val (.tuple (.str s :: r)), .val (.int k)] (.val (fWord k)) := by
  refine ⟨[some (.val (.int u)), some (.val (.tuple (.str s :: r))), some (.val (.int k))], ?_⟩
  simp only [callF, List.replicate, Nat.sub_self, List.append_nil, List.map_cons, List.map_nil, show Tb.fs[4]? = some f4 from rfl, f4, evS, exS, okb, stb, seqS, one, stepE_none, stepE_bl, stepE_int, stepE_str, stepE_var, stepE_glb, stepE_tup, stepE_lst, stepE_op1, stepE_op2, stepE_not, stepE_and, stepE_or, stepE_ite, stepE_chain, stepE_slice, stepE_call, evD, evDs, evArgs, optI, truthE, truth, O.tree, O.toD, O.trees, O.toDs, v_add, v_sub, v_le, v_lt, v_ge, v_gt, v_min, v_max, v_eq, v_ne, v_is, v_isnt, v_t20, v_t21, u_lenL, u_lenT2, beq_self_eq_true, decide_true, Nat.reduceAdd, Nat.reduceLT, Nat.zero_add, Bool.and_self, Bool.and_true, Bool.true_and, u_isT, u_int, u_intB, u_abs, u_neg, u_tupL, u_revT, seq?, setO, assignT, assignTs, isTy, List.getElem?_cons_zero, List.getElem?_cons_succ, Option.join_some, List.set_cons_zero, List.set_cons_succ, List.length_cons, List.length_nil, Res.bind, if_true, if_false, Nat.lt_irrefl, Bool.not_true, Bool.not_false, reduceIte, Bool.false_eq_true, toDs_val, trees_val, u_lenT, nz, ix0, sS, stepE_inG, gd0, h, Option.isSome_none, mo2, mo2', mo2'']
  rfl
theorem r4form (s : Str) (r : List D) (z : Int) (h : gt0.lookup s = some z) (hr : ((r.length + 1 : Nat) : Int) ≠ z) : Ret Tb (n + 50) 4 [.val (.int u), .val (.tuple (.str s :: r)), .val (.int k)] (.val (fForm k)) := by
  refine ⟨[some (.val (.int u)), some (.val (.tuple (.str s :: r))), some (.val (.int k))], ?_⟩
  have e : (((r.length + 1 : Nat) : Int) == z) = false := beq_eq_false_iff_ne.mpr hr
  simp only [callF, List.replicate, Nat.sub_self, List.append_nil, List.map_cons, List.map_nil, show Tb.fs[4]? = some f4 from rfl, f4, evS, exS, okb, stb, seqS, one, stepE_none, stepE_bl, stepE_int, stepE_str, stepE_var, stepE_glb, stepE_tup, stepE_lst, stepE_op1, stepE_op2, stepE_not, stepE_and, stepE_or, stepE_ite, stepE_chain, stepE_slice, stepE_call, evD, evDs, evArgs, optI, truthE, truth, O.tree, O.toD, O.trees, O.toDs, v_add, v_sub, v_le, v_lt, v_ge, v_gt, v_min, v_max, v_eq, v_ne, v_is, v_isnt, v_t20, v_t21, u_lenL, u_lenT2, beq_self_eq_true, decide_true, Nat.reduceAdd, Nat.reduceLT, Nat.zero_add, Bool.and_self, Bool.and_true, Bool.true_and, u_isT, u_int, u_intB, u_abs, u_neg, u_tupL, u_revT, seq?, setO, assignT, assignTs, isTy, List.getElem?_cons_zero, List.getElem?_cons_succ, Option.join_some, List.set_cons_zero, List.set_cons_succ, List.length_cons, List.length_nil, Res.bind, if_true, if_false, Nat.lt_irrefl, Bool.not_true, Bool.not_false, reduceIte, Bool.false_eq_true, toDs_val, trees_val, u_lenT, nz, ix0, sS, stepE_inG, stepE_ixG, gd0, h, e, Option.isSome_some, mo2, mo2', mo2'']
  rfl
theorem gt_int (x y : Int) : gtD (.int x) (.int y) = decide (y < x) := rfl
theorem all2 (a b : D) : [a, b].all (isN u) = (isN u a && isN u b) := by simp only [List.all_cons, List.all_nil, Bool.and_true]
theorem r4two (s : Str) (h : gt0.lookup s = some 3) (hs : s ≠ "struck") (a b : D) : Ret Tb (n + 50) 4 [.val (.int u), .val (.tuple [.str s, a, b]), .val (.int k)] (.val (two u a b k .none)) := by
  refine ⟨[some (.val (.int u)), some (.val (.tuple [.str s, a, b])), some (.val (.int k))], ?_⟩
  have hq := fun m' env => call2 (T := Tb) (n := m' + 30) env (r3 m' u s hs [a, b] (show 2 ≤ 100 by decide))
  have e : decide (s = "struck") = false := decide_eq_false hs
  have l3 : (((2 + 1 : Nat) : Int) == 3) = true := rfl
  have l3' : (((3 : Nat) : Int) == 3) = true := rfl
  have g3 : (2 < ((3 : Nat) : Int)) = True := eq_true (by decide)
  have g3' : (2 < ((2 + 1 : Nat) : Int)) = True := eq_true (by decide)
  rw [all2] at hq
  by_cases c : (isN u a && isN u b) = true
  · obtain ⟨c1, c2⟩ := Bool.and_eq_true_iff.mp c
    obtain ⟨x, rfl, _, _⟩ := isN_int c1
    obtain ⟨y, rfl, _, _⟩ := isN_int c2
    have i1 : ev2 .idx (.tuple [.str s, .int x, .int y]) (.int (-2)) = some (.val (.int x)) := rfl
    have i2 : ev2 .idx (.tuple [.str s, .int x, .int y]) (.int (-1)) = some (.val (.int y)) := rfl
    rw [c] at hq
    unfold two
    rw [if_pos c, gt_int]
    by_cases q : y < x
    · have q2 : decide True = true := rfl
      simp only [callF, List.replicate, Nat.sub_self, List.append_nil, List.map_cons, List.map_nil, show Tb.fs[4]? = some f4 from rfl, f4, evS, exS, okb, stb, seqS, one, stepE_none, stepE_bl, stepE_int, stepE_str, stepE_var, stepE_glb, stepE_tup, stepE_lst, stepE_op1, stepE_op2, stepE_not, stepE_and, stepE_or, stepE_ite, stepE_chain, stepE_slice, stepE_call, evD, evDs, evArgs, optI, truthE, truth, O.tree, O.toD, O.trees, O.toDs, v_add, v_sub, v_le, v_lt, v_ge, v_gt, v_min, v_max, v_eq, v_ne, v_is, v_isnt, v_t20, v_t21, u_lenL, u_lenT2, beq_self_eq_true, decide_true, Nat.reduceAdd, Nat.reduceLT, Nat.zero_add, Bool.and_self, Bool.and_true, Bool.true_and, u_isT, u_int, u_intB, u_abs, u_neg, u_tupL, u_revT, seq?, setO, assignT, assignTs, isTy, List.getElem?_cons_zero, List.getElem?_cons_succ, Option.join_some, List.set_cons_zero, List.set_cons_succ, List.length_cons, List.length_nil, Res.bind, if_true, if_false, Nat.lt_irrefl, Bool.not_true, Bool.not_false, reduceIte, Bool.false_eq_true, toDs_val, trees_val, u_lenT, nz, ix0, sS, stepE_inG, stepE_ixG, gd0, h, e, Option.isSome_some, hq, l3, l3', g3, g3', i1, i2, q, q2, mo2, mo2', mo2'']
      rfl
    · have q2 : decide False = false := rfl
      simp only [callF, List.replicate, Nat.sub_self, List.append_nil, List.map_cons, List.map_nil, show Tb.fs[4]? = some f4 from rfl, f4, evS, exS, okb, stb, seqS, one, stepE_none, stepE_bl, stepE_int, stepE_str, stepE_var, stepE_glb, stepE_tup, stepE_lst, stepE_op1, stepE_op2, stepE_not, stepE_and, stepE_or, stepE_ite, stepE_chain, stepE_slice, stepE_call, evD, evDs, evArgs, optI, truthE, truth, O.tree, O.toD, O.trees, O.toDs, v_add, v_sub, v_le, v_lt, v_ge, v_gt, v_min, v_max, v_eq, v_ne, v_is, v_isnt, v_t20, v_t21, u_lenL, u_lenT2, beq_self_eq_true, decide_true, Nat.reduceAdd, Nat.reduceLT, Nat.zero_add, Bool.and_self, Bool.and_true, Bool.true_and, u_isT, u_int, u_intB, u_abs, u_neg, u_tupL, u_revT, seq?, setO, assignT, assignTs, isTy, List.getElem?_cons_zero, List.getElem?_cons_succ, Option.join_some, List.set_cons_zero, List.set_cons_succ, List.length_cons, List.length_nil, Res.bind, if_true, if_false, Nat.lt_irrefl, Bool.not_true, Bool.not_false, reduceIte, Bool.false_eq_true, toDs_val, trees_val, u_lenT, nz, ix0, sS, stepE_inG, stepE_ixG, gd0, h, e, v_eqS, Option.isSome_some, hq, l3, l3', g3, g3', i1, i2, q, q2, mo2, mo2', mo2'']
      rfl
  · unfold two
    have c := eq_false_of_ne_true c
    rw [c] at hq ⊢
    simp only [callF, List.replicate, Nat.sub_self, List.append_nil, List.map_cons, List.map_nil, show Tb.fs[4]? = some f4 from rfl, f4, evS, exS, okb, stb, seqS, one, stepE_none, stepE_bl, stepE_int, stepE_str, stepE_var, stepE_glb, stepE_tup, stepE_lst, stepE_op1, stepE_op2, stepE_not, stepE_and, stepE_or, stepE_ite, stepE_chain, stepE_slice, stepE_call, evD, evDs, evArgs, optI, truthE, truth, O.tree, O.toD, O.trees, O.toDs, v_add, v_sub, v_le, v_lt, v_ge, v_gt, v_min, v_max, v_eq, v_ne, v_is, v_isnt, v_t20, v_t21, u_lenL, u_lenT2, beq_self_eq_true, decide_true, Nat.reduceAdd, Nat.reduceLT, Nat.zero_add, Bool.and_self, Bool.and_true, Bool.true_and, u_isT, u_int, u_intB, u_abs, u_neg, u_tupL, u_revT, seq?, setO, assignT, assignTs, isTy, List.getElem?_cons_zero, List.getElem?_cons_succ, Option.join_some, List.set_cons_zero, List.set_cons_succ, List.length_cons, List.length_nil, Res.bind, if_true, if_false, Nat.lt_irrefl, Bool.not_true, Bool.not_false, reduceIte, Bool.false_eq_true, toDs_val, trees_val, u_lenT, nz, ix0, sS, stepE_inG, stepE_ixG, gd0, h, e, Option.isSome_some, hq, l3, l3', mo2, mo2', mo2'']
    rfl
theorem r4one (s : Str) (h : gt0.lookup s = some 2) (hs : s ≠ "struck") (a : D) : Ret Tb (n + 50) 4 [.val (.int u), .val (.tuple [.str s, a]), .val (.int k)] (.val (fl1 u k [a])) := by
  refine ⟨[some (.val (.int u)), some (.val (.tuple [.str s, a])), some (.val (.int k))], ?_⟩
  have hq := fun m' env => call2 (T := Tb) (n := m' + 30) env (r3 m' u s hs [a] (show 1 ≤ 100 by decide))
  have e : decide (s = "struck") = false := decide_eq_false hs
  have l3 : (((1 + 1 : Nat) : Int) == 2) = true := rfl
  have l3' : (((2 : Nat) : Int) == 2) = true := rfl
  have g3 : (2 < ((2 : Nat) : Int)) = False := eq_false (by decide)
  have g3' : (2 < ((1 + 1 : Nat) : Int)) = False := eq_false (by decide)
  have d0 : decide False = false := rfl
  rw [show [a].all (isN u) = isN u a by simp only [List.all_cons, List.all_nil, Bool.and_true]] at hq
  rw [show fl1 u k [a] = if isN u a then .none else fMin k from rfl]
  cases c : isN u a with
  | true =>
    rw [c] at hq
    simp only [callF, List.replicate, Nat.sub_self, List.append_nil, List.map_cons, List.map_nil, show Tb.fs[4]? = some f4 from rfl, f4, evS, exS, okb, stb, seqS, one, stepE_none, stepE_bl, stepE_int, stepE_str, stepE_var, stepE_glb, stepE_tup, stepE_lst, stepE_op1, stepE_op2, stepE_not, stepE_and, stepE_or, stepE_ite, stepE_chain, stepE_slice, stepE_call, evD, evDs, evArgs, optI, truthE, truth, O.tree, O.toD, O.trees, O.toDs, v_add, v_sub, v_le, v_lt, v_ge, v_gt, v_min, v_max, v_eq, v_ne, v_is, v_isnt, v_t20, v_t21, u_lenL, u_lenT2, beq_self_eq_true, decide_true, Nat.reduceAdd, Nat.reduceLT, Nat.zero_add, Bool.and_self, Bool.and_true, Bool.true_and, u_isT, u_int, u_intB, u_abs, u_neg, u_tupL, u_revT, seq?, setO, assignT, assignTs, isTy, List.getElem?_cons_zero, List.getElem?_cons_succ, Option.join_some, List.set_cons_zero, List.set_cons_succ, List.length_cons, List.length_nil, Res.bind, if_true, if_false, Nat.lt_irrefl, Bool.not_true, Bool.not_false, reduceIte, Bool.false_eq_true, toDs_val, trees_val, u_lenT, nz, ix0, sS, stepE_inG, stepE_ixG, gd0, h, e, v_eqS, Option.isSome_some, hq, l3, l3', g3, g3', d0, mo2, mo2', mo2'']
    rfl
  | false =>
    rw [c] at hq
    simp only [callF, List.replicate, Nat.sub_self, List.append_nil, List.map_cons, List.map_nil, show Tb.fs[4]? = some f4 from rfl, f4, evS, exS, okb, stb, seqS, one, stepE_none, stepE_bl, stepE_int, stepE_str, stepE_var, stepE_glb, stepE_tup, stepE_lst, stepE_op1, stepE_op2, stepE_not, stepE_and, stepE_or, stepE_ite, stepE_chain, stepE_slice, stepE_call, evD, evDs, evArgs, optI, truthE, truth, O.tree, O.toD, O.trees, O.toDs, v_add, v_sub, v_le, v_lt, v_ge, v_gt, v_min, v_max, v_eq, v_ne, v_is, v_isnt, v_t20, v_t21, u_lenL, u_lenT2, beq_self_eq_true, decide_true, Nat.reduceAdd, Nat.reduceLT, Nat.zero_add, Bool.and_self, Bool.and_true, Bool.true_and, u_isT, u_int, u_intB, u_abs, u_neg, u_tupL, u_revT, seq?, setO, assignT, assignTs, isTy, List.getElem?_cons_zero, List.getElem?_cons_succ, Option.join_some, List.set_cons_zero, List.set_cons_succ, List.length_cons, List.length_nil, Res.bind, if_true, if_false, Nat.lt_irrefl, Bool.not_true, Bool.not_false, reduceIte, Bool.false_eq_true, toDs_val, trees_val, u_lenT, nz, ix0, sS, stepE_inG, stepE_ixG, gd0, h, e, Option.isSome_some, hq, l3, l3', g3, g3', d0, mo2, mo2', mo2'']
    rfl
theorem r4str (t a b : D) : Ret Tb (n + 50) 4 [.val (.int u), .val (.tuple [.str "struck", t, a, b]), .val (.int k)] (.val (fl3 u k [t, a, b])) := by
  refine ⟨[some (.val (.int u)), some (.val (.tuple [.str "struck", t, a, b])), some (.val (.int k))], ?_⟩
  have hq := fun m' env => call2 (T := Tb) (n := m' + 30) env (r3s m' u t [a, b] (show 2 ≤ 100 by decide))
  have hm := fun m' env => call3 (T := Tb) (n := m' + 9) env (r1 m' t 400)
  have h : gt0.lookup (("struck" : String) : Str) = some 4 := by decide
  have l3 : (((3 + 1 : Nat) : Int) == 4) = true := rfl
  have l3' : (((4 : Nat) : Int) == 4) = true := rfl
  have g3 : (2 < ((4 : Nat) : Int)) = True := eq_true (by decide)
  have g3' : (2 < ((3 + 1 : Nat) : Int)) = True := eq_true (by decide)
  have i0 : ev2 .idx (.tuple [.str "struck", t, a, b]) (.int 1) = some (.val t) := rfl
  rw [all2] at hq
  rw [show fl3 u k [t, a, b] = two u a b k (if isN 400 t then .none else fMany k t) from rfl]
  by_cases c : (isN u a && isN u b) = true
  · obtain ⟨c1, c2⟩ := Bool.and_eq_true_iff.mp c
    obtain ⟨x, rfl, _, _⟩ := isN_int c1
    obtain ⟨y, rfl, _, _⟩ := isN_int c2
    have i1 : ev2 .idx (.tuple [.str "struck", t, .int x, .int y]) (.int (-2)) = some (.val (.int x)) := rfl
    have i2 : ev2 .idx (.tuple [.str "struck", t, .int x, .int y]) (.int (-1)) = some (.val (.int y)) := rfl
    rw [c] at hq
    unfold two
    rw [if_pos c, gt_int]
    by_cases q : y < x
    · have q2 : decide True = true := rfl
      simp only [callF, List.replicate, Nat.sub_self, List.append_nil, List.map_cons, List.map_nil, show Tb.fs[4]? = some f4 from rfl, f4, evS, exS, okb, stb, seqS, one, stepE_none, stepE_bl, stepE_int, stepE_str, stepE_var, stepE_glb, stepE_tup, stepE_lst, stepE_op1, stepE_op2, stepE_not, stepE_and, stepE_or, stepE_ite, stepE_chain, stepE_slice, stepE_call, evD, evDs, evArgs, optI, truthE, truth, O.tree, O.toD, O.trees, O.toDs, v_add, v_sub, v_le, v_lt, v_ge, v_gt, v_min, v_max, v_eq, v_ne, v_is, v_isnt, v_t20, v_t21, u_lenL, u_lenT2, beq_self_eq_true, decide_true, Nat.reduceAdd, Nat.reduceLT, Nat.zero_add, Bool.and_self, Bool.and_true, Bool.true_and, u_isT, u_int, u_intB, u_abs, u_neg, u_tupL, u_revT, seq?, setO, assignT, assignTs, isTy, List.getElem?_cons_zero, List.getElem?_cons_succ, Option.join_some, List.set_cons_zero, List.set_cons_succ, List.length_cons, List.length_nil, Res.bind, if_true, if_false, Nat.lt_irrefl, Bool.not_true, Bool.not_false, reduceIte, Bool.false_eq_true, toDs_val, trees_val, u_lenT, nz, ix0, sS, stepE_inG, stepE_ixG, gd0, h, Option.isSome_some, hq, l3, l3', g3, g3', i1, i2, q, q2, mo2, mo2', mo2'']
      rfl
    · have q2 : decide False = false := rfl
      cases v : isN 400 t with
      | true =>
        rw [v] at hm
        simp only [callF, List.replicate, Nat.sub_self, List.append_nil, List.map_cons, List.map_nil, show Tb.fs[4]? = some f4 from rfl, f4, evS, exS, okb, stb, seqS, one, stepE_none, stepE_bl, stepE_int, stepE_str, stepE_var, stepE_glb, stepE_tup, stepE_lst, stepE_op1, stepE_op2, stepE_not, stepE_and, stepE_or, stepE_ite, stepE_chain, stepE_slice, stepE_call, evD, evDs, evArgs, optI, truthE, truth, O.tree, O.toD, O.trees, O.toDs, v_add, v_sub, v_le, v_lt, v_ge, v_gt, v_min, v_max, v_eq, v_ne, v_is, v_isnt, v_t20, v_t21, u_lenL, u_lenT2, beq_self_eq_true, decide_true, Nat.reduceAdd, Nat.reduceLT, Nat.zero_add, Bool.and_self, Bool.and_true, Bool.true_and, u_isT, u_int, u_intB, u_abs, u_neg, u_tupL, u_revT, seq?, setO, assignT, assignTs, isTy, List.getElem?_cons_zero, List.getElem?_cons_succ, Option.join_some, List.set_cons_zero, List.set_cons_succ, List.length_cons, List.length_nil, Res.bind, if_true, if_false, Nat.lt_irrefl, Bool.not_true, Bool.not_false, reduceIte, Bool.false_eq_true, toDs_val, trees_val, u_lenT, nz, ix0, sS, stepE_inG, stepE_ixG, gd0, h, v_eqS, Option.isSome_some, hq, hm, show Tb.cs[2]? = some (.int 400) from rfl, l3, l3', g3, g3', i0, i1, i2, q, q2, mo2, mo2', mo2'']
        rfl
      | false =>
        rw [v] at hm
        simp only [callF, List.replicate, Nat.sub_self, List.append_nil, List.map_cons, List.map_nil, show Tb.fs[4]? = some f4 from rfl, f4, evS, exS, okb, stb, seqS, one, stepE_none, stepE_bl, stepE_int, stepE_str, stepE_var, stepE_glb, stepE_tup, stepE_lst, stepE_op1, stepE_op2, stepE_not, stepE_and, stepE_or, stepE_ite, stepE_chain, stepE_slice, stepE_call, evD, evDs, evArgs, optI, truthE, truth, O.tree, O.toD, O.trees, O.toDs, v_add, v_sub, v_le, v_lt, v_ge, v_gt, v_min, v_max, v_eq, v_ne, v_is, v_isnt, v_t20, v_t21, u_lenL, u_lenT2, beq_self_eq_true, decide_true, Nat.reduceAdd, Nat.reduceLT, Nat.zero_add, Bool.and_self, Bool.and_true, Bool.true_and, u_isT, u_int, u_intB, u_abs, u_neg, u_tupL, u_revT, seq?, setO, assignT, assignTs, isTy, List.getElem?_cons_zero, List.getElem?_cons_succ, Option.join_some, List.set_cons_zero, List.set_cons_succ, List.length_cons, List.length_nil, Res.bind, if_true, if_false, Nat.lt_irrefl, Bool.not_true, Bool.not_false, reduceIte, Bool.false_eq_true, toDs_val, trees_val, u_lenT, nz, ix0, sS, stepE_inG, stepE_ixG, gd0, h, v_eqS, Option.isSome_some, hq, hm, show Tb.cs[2]? = some (.int 400) from rfl, l3, l3', g3, g3', i0, i1, i2, q, q2, mo2, mo2', mo2'', mo3, mo3', mo3'']
        rfl
  · unfold two
    have c := eq_false_of_ne_true c
    rw [c] at hq ⊢
    simp only [callF, List.replicate, Nat.sub_self, List.append_nil, List.map_cons, List.map_nil, show Tb.fs[4]? = some f4 from rfl, f4, evS, exS, okb, stb, seqS, one, stepE_none, stepE_bl, stepE_int, stepE_str, stepE_var, stepE_glb, stepE_tup, stepE_lst, stepE_op1, stepE_op2, stepE_not, stepE_and, stepE_or, stepE_ite, stepE_chain, stepE_slice, stepE_call, evD, evDs, evArgs, optI, truthE, truth, O.tree, O.toD, O.trees, O.toDs, v_add, v_sub, v_le, v_lt, v_ge, v_gt, v_min, v_max, v_eq, v_ne, v_is, v_isnt, v_t20, v_t21, u_lenL, u_lenT2, beq_self_eq_true, decide_true, Nat.reduceAdd, Nat.reduceLT, Nat.zero_add, Bool.and_self, Bool.and_true, Bool.true_and, u_isT, u_int, u_intB, u_abs, u_neg, u_tupL, u_revT, seq?, setO, assignT, assignTs, isTy, List.getElem?_cons_zero, List.getElem?_cons_succ, Option.join_some, List.set_cons_zero, List.set_cons_succ, List.length_cons, List.length_nil, Res.bind, if_true, if_false, Nat.lt_irrefl, Bool.not_true, Bool.not_false, reduceIte, Bool.false_eq_true, toDs_val, trees_val, u_lenT, nz, ix0, sS, stepE_inG, stepE_ixG, gd0, h, Option.isSome_some, hq, l3, l3', mo2, mo2', mo2'']
    rfl
theorem r4 (w : List D) : Ret Tb (n + 50) 4 [.val (.int u), .val (.tuple w), .val (.int k)] (.val (flt u w k)) := by
  match w with
  | [] => exact r4nil n u k
  | .str s :: r =>
    rcases str_cases s with h | ⟨h1, h2⟩
    · rcases h with rfl | rfl | rfl | rfl | rfl
      · show Ret _ _ _ _ (.val (fl2 u k r))
        by_cases hr : r.length = 2
        · match r, hr with
          | [a, b], _ => exact r4two n u k "heard" (by decide) (by decide) a b
        · rw [fl2_form hr]; exact r4form n u k "heard" r 3 (by decide) (by omega)
      · show Ret _ _ _ _ (.val (fl2 u k r))
        by_cases hr : r.length = 2
        · match r, hr with
          | [a, b], _ => exact r4two n u k "quiet" (by decide) (by decide) a b
        · rw [fl2_form hr]; exact r4form n u k "quiet" r 3 (by decide) (by omega)
      · show Ret _ _ _ _ (.val (fl1 u k r))
        by_cases hr : r.length = 1
        · match r, hr with
          | [a], _ => exact r4one n u k "went" (by decide) (by decide) a
        · rw [fl1_form hr]; exact r4form n u k "went" r 2 (by decide) (by omega)
      · show Ret _ _ _ _ (.val (fl1 u k r))
        by_cases hr : r.length = 1
        · match r, hr with
          | [a], _ => exact r4one n u k "stood" (by decide) (by decide) a
        · rw [fl1_form hr]; exact r4form n u k "stood" r 2 (by decide) (by omega)
      · show Ret _ _ _ _ (.val (fl3 u k r))
        by_cases hr : r.length = 3
        · match r, hr with
          | [t, a, b], _ => exact r4str n u k t a b
        · rw [fl3_form hr]; exact r4form n u k "struck" r 4 (by decide) (by omega)
    · rw [h2]; exact r4none n u k s r h1
  | .none :: r => exact r4odd n u k .none r rfl
  | .bool b :: r => exact r4odd n u k (.bool b) r rfl
  | .int i :: r => exact r4odd n u k (.int i) r rfl
  | .list xs :: r => exact r4odd n u k (.list xs) r rfl
  | .tuple xs :: r => exact r4odd n u k (.tuple xs) r rfl
  | .dict xs :: r => exact r4odd n u k (.dict xs) r rfl
end
end Hd

end
section
set_option autoImplicit false
set_option linter.all false
set_option maxRecDepth 100000
set_option maxHeartbeats 1000000
namespace Hd
open PySem Ev
theorem u_a2 (p q : Bool) : ev1 .all (.list [.bool p, .bool q]) = some (.val (.bool (p && q))) := by
  show some (O.val (.bool (p && (q && true)))) = _
  rw [Bool.and_true]
theorem u_a1 (p : Bool) : ev1 .all (.list [.bool p]) = some (.val (.bool p)) := by
  show some (O.val (.bool (p && true))) = _
  rw [Bool.and_true]
section
variable (n : Nat) (u k : Int)
theorem r7nil : Ret Tb (n + 50) 7 [.val (.int u), .val (.tuple [])] (.val (.bool false)) := by
  refine ⟨[some (.val (.int u)), some (.val (.tuple []))], ?_⟩
  simp only [callF, List.replicate, Nat.sub_self, List.append_nil, List.map_cons, List.map_nil, show Tb.fs[7]? = some f7 from rfl, f7, evS, exS, okb, stb, seqS, one, stepE_none, stepE_bl, stepE_int, stepE_str, stepE_var, stepE_glb, stepE_tup, stepE_lst, stepE_op1, stepE_op2, stepE_not, stepE_and, stepE_or, stepE_ite, stepE_chain, stepE_slice, stepE_call, evD, evDs, evArgs, optI, truthE, truth, O.tree, O.toD, O.trees, O.toDs, v_add, v_sub, v_le, v_lt, v_ge, v_gt, v_min, v_max, v_eq, v_ne, v_is, v_isnt, v_t20, v_t21, u_lenL, u_lenT2, beq_self_eq_true, decide_true, Nat.reduceAdd, Nat.reduceLT, Nat.zero_add, Bool.and_self, Bool.and_true, Bool.true_and, u_isT, u_int, u_intB, u_abs, u_neg, u_tupL, u_revT, seq?, setO, assignT, assignTs, isTy, List.getElem?_cons_zero, List.getElem?_cons_succ, Option.join_some, List.set_cons_zero, List.set_cons_succ, List.length_cons, List.length_nil, Res.bind, if_true, if_false, Nat.lt_irrefl, Bool.not_true, Bool.not_false, reduceIte, Bool.false_eq_true, toDs_val, trees_val, u_lenT, show (Ty.tuple == Ty.tuple) = true from rfl, show (((0 : Nat) : Int) == 0) = true from rfl, show 4 - 2 = 2 from rfl, List.cons_append, List.nil_append]
  rfl
theorem r7odd (d : D) (r : List D) (hd : isTy .str d = false) : Ret Tb (n + 50) 7 [.val (.int u), .val (.tuple (d :: r))] (.val (.bool false)) := by
  refine ⟨[some (.val (.int u)), some (.val (.tuple (d :: r)))], ?_⟩
  have t1 : (Ty.str == Ty.int) = false := rfl
  have t2 : (Ty.str == Ty.bool) = false := rfl
  have t3 : (Ty.str == Ty.list) = false := rfl
  have t4 : (Ty.str == Ty.tuple) = false := rfl
  have t5 : (Ty.str == Ty.dict) = false := rfl
  cases d with
  | str s => cases hd
  | _ =>
    simp only [callF, List.replicate, Nat.sub_self, List.append_nil, List.map_cons, List.map_nil, show Tb.fs[7]? = some f7 from rfl, f7, evS, exS, okb, stb, seqS, one, stepE_none, stepE_bl, stepE_int, stepE_str, stepE_var, stepE_glb, stepE_tup, stepE_lst, stepE_op1, stepE_op2, stepE_not, stepE_and, stepE_or, stepE_ite, stepE_chain, stepE_slice, stepE_call, evD, evDs, evArgs, optI, truthE, truth, O.tree, O.toD, O.trees, O.toDs, v_add, v_sub, v_le, v_lt, v_ge, v_gt, v_min, v_max, v_eq, v_ne, v_is, v_isnt, v_t20, v_t21, u_lenL, u_lenT2, beq_self_eq_true, decide_true, Nat.reduceAdd, Nat.reduceLT, Nat.zero_add, Bool.and_self, Bool.and_true, Bool.true_and, u_isT, u_int, u_intB, u_abs, u_neg, u_tupL, u_revT, seq?, setO, assignT, assignTs, isTy, List.getElem?_cons_zero, List.getElem?_cons_succ, Option.join_some, List.set_cons_zero, List.set_cons_succ, List.length_cons, List.length_nil, Res.bind, if_true, if_false, Nat.lt_irrefl, Bool.not_true, Bool.not_false, reduceIte, Bool.false_eq_true, toDs_val, trees_val, u_lenT, nz, ix0, t1, t2, t3, t4, t5, Bool.or_false, show (Ty.tuple == Ty.tuple) = true from rfl, show 4 - 2 = 2 from rfl, List.cons_append, List.nil_append]
    rfl
theorem r7none (s : Str) (r : List D) (h : gt0.lookup s = none) : Ret Tb (n + 50) 7 [.val (.int u), .val (.tuple (.str s :: r))] (.val (.bool false)) := by
  refine ⟨[some (.val (.int u)), some (.val (.tuple (.str s :: r)))], ?_⟩
  simp only [callF, List.replicate, Nat.sub_self, List.append_nil, List.map_cons, List.map_nil, show Tb.fs[7]? = some f7 from rfl, f7, evS, exS, okb, stb, seqS, one, stepE_none, stepE_bl, stepE_int, stepE_str, stepE_var, stepE_glb, stepE_tup, stepE_lst, stepE_op1, stepE_op2, stepE_not, stepE_and, stepE_or, stepE_ite, stepE_chain, stepE_slice, stepE_call, evD, evDs, evArgs, optI, truthE, truth, O.tree, O.toD, O.trees, O.toDs, v_add, v_sub, v_le, v_lt, v_ge, v_gt, v_min, v_max, v_eq, v_ne, v_is, v_isnt, v_t20, v_t21, u_lenL, u_lenT2, beq_self_eq_true, decide_true, Nat.reduceAdd, Nat.reduceLT, Nat.zero_add, Bool.and_self, Bool.and_true, Bool.true_and, u_isT, u_int, u_intB, u_abs, u_neg, u_tupL, u_revT, seq?, setO, assignT, assignTs, isTy, List.getElem?_cons_zero, List.getElem?_cons_succ, Option.join_some, List.set_cons_zero, List.set_cons_succ, List.length_cons, List.length_nil, Res.bind, if_true, if_false, Nat.lt_irrefl, Bool.not_true, Bool.not_false, reduceIte, Bool.false_eq_true, toDs_val, trees_val, u_lenT, nz, ix0, sS, stepE_inG, gd1, gt01, h, Option.isSome_none, show (Ty.tuple == Ty.tuple) = true from rfl, show 4 - 2 = 2 from rfl, List.cons_append, List.nil_append]
  rfl
theorem r7form (s : Str) (r : List D) (z : Int) (h : gt0.lookup s = some z) (hr : ((r.length + 1 : Nat) : Int) ≠ z) : Ret Tb (n + 50) 7 [.val (.int u), .val (.tuple (.str s :: r))] (.val (.bool false)) := by
  refine ⟨[some (.val (.int u)), some (.val (.tuple (.str s :: r)))], ?_⟩
  have e : (((r.length + 1 : Nat) : Int) == z) = false := beq_eq_false_iff_ne.mpr hr
  simp only [callF, List.replicate, Nat.sub_self, List.append_nil, List.map_cons, List.map_nil, show Tb.fs[7]? = some f7 from rfl, f7, evS, exS, okb, stb, seqS, one, stepE_none, stepE_bl, stepE_int, stepE_str, stepE_var, stepE_glb, stepE_tup, stepE_lst, stepE_op1, stepE_op2, stepE_not, stepE_and, stepE_or, stepE_ite, stepE_chain, stepE_slice, stepE_call, evD, evDs, evArgs, optI, truthE, truth, O.tree, O.toD, O.trees, O.toDs, v_add, v_sub, v_le, v_lt, v_ge, v_gt, v_min, v_max, v_eq, v_ne, v_is, v_isnt, v_t20, v_t21, u_lenL, u_lenT2, beq_self_eq_true, decide_true, Nat.reduceAdd, Nat.reduceLT, Nat.zero_add, Bool.and_self, Bool.and_true, Bool.true_and, u_isT, u_int, u_intB, u_abs, u_neg, u_tupL, u_revT, seq?, setO, assignT, assignTs, isTy, List.getElem?_cons_zero, List.getElem?_cons_succ, Option.join_some, List.set_cons_zero, List.set_cons_succ, List.length_cons, List.length_nil, Res.bind, if_true, if_false, Nat.lt_irrefl, Bool.not_true, Bool.not_false, reduceIte, Bool.false_eq_true, toDs_val, trees_val, u_lenT, nz, ix0, sS, stepE_inG, stepE_ixG, gd1, gt01, h, e, Option.isSome_some, show (Ty.tuple == Ty.tuple) = true from rfl, show 4 - 2 = 2 from rfl, List.cons_append, List.nil_append]
  rfl
theorem r7two (s : Str) (h : gt0.lookup s = some 3) (hs : s ≠ "struck") (a b : D) : Ret Tb (n + 50) 7 [.val (.int u), .val (.tuple [.str s, a, b])] (.val (.bool (isNone (two u a b k .none)))) := by
  refine ⟨[some (.val (.int u)), some (.val (.tuple [.str s, a, b]))], ?_⟩
  have ha := fun m => all3 m u (.tuple [.str s, a, b]) [a, b] (show 2 ≤ 100 by decide)
  have e : decide (s = "struck") = false := decide_eq_false hs
  have l3 : (((2 + 1 : Nat) : Int) == 3) = true := rfl
  have l3' : (((3 : Nat) : Int) == 3) = true := rfl
  have tt : (Ty.tuple == Ty.tuple) = true := rfl
  have h42 : 4 - 2 = 2 := rfl
  by_cases c : (isN u a && isN u b) = true
  · obtain ⟨c1, c2⟩ := Bool.and_eq_true_iff.mp c
    obtain ⟨x, rfl, _, _⟩ := isN_int c1
    obtain ⟨y, rfl, _, _⟩ := isN_int c2
    have i1 : ev2 .idx (.tuple [.int x, .int y]) (.int 0) = some (.val (.int x)) := rfl
    have i2 : ev2 .idx (.tuple [.int x, .int y]) (.int (-1)) = some (.val (.int y)) := rfl
    unfold two
    rw [if_pos c, gt_int]
    by_cases q : y < x
    · have q2 : decide True = true := rfl
      simp only [callF, List.replicate, Nat.sub_self, List.append_nil, List.map_cons, List.map_nil, show Tb.fs[7]? = some f7 from rfl, f7, evS, exS, okb, stb, seqS, one, stepE_none, stepE_bl, stepE_int, stepE_str, stepE_var, stepE_glb, stepE_tup, stepE_lst, stepE_op1, stepE_op2, stepE_not, stepE_and, stepE_or, stepE_ite, stepE_chain, stepE_slice, stepE_call, evD, evDs, evArgs, optI, truthE, truth, O.tree, O.toD, O.trees, O.toDs, v_add, v_sub, v_le, v_lt, v_ge, v_gt, v_min, v_max, v_eq, v_ne, v_is, v_isnt, v_t20, v_t21, u_lenL, u_lenT2, beq_self_eq_true, decide_true, Nat.reduceAdd, Nat.reduceLT, Nat.zero_add, Bool.and_self, Bool.and_true, Bool.true_and, u_isT, u_int, u_intB, u_abs, u_neg, u_tupL, u_revT, seq?, setO, assignT, assignTs, isTy, List.getElem?_cons_zero, List.getElem?_cons_succ, Option.join_some, List.set_cons_zero, List.set_cons_succ, List.length_cons, List.length_nil, Res.bind, if_true, if_false, Nat.lt_irrefl, Bool.not_true, Bool.not_false, reduceIte, Bool.false_eq_true, toDs_val, trees_val, u_lenT, nz, ix0, sS, stepE_inG, stepE_ixG, gd1, gt01, h, e, v_eqS, v_neS, cut1, Option.isSome_some, ha, u_a2, c, l3, l3', i1, i2, q, q2, tt, h42, List.cons_append, List.nil_append]
      rfl
    · have q2 : decide False = false := rfl
      simp only [callF, List.replicate, Nat.sub_self, List.append_nil, List.map_cons, List.map_nil, show Tb.fs[7]? = some f7 from rfl, f7, evS, exS, okb, stb, seqS, one, stepE_none, stepE_bl, stepE_int, stepE_str, stepE_var, stepE_glb, stepE_tup, stepE_lst, stepE_op1, stepE_op2, stepE_not, stepE_and, stepE_or, stepE_ite, stepE_chain, stepE_slice, stepE_call, evD, evDs, evArgs, optI, truthE, truth, O.tree, O.toD, O.trees, O.toDs, v_add, v_sub, v_le, v_lt, v_ge, v_gt, v_min, v_max, v_eq, v_ne, v_is, v_isnt, v_t20, v_t21, u_lenL, u_lenT2, beq_self_eq_true, decide_true, Nat.reduceAdd, Nat.reduceLT, Nat.zero_add, Bool.and_self, Bool.and_true, Bool.true_and, u_isT, u_int, u_intB, u_abs, u_neg, u_tupL, u_revT, seq?, setO, assignT, assignTs, isTy, List.getElem?_cons_zero, List.getElem?_cons_succ, Option.join_some, List.set_cons_zero, List.set_cons_succ, List.length_cons, List.length_nil, Res.bind, if_true, if_false, Nat.lt_irrefl, Bool.not_true, Bool.not_false, reduceIte, Bool.false_eq_true, toDs_val, trees_val, u_lenT, nz, ix0, sS, stepE_inG, stepE_ixG, gd1, gt01, h, e, v_eqS, v_neS, cut1, Option.isSome_some, ha, u_a2, c, l3, l3', i1, i2, q, q2, tt, h42, List.cons_append, List.nil_append]
      rfl
  · unfold two
    have c := eq_false_of_ne_true c
    rw [c]
    simp only [callF, List.replicate, Nat.sub_self, List.append_nil, List.map_cons, List.map_nil, show Tb.fs[7]? = some f7 from rfl, f7, evS, exS, okb, stb, seqS, one, stepE_none, stepE_bl, stepE_int, stepE_str, stepE_var, stepE_glb, stepE_tup, stepE_lst, stepE_op1, stepE_op2, stepE_not, stepE_and, stepE_or, stepE_ite, stepE_chain, stepE_slice, stepE_call, evD, evDs, evArgs, optI, truthE, truth, O.tree, O.toD, O.trees, O.toDs, v_add, v_sub, v_le, v_lt, v_ge, v_gt, v_min, v_max, v_eq, v_ne, v_is, v_isnt, v_t20, v_t21, u_lenL, u_lenT2, beq_self_eq_true, decide_true, Nat.reduceAdd, Nat.reduceLT, Nat.zero_add, Bool.and_self, Bool.and_true, Bool.true_and, u_isT, u_int, u_intB, u_abs, u_neg, u_tupL, u_revT, seq?, setO, assignT, assignTs, isTy, List.getElem?_cons_zero, List.getElem?_cons_succ, Option.join_some, List.set_cons_zero, List.set_cons_succ, List.length_cons, List.length_nil, Res.bind, if_true, if_false, Nat.lt_irrefl, Bool.not_true, Bool.not_false, reduceIte, Bool.false_eq_true, toDs_val, trees_val, u_lenT, nz, ix0, sS, stepE_inG, stepE_ixG, gd1, gt01, h, e, v_eqS, v_neS, cut1, Option.isSome_some, ha, u_a2, c, l3, l3', tt, h42, List.cons_append, List.nil_append]
    rfl
theorem r7one (s : Str) (h : gt0.lookup s = some 2) (hs : s ≠ "struck") (a : D) : Ret Tb (n + 50) 7 [.val (.int u), .val (.tuple [.str s, a])] (.val (.bool (isNone (fl1 u k [a])))) := by
  refine ⟨[some (.val (.int u)), some (.val (.tuple [.str s, a]))], ?_⟩
  have ha := fun m => all3 m u (.tuple [.str s, a]) [a] (show 1 ≤ 100 by decide)
  have e : decide (s = "struck") = false := decide_eq_false hs
  have l3 : (((1 + 1 : Nat) : Int) == 2) = true := rfl
  have l3' : (((2 : Nat) : Int) == 2) = true := rfl
  have tt : (Ty.tuple == Ty.tuple) = true := rfl
  have h42 : 4 - 2 = 2 := rfl
  rw [show fl1 u k [a] = if isN u a then .none else fMin k from rfl]
  cases c : isN u a with
  | true =>
    obtain ⟨x, rfl, _, _⟩ := isN_int c
    have i1 : ev2 .idx (.tuple [.int x]) (.int 0) = some (.val (.int x)) := rfl
    have i2 : ev2 .idx (.tuple [.int x]) (.int (-1)) = some (.val (.int x)) := rfl
    have q : (x < x) = False := eq_false (by omega)
    have q2 : decide False = false := rfl
    simp only [callF, List.replicate, Nat.sub_self, List.append_nil, List.map_cons, List.map_nil, show Tb.fs[7]? = some f7 from rfl, f7, evS, exS, okb, stb, seqS, one, stepE_none, stepE_bl, stepE_int, stepE_str, stepE_var, stepE_glb, stepE_tup, stepE_lst, stepE_op1, stepE_op2, stepE_not, stepE_and, stepE_or, stepE_ite, stepE_chain, stepE_slice, stepE_call, evD, evDs, evArgs, optI, truthE, truth, O.tree, O.toD, O.trees, O.toDs, v_add, v_sub, v_le, v_lt, v_ge, v_gt, v_min, v_max, v_eq, v_ne, v_is, v_isnt, v_t20, v_t21, u_lenL, u_lenT2, beq_self_eq_true, decide_true, Nat.reduceAdd, Nat.reduceLT, Nat.zero_add, Bool.and_self, Bool.and_true, Bool.true_and, u_isT, u_int, u_intB, u_abs, u_neg, u_tupL, u_revT, seq?, setO, assignT, assignTs, isTy, List.getElem?_cons_zero, List.getElem?_cons_succ, Option.join_some, List.set_cons_zero, List.set_cons_succ, List.length_cons, List.length_nil, Res.bind, if_true, if_false, Nat.lt_irrefl, Bool.not_true, Bool.not_false, reduceIte, Bool.false_eq_true, toDs_val, trees_val, u_lenT, nz, ix0, sS, stepE_inG, stepE_ixG, gd1, gt01, h, e, v_eqS, v_neS, cut1, Option.isSome_some, ha, u_a1, c, l3, l3', i1, i2, q, q2, tt, h42, List.cons_append, List.nil_append]
    rfl
  | false =>
    simp only [callF, List.replicate, Nat.sub_self, List.append_nil, List.map_cons, List.map_nil, show Tb.fs[7]? = some f7 from rfl, f7, evS, exS, okb, stb, seqS, one, stepE_none, stepE_bl, stepE_int, stepE_str, stepE_var, stepE_glb, stepE_tup, stepE_lst, stepE_op1, stepE_op2, stepE_not, stepE_and, stepE_or, stepE_ite, stepE_chain, stepE_slice, stepE_call, evD, evDs, evArgs, optI, truthE, truth, O.tree, O.toD, O.trees, O.toDs, v_add, v_sub, v_le, v_lt, v_ge, v_gt, v_min, v_max, v_eq, v_ne, v_is, v_isnt, v_t20, v_t21, u_lenL, u_lenT2, beq_self_eq_true, decide_true, Nat.reduceAdd, Nat.reduceLT, Nat.zero_add, Bool.and_self, Bool.and_true, Bool.true_and, u_isT, u_int, u_intB, u_abs, u_neg, u_tupL, u_revT, seq?, setO, assignT, assignTs, isTy, List.getElem?_cons_zero, List.getElem?_cons_succ, Option.join_some, List.set_cons_zero, List.set_cons_succ, List.length_cons, List.length_nil, Res.bind, if_true, if_false, Nat.lt_irrefl, Bool.not_true, Bool.not_false, reduceIte, Bool.false_eq_true, toDs_val, trees_val, u_lenT, nz, ix0, sS, stepE_inG, stepE_ixG, gd1, gt01, h, e, v_eqS, v_neS, cut1, Option.isSome_some, ha, u_a1, c, l3, l3', tt, h42, List.cons_append, List.nil_append]
    rfl
theorem r7str (t a b : D) : Ret Tb (n + 50) 7 [.val (.int u), .val (.tuple [.str "struck", t, a, b])] (.val (.bool (isNone (fl3 u k [t, a, b])))) := by
  refine ⟨[some (.val (.int u)), some (.val (.tuple [.str "struck", t, a, b]))], ?_⟩
  have ha := fun m => all3 m u (.tuple [.str "struck", t, a, b]) [a, b] (show 2 ≤ 100 by decide)
  have hm := fun m' env => call3 (T := Tb) (n := m' + 9) env (r1 m' t 400)
  have h : gt0.lookup (("struck" : String) : Str) = some 4 := by decide
  have l3 : (((3 + 1 : Nat) : Int) == 4) = true := rfl
  have l3' : (((4 : Nat) : Int) == 4) = true := rfl
  have tt : (Ty.tuple == Ty.tuple) = true := rfl
  have h42 : 4 - 2 = 2 := rfl
  have i0 : ev2 .idx (.tuple [.str "struck", t, a, b]) (.int 1) = some (.val t) := rfl
  rw [show fl3 u k [t, a, b] = two u a b k (if isN 400 t then .none else fMany k t) from rfl]
  by_cases c : (isN u a && isN u b) = true
  · obtain ⟨c1, c2⟩ := Bool.and_eq_true_iff.mp c
    obtain ⟨x, rfl, _, _⟩ := isN_int c1
    obtain ⟨y, rfl, _, _⟩ := isN_int c2
    have i1 : ev2 .idx (.tuple [.int x, .int y]) (.int 0) = some (.val (.int x)) := rfl
    have i2 : ev2 .idx (.tuple [.int x, .int y]) (.int (-1)) = some (.val (.int y)) := rfl
    unfold two
    rw [if_pos c, gt_int]
    by_cases q : y < x
    · have q2 : decide True = true := rfl
      simp only [callF, List.replicate, Nat.sub_self, List.append_nil, List.map_cons, List.map_nil, show Tb.fs[7]? = some f7 from rfl, f7, evS, exS, okb, stb, seqS, one, stepE_none, stepE_bl, stepE_int, stepE_str, stepE_var, stepE_glb, stepE_tup, stepE_lst, stepE_op1, stepE_op2, stepE_not, stepE_and, stepE_or, stepE_ite, stepE_chain, stepE_slice, stepE_call, evD, evDs, evArgs, optI, truthE, truth, O.tree, O.toD, O.trees, O.toDs, v_add, v_sub, v_le, v_lt, v_ge, v_gt, v_min, v_max, v_eq, v_ne, v_is, v_isnt, v_t20, v_t21, u_lenL, u_lenT2, beq_self_eq_true, decide_true, Nat.reduceAdd, Nat.reduceLT, Nat.zero_add, Bool.and_self, Bool.and_true, Bool.true_and, u_isT, u_int, u_intB, u_abs, u_neg, u_tupL, u_revT, seq?, setO, assignT, assignTs, isTy, List.getElem?_cons_zero, List.getElem?_cons_succ, Option.join_some, List.set_cons_zero, List.set_cons_succ, List.length_cons, List.length_nil, Res.bind, if_true, if_false, Nat.lt_irrefl, Bool.not_true, Bool.not_false, reduceIte, Bool.false_eq_true, toDs_val, trees_val, u_lenT, nz, ix0, sS, stepE_inG, stepE_ixG, gd1, gt01, h, v_eqS, v_neS, cut2, Option.isSome_some, ha, u_a2, c, l3, l3', i1, i2, q, q2, tt, h42, List.cons_append, List.nil_append]
      rfl
    · have q2 : decide False = false := rfl
      cases v : isN 400 t with
      | true =>
        rw [v] at hm
        simp only [callF, List.replicate, Nat.sub_self, List.append_nil, List.map_cons, List.map_nil, show Tb.fs[7]? = some f7 from rfl, f7, evS, exS, okb, stb, seqS, one, stepE_none, stepE_bl, stepE_int, stepE_str, stepE_var, stepE_glb, stepE_tup, stepE_lst, stepE_op1, stepE_op2, stepE_not, stepE_and, stepE_or, stepE_ite, stepE_chain, stepE_slice, stepE_call, evD, evDs, evArgs, optI, truthE, truth, O.tree, O.toD, O.trees, O.toDs, v_add, v_sub, v_le, v_lt, v_ge, v_gt, v_min, v_max, v_eq, v_ne, v_is, v_isnt, v_t20, v_t21, u_lenL, u_lenT2, beq_self_eq_true, decide_true, Nat.reduceAdd, Nat.reduceLT, Nat.zero_add, Bool.and_self, Bool.and_true, Bool.true_and, u_isT, u_int, u_intB, u_abs, u_neg, u_tupL, u_revT, seq?, setO, assignT, assignTs, isTy, List.getElem?_cons_zero, List.getElem?_cons_succ, Option.join_some, List.set_cons_zero, List.set_cons_succ, List.length_cons, List.length_nil, Res.bind, if_true, if_false, Nat.lt_irrefl, Bool.not_true, Bool.not_false, reduceIte, Bool.false_eq_true, toDs_val, trees_val, u_lenT, nz, ix0, sS, stepE_inG, stepE_ixG, gd1, gt01, h, v_eqS, v_neS, cut2, Option.isSome_some, ha, hm, show Tb.cs[5]? = some (.int 400) from rfl, u_a2, c, l3, l3', i0, i1, i2, q, q2, tt, h42, List.cons_append, List.nil_append]
        rfl
      | false =>
        rw [v] at hm
        simp only [callF, List.replicate, Nat.sub_self, List.append_nil, List.map_cons, List.map_nil, show Tb.fs[7]? = some f7 from rfl, f7, evS, exS, okb, stb, seqS, one, stepE_none, stepE_bl, stepE_int, stepE_str, stepE_var, stepE_glb, stepE_tup, stepE_lst, stepE_op1, stepE_op2, stepE_not, stepE_and, stepE_or, stepE_ite, stepE_chain, stepE_slice, stepE_call, evD, evDs, evArgs, optI, truthE, truth, O.tree, O.toD, O.trees, O.toDs, v_add, v_sub, v_le, v_lt, v_ge, v_gt, v_min, v_max, v_eq, v_ne, v_is, v_isnt, v_t20, v_t21, u_lenL, u_lenT2, beq_self_eq_true, decide_true, Nat.reduceAdd, Nat.reduceLT, Nat.zero_add, Bool.and_self, Bool.and_true, Bool.true_and, u_isT, u_int, u_intB, u_abs, u_neg, u_tupL, u_revT, seq?, setO, assignT, assignTs, isTy, List.getElem?_cons_zero, List.getElem?_cons_succ, Option.join_some, List.set_cons_zero, List.set_cons_succ, List.length_cons, List.length_nil, Res.bind, if_true, if_false, Nat.lt_irrefl, Bool.not_true, Bool.not_false, reduceIte, Bool.false_eq_true, toDs_val, trees_val, u_lenT, nz, ix0, sS, stepE_inG, stepE_ixG, gd1, gt01, h, v_eqS, v_neS, cut2, Option.isSome_some, ha, hm, show Tb.cs[5]? = some (.int 400) from rfl, u_a2, c, l3, l3', i0, i1, i2, q, q2, tt, h42, List.cons_append, List.nil_append]
        rfl
  · unfold two
    have c := eq_false_of_ne_true c
    rw [c]
    simp only [callF, List.replicate, Nat.sub_self, List.append_nil, List.map_cons, List.map_nil, show Tb.fs[7]? = some f7 from rfl, f7, evS, exS, okb, stb, seqS, one, stepE_none, stepE_bl, stepE_int, stepE_str, stepE_var, stepE_glb, stepE_tup, stepE_lst, stepE_op1, stepE_op2, stepE_not, stepE_and, stepE_or, stepE_ite, stepE_chain, stepE_slice, stepE_call, evD, evDs, evArgs, optI, truthE, truth, O.tree, O.toD, O.trees, O.toDs, v_add, v_sub, v_le, v_lt, v_ge, v_gt, v_min, v_max, v_eq, v_ne, v_is, v_isnt, v_t20, v_t21, u_lenL, u_lenT2, beq_self_eq_true, decide_true, Nat.reduceAdd, Nat.reduceLT, Nat.zero_add, Bool.and_self, Bool.and_true, Bool.true_and, u_isT, u_int, u_intB, u_abs, u_neg, u_tupL, u_revT, seq?, setO, assignT, assignTs, isTy, List.getElem?_cons_zero, List.getElem?_cons_succ, Option.join_some, List.set_cons_zero, List.set_cons_succ, List.length_cons, List.length_nil, Res.bind, if_true, if_false, Nat.lt_irrefl, Bool.not_true, Bool.not_false, reduceIte, Bool.false_eq_true, toDs_val, trees_val, u_lenT, nz, ix0, sS, stepE_inG, stepE_ixG, gd1, gt01, h, v_eqS, v_neS, cut2, Option.isSome_some, ha, u_a2, c, l3, l3', tt, h42, List.cons_append, List.nil_append]
    rfl
theorem r7 (w : List D) : Ret Tb (n + 50) 7 [.val (.int u), .val (.tuple w)] (.val (.bool (isNone (flt u w k)))) := by
  match w with
  | [] => exact r7nil n u
  | .str s :: r =>
    rcases str_cases s with h | ⟨h1, h2⟩
    · rcases h with rfl | rfl | rfl | rfl | rfl
      · show Ret _ _ _ _ (.val (.bool (isNone (fl2 u k r))))
        by_cases hr : r.length = 2
        · match r, hr with
          | [a, b], _ => exact r7two n u k "heard" (by decide) (by decide) a b
        · rw [fl2_form hr]; exact r7form n u "heard" r 3 (by decide) (by omega)
      · show Ret _ _ _ _ (.val (.bool (isNone (fl2 u k r))))
        by_cases hr : r.length = 2
        · match r, hr with
          | [a, b], _ => exact r7two n u k "quiet" (by decide) (by decide) a b
        · rw [fl2_form hr]; exact r7form n u "quiet" r 3 (by decide) (by omega)
      · show Ret _ _ _ _ (.val (.bool (isNone (fl1 u k r))))
        by_cases hr : r.length = 1
        · match r, hr with
          | [a], _ => exact r7one n u k "went" (by decide) (by decide) a
        · rw [fl1_form hr]; exact r7form n u "went" r 2 (by decide) (by omega)
      · show Ret _ _ _ _ (.val (.bool (isNone (fl1 u k r))))
        by_cases hr : r.length = 1
        · match r, hr with
          | [a], _ => exact r7one n u k "stood" (by decide) (by decide) a
        · rw [fl1_form hr]; exact r7form n u "stood" r 2 (by decide) (by omega)
      · show Ret _ _ _ _ (.val (.bool (isNone (fl3 u k r))))
        by_cases hr : r.length = 3
        · match r, hr with
          | [t, a, b], _ => exact r7str n u k t a b
        · rw [fl3_form hr]; exact r7form n u "struck" r 4 (by decide) (by omega)
    · rw [h2]; exact r7none n u s r h1
  | .none :: r => exact r7odd n u .none r rfl
  | .bool b :: r => exact r7odd n u (.bool b) r rfl
  | .int i :: r => exact r7odd n u (.int i) r rfl
  | .list xs :: r => exact r7odd n u (.list xs) r rfl
  | .tuple xs :: r => exact r7odd n u (.tuple xs) r rfl
  | .dict xs :: r => exact r7odd n u (.dict xs) r rfl
end
end Hd

end
section
set_option autoImplicit false
set_option linter.all false
set_option maxRecDepth 100000
set_option maxHeartbeats 1000000
namespace Hd
open PySem Ev
theorem call_e {f c n : Nat} {env : Ev.Env} {os : List D} (h : callF Tb (exN Tb n) f (os.map .val) = .err c) : callA Tb (exN Tb n) f (os.map fun d => (none, d)) env = .err c := by
  have h1 : lent (os.map fun d => ((none : Option Nat), d)) = [] := by
    clear h
    induction os with
    | nil => rfl
    | cons d ds ih => exact ih
  have h2 : argOs env (os.map fun d => ((none : Option Nat), d)) = some (os.map .val) := by
    clear h h1
    induction os with
    | nil => rfl
    | cons d ds ih => show (match some (O.val d), argOs env _ with | some o, some os => some (o :: os) | _, _ => none) = _; rw [ih]; rfl
  have hf : ∃ d, Tb.fs[f]? = some d := by
    unfold callF at h
    cases e : Tb.fs[f]? with
    | none => rw [e] at h; cases h
    | some d => exact ⟨d, rfl⟩
  unfold callA
  rw [if_pos ⟨by rw [h1]; exact .nil, lentOk_none (List.all_eq_true.mpr fun a ha => by obtain ⟨d, _, rfl⟩ := List.mem_map.mp ha; rfl) hf⟩, h2]
  show ((callF Tb (exN Tb n) f (os.map .val)).bind fun p => .ok (p.1, backs env (os.map fun d => (none, d)) p.2)) = _
  rw [h]
  rfl
theorem one_tryK {T : Tab} {ev : Ev.E → Ev.Env → Res (O × Ev.Env)} {exs : List Ev.S → Ev.Env → Res (Fl × Ev.Env)} {body : List Ev.S} {hs : List (Nat × Option Nat × List Ev.S)} {env : Ev.Env} {p : Fl × Ev.Env} (h : asgds body = []) (hb : exs body env = .ok p) : Ev.one T ev exs (.tryS body hs) env = .ok p := by
  show (if asgds body = [] then _ else _) = _
  rw [if_pos h, hb]
theorem one_tryE {T : Tab} {ev : Ev.E → Ev.Env → Res (O × Ev.Env)} {exs : List Ev.S → Ev.Env → Res (Fl × Ev.Env)} {body : List Ev.S} {hs : List (Nat × Option Nat × List Ev.S)} {env : Ev.Env} {c : Nat} (h : asgds body = []) (hb : exs body env = .err c) : Ev.one T ev exs (.tryS body hs) env = handle T c env hs := by
  show (if asgds body = [] then _ else _) = _
  rw [if_pos h, hb]
theorem k2f (n : Nat) (env : Ev.Env) : callA Tb (exN Tb (n + 5)) 2 [(none, .bool false)] env = .err 1 := call_e (os := [.bool false]) (r2f n)
/-! a draft and its faults -/
abbrev dft (ws : List (List D)) : D := .list (ws.map .tuple)
abbrev nums (ws : List (List D)) : List (Nat × List D) := ws.mapIdx fun i w => (i, w)
abbrev pw (p : Nat × List D) : D := .tuple [.int p.1, .tuple p.2]
def allF (u : Int) (ws : List (List D)) : List D := (nums ws).map fun p => flt u p.2 p.1
def manyF (ws : List (List D)) : List D := if 40 < ws.length then [.tuple [.str "many", .int ws.length]] else []
def FA (u : Int) (ws : List (List D)) : List D := manyF ws ++ (allF u ws).filter fun d => !isNone d
theorem isnt_none (d : D) : ev2 .isnt d .none = some (.val (.bool (!isNone d))) := by cases d <;> rfl
theorem items_enum {ev : Ev.E → Ev.Env → Res (O × Ev.Env)} {e : Ev.E} {env env1 : Ev.Env} {ws : List (List D)} (h : evD ev e env = .ok (dft ws, env1)) : items ev (.enum e) env = .ok ((nums ws).map pw, env1) := by
  show (evD ev e env).bind _ = _
  rw [h, okb]
  show Res.ok ((ws.map PyData.tuple).mapIdx _, env1) = _
  congr 2
  apply List.ext_getElem?
  intro i
  simp only [List.getElem?_mapIdx, List.getElem?_map, Option.map_map]
  rfl
theorem len_allF (u : Int) (ws : List (List D)) : (allF u ws).length = ws.length := by unfold allF nums; rw [List.length_map, List.length_mapIdx]
section
variable (n : Nat) (u : Int) (ws : List (List D)) (hl : ws.length ≤ 100)
abbrev c5a : Ev.E := (.comp (.op1 (.isT .tuple) (.var 5)) (.nm 5) (.seq (.var 1)) none)
abbrev c5b : Ev.E := (.comp (.call 4 [(.var 0), (.var 5), (.var 4)]) (.tup [(.nm 4), (.nm 5)]) (.enum (.var 1)) none)
abbrev c5c : Ev.E := (.comp (.var 6) (.nm 6) (.seq (.var 2)) (some (.op2 .isnt (.var 6) .none)))
include hl
theorem q5a (m : Nat) : stepE Tb (evN Tb (m + 60)) (exN Tb (m + 60)) c5a [some (.val (.int u)), some (.val (dft ws)), none, none, none, none, none] = .ok (.lst ((ws.map fun _ => PyData.bool true).map .val), [some (.val (.int u)), some (.val (dft ws)), none, none, none, none, none]) :=
  compM PyData.tuple ws (fun w => [some (.val (.int u)), some (.val (dft ws)), none, none, none, some (.val (.tuple w)), none]) (fun _ => .bool true) (items_seq rfl) (most_ok (by omega)) rfl (fun d _ => ⟨rfl, rfl⟩) fun d _ => by simp only [evS, exS, okb, stb, seqS, one, stepE_none, stepE_bl, stepE_int, stepE_str, stepE_var, stepE_glb, stepE_tup, stepE_lst, stepE_op1, stepE_op2, stepE_not, stepE_and, stepE_or, stepE_ite, stepE_chain, stepE_slice, stepE_call, evD, evDs, evArgs, optI, truthE, truth, O.tree, O.toD, O.trees, O.toDs, v_add, v_sub, v_le, v_lt, v_ge, v_gt, v_min, v_max, v_eq, v_ne, v_is, v_isnt, v_t20, v_t21, u_lenL, u_lenT2, beq_self_eq_true, decide_true, Nat.reduceAdd, Nat.reduceLT, Nat.zero_add, Bool.and_self, Bool.and_true, Bool.true_and, u_isT, u_int, u_intB, u_abs, u_neg, u_tupL, u_revT, seq?, setO, assignT, assignTs, isTy, List.getElem?_cons_zero, List.getElem?_cons_succ, Option.join_some, List.set_cons_zero, List.set_cons_succ, List.length_cons, List.length_nil, Res.bind, if_true, if_false, Nat.lt_irrefl, Bool.not_true, Bool.not_false, reduceIte, Bool.false_eq_true, toDs_val, trees_val, show (Ty.tuple == Ty.tuple) = true from rfl]
theorem q5b (m : Nat) : stepE Tb (evN Tb (m + 60)) (exN Tb (m + 60)) c5b [some (.val (.int u)), some (.val (dft ws)), none, none, none, none, none] = .ok (.lst ((allF u ws).map .val), [some (.val (.int u)), some (.val (dft ws)), none, none, none, none, none]) := by
  have k := fun m' w (i : Int) env => call3 (T := Tb) (n := m' + 50) env (r4 m' u i w)
  exact compM pw (nums ws) (fun p => [some (.val (.int u)), some (.val (dft ws)), none, none, some (.val (.int p.1)), some (.val (.tuple p.2)), none]) (fun p => flt u p.2 p.1) (items_enum rfl) (by unfold nums; rw [List.length_mapIdx]; exact most_ok (by omega)) rfl (fun d _ => ⟨rfl, rfl⟩) fun d _ => by simp only [evS, exS, okb, stb, seqS, one, stepE_none, stepE_bl, stepE_int, stepE_str, stepE_var, stepE_glb, stepE_tup, stepE_lst, stepE_op1, stepE_op2, stepE_not, stepE_and, stepE_or, stepE_ite, stepE_chain, stepE_slice, stepE_call, evD, evDs, evArgs, optI, truthE, truth, O.tree, O.toD, O.trees, O.toDs, v_add, v_sub, v_le, v_lt, v_ge, v_gt, v_min, v_max, v_eq, v_ne, v_is, v_isnt, v_t20, v_t21, u_lenL, u_lenT2, beq_self_eq_true, decide_true, Nat.reduceAdd, Nat.reduceLT, Nat.zero_add, Bool.and_self, Bool.and_true, Bool.true_and, u_isT, u_int, u_intB, u_abs, u_neg, u_tupL, u_revT, seq?, setO, assignT, assignTs, isTy, List.getElem?_cons_zero, List.getElem?_cons_succ, Option.join_some, List.set_cons_zero, List.set_cons_succ, List.length_cons, List.length_nil, Res.bind, if_true, if_false, Nat.lt_irrefl, Bool.not_true, Bool.not_false, reduceIte, Bool.false_eq_true, toDs_val, trees_val, k]
theorem q5c (m : Nat) (x : Option O) : stepE Tb (evN Tb (m + 60)) (exN Tb (m + 60)) c5c [some (.val (.int u)), some (.val (dft ws)), some (.val (.list (allF u ws))), x, none, none, none] = .ok (.lst (((allF u ws).filter fun d => !isNone d).map .val), [some (.val (.int u)), some (.val (dft ws)), some (.val (.list (allF u ws))), x, none, none, none]) := by
  have := compF (T := Tb) (exs := exN Tb (m + 60)) (fun d => d) (allF u ws) (fun d => [some (.val (.int u)), some (.val (dft ws)), some (.val (.list (allF u ws))), x, none, none, some (.val d)]) (fun d => !isNone d) (fun d => d) (c := (.op2 .isnt (.var 6) .none)) (elt := .var 6) (t := .nm 6) (it := .seq (.var 2)) (ev := evN Tb (m + 60)) (env := [some (.val (.int u)), some (.val (dft ws)), some (.val (.list (allF u ws))), x, none, none, none]) (env1 := [some (.val (.int u)), some (.val (dft ws)), some (.val (.list (allF u ws))), x, none, none, none]) (by rw [List.map_id']; exact items_seq rfl) (by rw [len_allF]; exact most_ok (by omega)) rfl (fun d _ => ⟨rfl, rfl⟩) (fun d _ => by simp only [evS, exS, okb, stb, seqS, one, stepE_none, stepE_bl, stepE_int, stepE_str, stepE_var, stepE_glb, stepE_tup, stepE_lst, stepE_op1, stepE_op2, stepE_not, stepE_and, stepE_or, stepE_ite, stepE_chain, stepE_slice, stepE_call, evD, evDs, evArgs, optI, truthE, truth, O.tree, O.toD, O.trees, O.toDs, v_add, v_sub, v_le, v_lt, v_ge, v_gt, v_min, v_max, v_eq, v_ne, v_is, v_isnt, v_t20, v_t21, u_lenL, u_lenT2, beq_self_eq_true, decide_true, Nat.reduceAdd, Nat.reduceLT, Nat.zero_add, Bool.and_self, Bool.and_true, Bool.true_and, u_isT, u_int, u_intB, u_abs, u_neg, u_tupL, u_revT, seq?, setO, assignT, assignTs, isTy, List.getElem?_cons_zero, List.getElem?_cons_succ, Option.join_some, List.set_cons_zero, List.set_cons_succ, List.length_cons, List.length_nil, Res.bind, if_true, if_false, Nat.lt_irrefl, Bool.not_true, Bool.not_false, reduceIte, Bool.false_eq_true, toDs_val, trees_val, isnt_none]) (fun d _ => by simp only [evS, exS, okb, stb, seqS, one, stepE_none, stepE_bl, stepE_int, stepE_str, stepE_var, stepE_glb, stepE_tup, stepE_lst, stepE_op1, stepE_op2, stepE_not, stepE_and, stepE_or, stepE_ite, stepE_chain, stepE_slice, stepE_call, evD, evDs, evArgs, optI, truthE, truth, O.tree, O.toD, O.trees, O.toDs, v_add, v_sub, v_le, v_lt, v_ge, v_gt, v_min, v_max, v_eq, v_ne, v_is, v_isnt, v_t20, v_t21, u_lenL, u_lenT2, beq_self_eq_true, decide_true, Nat.reduceAdd, Nat.reduceLT, Nat.zero_add, Bool.and_self, Bool.and_true, Bool.true_and, u_isT, u_int, u_intB, u_abs, u_neg, u_tupL, u_revT, seq?, setO, assignT, assignTs, isTy, List.getElem?_cons_zero, List.getElem?_cons_succ, Option.join_some, List.set_cons_zero, List.set_cons_succ, List.length_cons, List.length_nil, Res.bind, if_true, if_false, Nat.lt_irrefl, Bool.not_true, Bool.not_false, reduceIte, Bool.false_eq_true, toDs_val, trees_val])
  rwa [List.map_id'] at this
theorem r5 (hu : isN 20000 (.int u) = true) : Ret Tb (n + 80) 5 [.val (.int u), .val (dft ws)] (.lst ((FA u ws).map .val)) := by
  have k1 := fun m' env => call3 (T := Tb) (n := m' + 9) env (r1 m' (.int u) 20000)
  rw [hu] at k1
  have k2 := fun m' env => call1 (T := Tb) (n := m' + 5) env (r2t m')
  have qa := fun m => q5a u ws hl m
  have qb := fun m => q5b u ws hl m
  have qc := fun m x => q5c u ws hl m x
  have ua : ev1 .all (.list (ws.map fun _ => PyData.bool true)) = some (.val (.bool true)) := by
    rw [u_all (fun _ => true) ws]
    have : (ws.all fun _ => true) = true := by induction ws <;> simp_all
    rw [this]
  have el : ((ws.map PyData.tuple).length : Int) = (ws.length : Int) := by rw [List.length_map]
  have ad : ∀ xs : List D, xs.length ≤ 1 → ev2 .add (.list xs) (.list ((allF u ws).filter fun d => !isNone d)) = some (.lst ((xs ++ (allF u ws).filter fun d => !isNone d).map .val)) := by
    intro xs hx
    have : ((allF u ws).filter fun d => !isNone d).length ≤ 100 := Nat.le_trans (List.length_filter_le _ _) (by rw [len_allF]; exact hl)
    show (if xs.length + _ ≤ most then _ else none) = _
    rw [if_pos (most_ok (Nat.le_trans (Nat.add_le_add hx this) (by decide)))]
  refine ⟨[some (.val (.int u)), some (.val (dft ws))], ?_⟩
  unfold FA manyF
  by_cases c : 40 < ws.length
  · have c' : (40 < (ws.length : Int)) = True := eq_true (by omega)
    have a1 := ad [.tuple [.str "many", .int ws.length]] (Nat.le_refl 1)
    rw [if_pos c]
    simp only [callF, List.replicate, Nat.sub_self, List.append_nil, List.map_cons, List.map_nil, show Tb.fs[5]? = some f5 from rfl, f5, evS, exS, okb, stb, seqS, one, stepE_none, stepE_bl, stepE_int, stepE_str, stepE_var, stepE_glb, stepE_tup, stepE_lst, stepE_op1, stepE_op2, stepE_not, stepE_and, stepE_or, stepE_ite, stepE_chain, stepE_slice, stepE_call, evD, evDs, evArgs, optI, truthE, truth, O.tree, O.toD, O.trees, O.toDs, v_add, v_sub, v_le, v_lt, v_ge, v_gt, v_min, v_max, v_eq, v_ne, v_is, v_isnt, v_t20, v_t21, u_lenL, u_lenT2, beq_self_eq_true, decide_true, Nat.reduceAdd, Nat.reduceLT, Nat.zero_add, Bool.and_self, Bool.and_true, Bool.true_and, u_isT, u_int, u_intB, u_abs, u_neg, u_tupL, u_revT, seq?, setO, assignT, assignTs, isTy, List.getElem?_cons_zero, List.getElem?_cons_succ, Option.join_some, List.set_cons_zero, List.set_cons_succ, List.length_cons, List.length_nil, Res.bind, if_true, if_false, Nat.lt_irrefl, Bool.not_true, Bool.not_false, reduceIte, Bool.false_eq_true, toDs_val, trees_val, k1, k2, qa, qb, qc, ua, el, c', a1, show Tb.cs[1]? = some (.int 20000) from rfl, show Tb.cs[0]? = some (.int 40) from rfl, mo2, mo2', mo2'', show (0 + 1 ≤ most) = True from eq_true (by decide), show (1 ≤ most) = True from eq_true (by decide), show (Ty.list == Ty.list) = true from rfl, show 7 - 2 = 5 from rfl, List.cons_append, List.nil_append]
    rfl
  · have c' : (40 < (ws.length : Int)) = False := eq_false (by omega)
    have a1 := ad [] (by decide)
    rw [if_neg c]
    simp only [callF, List.replicate, Nat.sub_self, List.append_nil, List.map_cons, List.map_nil, show Tb.fs[5]? = some f5 from rfl, f5, evS, exS, okb, stb, seqS, one, stepE_none, stepE_bl, stepE_int, stepE_str, stepE_var, stepE_glb, stepE_tup, stepE_lst, stepE_op1, stepE_op2, stepE_not, stepE_and, stepE_or, stepE_ite, stepE_chain, stepE_slice, stepE_call, evD, evDs, evArgs, optI, truthE, truth, O.tree, O.toD, O.trees, O.toDs, v_add, v_sub, v_le, v_lt, v_ge, v_gt, v_min, v_max, v_eq, v_ne, v_is, v_isnt, v_t20, v_t21, u_lenL, u_lenT2, beq_self_eq_true, decide_true, Nat.reduceAdd, Nat.reduceLT, Nat.zero_add, Bool.and_self, Bool.and_true, Bool.true_and, u_isT, u_int, u_intB, u_abs, u_neg, u_tupL, u_revT, seq?, setO, assignT, assignTs, isTy, List.getElem?_cons_zero, List.getElem?_cons_succ, Option.join_some, List.set_cons_zero, List.set_cons_succ, List.length_cons, List.length_nil, Res.bind, if_true, if_false, Nat.lt_irrefl, Bool.not_true, Bool.not_false, reduceIte, Bool.false_eq_true, toDs_val, trees_val, k1, k2, qa, qb, qc, ua, el, c', a1, show Tb.cs[1]? = some (.int 20000) from rfl, show Tb.cs[0]? = some (.int 40) from rfl, decide_false, show (0 ≤ most) = True from eq_true (by decide), show (Ty.list == Ty.list) = true from rfl, show 7 - 2 = 5 from rfl, List.cons_append, List.nil_append]
    rfl
end
theorem r5e1 (n : Nat) {d v : D} (h : isN 20000 d = false) : callF Tb (exN Tb (n + 80)) 5 [.val d, .val v] = .err 1 := by
  have k1 := fun m' env => call3 (T := Tb) (n := m' + 9) env (r1 m' d 20000)
  rw [h] at k1
  simp only [callF, List.replicate, Nat.sub_self, List.append_nil, List.map_cons, List.map_nil, show Tb.fs[5]? = some f5 from rfl, f5, evS, exS, okb, stb, seqS, one, stepE_none, stepE_bl, stepE_int, stepE_str, stepE_var, stepE_glb, stepE_tup, stepE_lst, stepE_op1, stepE_op2, stepE_not, stepE_and, stepE_or, stepE_ite, stepE_chain, stepE_slice, stepE_call, evD, evDs, evArgs, optI, truthE, truth, O.tree, O.toD, O.trees, O.toDs, v_add, v_sub, v_le, v_lt, v_ge, v_gt, v_min, v_max, v_eq, v_ne, v_is, v_isnt, v_t20, v_t21, u_lenL, u_lenT2, beq_self_eq_true, decide_true, Nat.reduceAdd, Nat.reduceLT, Nat.zero_add, Bool.and_self, Bool.and_true, Bool.true_and, u_isT, u_int, u_intB, u_abs, u_neg, u_tupL, u_revT, seq?, setO, assignT, assignTs, isTy, List.getElem?_cons_zero, List.getElem?_cons_succ, Option.join_some, List.set_cons_zero, List.set_cons_succ, List.length_cons, List.length_nil, Res.bind, if_true, if_false, Nat.lt_irrefl, Bool.not_true, Bool.not_false, reduceIte, Bool.false_eq_true, toDs_val, trees_val, k1, k2f, show Tb.cs[1]? = some (.int 20000) from rfl, show 7 - 2 = 5 from rfl, List.cons_append, List.nil_append]
def isDr : D → Bool
  | .list xs => xs.all (isTy .tuple)
  | _ => false
theorem r5e2 (n : Nat) {u : Int} {v : D} (hu : isN 20000 (.int u) = true) (h : isDr v = false) (hl : ∀ xs, v = .list xs → xs.length ≤ 100) : callF Tb (exN Tb (n + 80)) 5 [.val (.int u), .val v] = .err 1 := by
  have k1 := fun m' env => call3 (T := Tb) (n := m' + 9) env (r1 m' (.int u) 20000)
  rw [hu] at k1
  have k2 := fun m' env => call1 (T := Tb) (n := m' + 5) env (r2t m')
  have t1 : (Ty.list == Ty.int) = false := rfl
  have t2 : (Ty.list == Ty.bool) = false := rfl
  have t3 : (Ty.list == Ty.str) = false := rfl
  have t4 : (Ty.list == Ty.tuple) = false := rfl
  have t5 : (Ty.list == Ty.dict) = false := rfl
  have t6 : (Ty.list == Ty.list) = true := rfl
  cases v with
  | list xs =>
    have hl := hl xs rfl
    have qa : ∃ q : D → Bool, xs.all q = false ∧ ∀ m, stepE Tb (evN Tb (m + 60)) (exN Tb (m + 60)) c5a [some (.val (.int u)), some (.val (.list xs)), none, none, none, none, none] = .ok (.lst ((xs.map fun d => PyData.bool (q d)).map .val), [some (.val (.int u)), some (.val (.list xs)), none, none, none, none, none]) := ⟨isTy .tuple, h, fun m =>
      compM (fun d => d) xs (fun w => [some (.val (.int u)), some (.val (.list xs)), none, none, none, some (.val w), none]) (fun d => .bool (isTy .tuple d)) (by rw [List.map_id']; exact items_seq rfl) (most_ok (by omega)) rfl (fun d _ => ⟨rfl, rfl⟩) fun d _ => by simp only [evS, exS, okb, stb, seqS, one, stepE_none, stepE_bl, stepE_int, stepE_str, stepE_var, stepE_glb, stepE_tup, stepE_lst, stepE_op1, stepE_op2, stepE_not, stepE_and, stepE_or, stepE_ite, stepE_chain, stepE_slice, stepE_call, evD, evDs, evArgs, optI, truthE, truth, O.tree, O.toD, O.trees, O.toDs, v_add, v_sub, v_le, v_lt, v_ge, v_gt, v_min, v_max, v_eq, v_ne, v_is, v_isnt, v_t20, v_t21, u_lenL, u_lenT2, beq_self_eq_true, decide_true, Nat.reduceAdd, Nat.reduceLT, Nat.zero_add, Bool.and_self, Bool.and_true, Bool.true_and, u_isT, u_int, u_intB, u_abs, u_neg, u_tupL, u_revT, seq?, setO, assignT, assignTs, isTy, List.getElem?_cons_zero, List.getElem?_cons_succ, Option.join_some, List.set_cons_zero, List.set_cons_succ, List.length_cons, List.length_nil, Res.bind, if_true, if_false, Nat.lt_irrefl, Bool.not_true, Bool.not_false, reduceIte, Bool.false_eq_true, toDs_val, trees_val]⟩
    obtain ⟨q, hq, qa⟩ := qa
    have ua := u_all q xs
    rw [hq] at ua
    unfold c5a at qa
    simp only [callF, List.replicate, Nat.sub_self, List.append_nil, List.map_cons, List.map_nil, show Tb.fs[5]? = some f5 from rfl, f5, evS, exS, okb, stb, seqS, one, stepE_none, stepE_bl, stepE_int, stepE_str, stepE_var, stepE_glb, stepE_tup, stepE_lst, stepE_op1, stepE_op2, stepE_not, stepE_and, stepE_or, stepE_ite, stepE_chain, stepE_slice, stepE_call, evD, evDs, evArgs, optI, truthE, truth, O.tree, O.toD, O.trees, O.toDs, v_add, v_sub, v_le, v_lt, v_ge, v_gt, v_min, v_max, v_eq, v_ne, v_is, v_isnt, v_t20, v_t21, u_lenL, u_lenT2, beq_self_eq_true, decide_true, Nat.reduceAdd, Nat.reduceLT, Nat.zero_add, Bool.and_self, Bool.and_true, Bool.true_and, u_isT, u_int, u_intB, u_abs, u_neg, u_tupL, u_revT, seq?, setO, assignT, assignTs, isTy, List.getElem?_cons_zero, List.getElem?_cons_succ, Option.join_some, List.set_cons_zero, List.set_cons_succ, List.length_cons, List.length_nil, Res.bind, if_true, if_false, Nat.lt_irrefl, Bool.not_true, Bool.not_false, reduceIte, Bool.false_eq_true, toDs_val, trees_val, k1, k2, k2f, qa, ua, t6, show Tb.cs[1]? = some (.int 20000) from rfl, show 7 - 2 = 5 from rfl, List.cons_append, List.nil_append]
  | _ => simp only [callF, List.replicate, Nat.sub_self, List.append_nil, List.map_cons, List.map_nil, show Tb.fs[5]? = some f5 from rfl, f5, evS, exS, okb, stb, seqS, one, stepE_none, stepE_bl, stepE_int, stepE_str, stepE_var, stepE_glb, stepE_tup, stepE_lst, stepE_op1, stepE_op2, stepE_not, stepE_and, stepE_or, stepE_ite, stepE_chain, stepE_slice, stepE_call, evD, evDs, evArgs, optI, truthE, truth, O.tree, O.toD, O.trees, O.toDs, v_add, v_sub, v_le, v_lt, v_ge, v_gt, v_min, v_max, v_eq, v_ne, v_is, v_isnt, v_t20, v_t21, u_lenL, u_lenT2, beq_self_eq_true, decide_true, Nat.reduceAdd, Nat.reduceLT, Nat.zero_add, Bool.and_self, Bool.and_true, Bool.true_and, u_isT, u_int, u_intB, u_abs, u_neg, u_tupL, u_revT, seq?, setO, assignT, assignTs, isTy, List.getElem?_cons_zero, List.getElem?_cons_succ, Option.join_some, List.set_cons_zero, List.set_cons_succ, List.length_cons, List.length_nil, Res.bind, if_true, if_false, Nat.lt_irrefl, Bool.not_true, Bool.not_false, reduceIte, Bool.false_eq_true, toDs_val, trees_val, k1, k2, k2f, t1, t2, t3, t4, t5, Bool.or_false, show Tb.cs[1]? = some (.int 20000) from rfl, show 7 - 2 = 5 from rfl, List.cons_append, List.nil_append]
/-! told -/
abbrev noD : D := .list [.bool true, .bool false, .bool false, .bool false, .bool false]
theorem r14 (n : Nat) (u : Int) (ws : List (List D)) (hl : ws.length ≤ 100) (hu : isN 20000 (.int u) = true) : Ret Tb (n + 90) 14 [.val (.int u), .val (dft ws)] (.lst ((FA u ws).map .val)) := by
  have k := fun m' env => call2 (T := Tb) (n := m' + 80) env (r5 m' u ws hl hu)
  have hb : exN Tb (n + 89) [(.retO (.call 5 [(.var 0), (.var 1)]))] [some (.val (.int u)), some (.val (dft ws)), none] = .ok (.ret (.lst ((FA u ws).map .val)), [some (.val (.int u)), some (.val (dft ws)), none]) := by
    simp only [evS, exS, okb, stb, seqS, one, stepE_none, stepE_bl, stepE_int, stepE_str, stepE_var, stepE_glb, stepE_tup, stepE_lst, stepE_op1, stepE_op2, stepE_not, stepE_and, stepE_or, stepE_ite, stepE_chain, stepE_slice, stepE_call, evD, evDs, evArgs, optI, truthE, truth, O.tree, O.toD, O.trees, O.toDs, v_add, v_sub, v_le, v_lt, v_ge, v_gt, v_min, v_max, v_eq, v_ne, v_is, v_isnt, v_t20, v_t21, u_lenL, u_lenT2, beq_self_eq_true, decide_true, Nat.reduceAdd, Nat.reduceLT, Nat.zero_add, Bool.and_self, Bool.and_true, Bool.true_and, u_isT, u_int, u_intB, u_abs, u_neg, u_tupL, u_revT, seq?, setO, assignT, assignTs, isTy, List.getElem?_cons_zero, List.getElem?_cons_succ, Option.join_some, List.set_cons_zero, List.set_cons_succ, List.length_cons, List.length_nil, Res.bind, if_true, if_false, Nat.lt_irrefl, Bool.not_true, Bool.not_false, reduceIte, Bool.false_eq_true, toDs_val, trees_val, k]
  exact ⟨_, callF_ret (d := f14) (os := [.val (.int u), .val (dft ws)]) (env := [some (.val (.int u)), some (.val (dft ws)), none]) (e0 := [some (.val (.int u)), some (.val (dft ws)), none]) rfl rfl rfl ((exS (n := n + 89) _ _).trans (seq_ret (one_tryK rfl hb))) rfl⟩
theorem r14e (n : Nat) {d v : D} (h : ∀ m, callF Tb (exN Tb (m + 80)) 5 [.val d, .val v] = .err 1) : Ret Tb (n + 90) 14 [.val d, .val v] (.val noD) := by
  have k := fun m' env => call_e (n := m' + 80) (f := 5) (env := env) (os := [d, v]) (h m')
  simp only [List.map_cons, List.map_nil] at k
  have hb : exN Tb (n + 89) [(.retO (.call 5 [(.var 0), (.var 1)]))] [some (.val d), some (.val v), none] = .err 1 := by
    simp only [evS, exS, okb, stb, seqS, one, stepE_none, stepE_bl, stepE_int, stepE_str, stepE_var, stepE_glb, stepE_tup, stepE_lst, stepE_op1, stepE_op2, stepE_not, stepE_and, stepE_or, stepE_ite, stepE_chain, stepE_slice, stepE_call, evD, evDs, evArgs, optI, truthE, truth, O.tree, O.toD, O.trees, O.toDs, v_add, v_sub, v_le, v_lt, v_ge, v_gt, v_min, v_max, v_eq, v_ne, v_is, v_isnt, v_t20, v_t21, u_lenL, u_lenT2, beq_self_eq_true, decide_true, Nat.reduceAdd, Nat.reduceLT, Nat.zero_add, Bool.and_self, Bool.and_true, Bool.true_and, u_isT, u_int, u_intB, u_abs, u_neg, u_tupL, u_revT, seq?, setO, assignT, assignTs, isTy, List.getElem?_cons_zero, List.getElem?_cons_succ, Option.join_some, List.set_cons_zero, List.set_cons_succ, List.length_cons, List.length_nil, Res.bind, if_true, if_false, Nat.lt_irrefl, Bool.not_true, Bool.not_false, reduceIte, Bool.false_eq_true, toDs_val, trees_val, k]
  refine ⟨_, callF_ret (d := f14) (os := [.val d, .val v]) (env := [some (.val d), some (.val v), none]) (e0 := [some (.val d), some (.val v), none]) rfl rfl rfl ((exS (n := n + 89) _ _).trans (seq_ret ((one_tryE rfl hb).trans ?_))) rfl⟩
  show (if ((1 : Nat) < Tb.nx ∧ 0 < Tb.nx) ∧ 2 = 2 then _ else _) = _
  rw [if_pos ⟨⟨by decide, by decide⟩, rfl⟩]
  rw [if_pos (show Tb.sub 1 0 = true by decide)]
  rfl
/-! are they words -/
theorem none_flt (u : Int) (w : List D) (k k' : Int) : isNone (flt u w k) = isNone (flt u w k') := by
  obtain ⟨_, h1⟩ := r7 0 u k w
  obtain ⟨_, h2⟩ := r7 0 u k' w
  rw [h1] at h2
  injection h2 with h2
  injection (Prod.mk.inj h2).1 with h3
  injection h3
def okF (u : Int) (ws : List (List D)) : Bool := decide ((ws.length : Int) ≤ 40) && ws.all fun w => isNone (flt u w 0)
theorem okF_FA (u : Int) (ws : List (List D)) : (FA u ws).isEmpty = okF u ws := by
  have h1 : ((allF u ws).filter fun d => !isNone d).isEmpty = ws.all fun w => isNone (flt u w 0) := by
    rw [Bool.eq_iff_iff, List.isEmpty_iff, List.filter_eq_nil_iff, List.all_eq_true]
    unfold allF nums
    constructor
    · intro h w hw
      obtain ⟨i, hi⟩ := List.mem_iff_getElem?.mp hw
      have := h (flt u w i) (List.mem_map.mpr ⟨(i, w), List.mem_of_getElem? (i := i) (by rw [List.getElem?_mapIdx, hi]; rfl), rfl⟩)
      rw [none_flt u w 0 i]
      simpa using this
    · intro h d hd
      obtain ⟨⟨i, w⟩, hp, rfl⟩ := List.mem_map.mp hd
      obtain ⟨j, hj⟩ := List.mem_iff_getElem?.mp hp
      rw [List.getElem?_mapIdx] at hj
      cases e : ws[j]? with
      | none => rw [e] at hj; cases hj
      | some v =>
        rw [e] at hj
        injection hj with hj
        obtain ⟨_, rfl⟩ := Prod.mk.inj hj
        have := h v (List.mem_of_getElem? e)
        rw [none_flt u v i 0, this]
        decide
  unfold FA okF manyF
  by_cases c : 40 < ws.length
  · rw [if_pos c, decide_eq_false (by omega)]; rfl
  · rw [if_neg c, decide_eq_true (by omega), List.nil_append, h1]; rfl
theorem r8 (n : Nat) (u : Int) (ws : List (List D)) (hl : ws.length ≤ 100) : Ret Tb (n + 70) 8 [.val (.int u), .val (dft ws)] (.val (.bool (okF u ws))) := by
  have k := fun m' w env => call2 (T := Tb) (n := m' + 50) env (r7 m' u 0 w)
  have qa : ∀ m, stepE Tb (evN Tb (m + 55)) (exN Tb (m + 55)) (.comp (.call 7 [(.var 0), (.var 2)]) (.nm 2) (.seq (.var 1)) none) [some (.val (.int u)), some (.val (dft ws)), none] = .ok (.lst ((ws.map fun w => PyData.bool (isNone (flt u w 0))).map .val), [some (.val (.int u)), some (.val (dft ws)), none]) := fun m =>
    compM PyData.tuple ws (fun w => [some (.val (.int u)), some (.val (dft ws)), some (.val (.tuple w))]) (fun w => .bool (isNone (flt u w 0))) (items_seq rfl) (most_ok (by omega)) rfl (fun d _ => ⟨rfl, rfl⟩) fun d _ => by simp only [evS, exS, okb, stb, seqS, one, stepE_none, stepE_bl, stepE_int, stepE_str, stepE_var, stepE_glb, stepE_tup, stepE_lst, stepE_op1, stepE_op2, stepE_not, stepE_and, stepE_or, stepE_ite, stepE_chain, stepE_slice, stepE_call, evD, evDs, evArgs, optI, truthE, truth, O.tree, O.toD, O.trees, O.toDs, v_add, v_sub, v_le, v_lt, v_ge, v_gt, v_min, v_max, v_eq, v_ne, v_is, v_isnt, v_t20, v_t21, u_lenL, u_lenT2, beq_self_eq_true, decide_true, Nat.reduceAdd, Nat.reduceLT, Nat.zero_add, Bool.and_self, Bool.and_true, Bool.true_and, u_isT, u_int, u_intB, u_abs, u_neg, u_tupL, u_revT, seq?, setO, assignT, assignTs, isTy, List.getElem?_cons_zero, List.getElem?_cons_succ, Option.join_some, List.set_cons_zero, List.set_cons_succ, List.length_cons, List.length_nil, Res.bind, if_true, if_false, Nat.lt_irrefl, Bool.not_true, Bool.not_false, reduceIte, Bool.false_eq_true, toDs_val, trees_val, k]
  have ua := u_all (fun w => isNone (flt u w 0)) ws
  have el : ((ws.map PyData.tuple).length : Int) = (ws.length : Int) := by rw [List.length_map]
  refine ⟨[some (.val (.int u)), some (.val (dft ws))], ?_⟩
  unfold okF
  by_cases c : (ws.length : Int) ≤ 40
  · rw [decide_eq_true c, Bool.true_and]
    have c' : ((ws.length : Int) ≤ 40) = True := eq_true c
    simp only [callF, List.replicate, Nat.sub_self, List.append_nil, List.map_cons, List.map_nil, show Tb.fs[8]? = some f8 from rfl, f8, evS, exS, okb, stb, seqS, one, stepE_none, stepE_bl, stepE_int, stepE_str, stepE_var, stepE_glb, stepE_tup, stepE_lst, stepE_op1, stepE_op2, stepE_not, stepE_and, stepE_or, stepE_ite, stepE_chain, stepE_slice, stepE_call, evD, evDs, evArgs, optI, truthE, truth, O.tree, O.toD, O.trees, O.toDs, v_add, v_sub, v_le, v_lt, v_ge, v_gt, v_min, v_max, v_eq, v_ne, v_is, v_isnt, v_t20, v_t21, u_lenL, u_lenT2, beq_self_eq_true, decide_true, Nat.reduceAdd, Nat.reduceLT, Nat.zero_add, Bool.and_self, Bool.and_true, Bool.true_and, u_isT, u_int, u_intB, u_abs, u_neg, u_tupL, u_revT, seq?, setO, assignT, assignTs, isTy, List.getElem?_cons_zero, List.getElem?_cons_succ, Option.join_some, List.set_cons_zero, List.set_cons_succ, List.length_cons, List.length_nil, Res.bind, if_true, if_false, Nat.lt_irrefl, Bool.not_true, Bool.not_false, reduceIte, Bool.false_eq_true, toDs_val, trees_val, qa, ua, el, c', show Tb.cs[4]? = some (.int 40) from rfl, show (Ty.list == Ty.list) = true from rfl, show 3 - 2 = 1 from rfl, List.cons_append, List.nil_append]
    rfl
  · rw [decide_eq_false c, Bool.false_and]
    have c' : ((ws.length : Int) ≤ 40) = False := eq_false c
    simp only [callF, List.replicate, Nat.sub_self, List.append_nil, List.map_cons, List.map_nil, show Tb.fs[8]? = some f8 from rfl, f8, evS, exS, okb, stb, seqS, one, stepE_none, stepE_bl, stepE_int, stepE_str, stepE_var, stepE_glb, stepE_tup, stepE_lst, stepE_op1, stepE_op2, stepE_not, stepE_and, stepE_or, stepE_ite, stepE_chain, stepE_slice, stepE_call, evD, evDs, evArgs, optI, truthE, truth, O.tree, O.toD, O.trees, O.toDs, v_add, v_sub, v_le, v_lt, v_ge, v_gt, v_min, v_max, v_eq, v_ne, v_is, v_isnt, v_t20, v_t21, u_lenL, u_lenT2, beq_self_eq_true, decide_true, Nat.reduceAdd, Nat.reduceLT, Nat.zero_add, Bool.and_self, Bool.and_true, Bool.true_and, u_isT, u_int, u_intB, u_abs, u_neg, u_tupL, u_revT, seq?, setO, assignT, assignTs, isTy, List.getElem?_cons_zero, List.getElem?_cons_succ, Option.join_some, List.set_cons_zero, List.set_cons_succ, List.length_cons, List.length_nil, Res.bind, if_true, if_false, Nat.lt_irrefl, Bool.not_true, Bool.not_false, reduceIte, Bool.false_eq_true, toDs_val, trees_val, qa, ua, el, c', decide_false, show Tb.cs[4]? = some (.int 40) from rfl, show (Ty.list == Ty.list) = true from rfl, show 3 - 2 = 1 from rfl, List.cons_append, List.nil_append]
    rfl
theorem r6 (n : Nat) {u : Int} (hu : isN 20000 (.int u) = true) : Ret Tb (n + 20) 6 [.val (.int u)] (.val .none) := by
  have k1 := fun m' env => call3 (T := Tb) (n := m' + 9) env (r1 m' (.int u) 20000)
  rw [hu] at k1
  have k2 := fun m' env => call1 (T := Tb) (n := m' + 5) env (r2t m')
  refine ⟨[some (.val (.int u))], ?_⟩
  simp only [callF, List.replicate, Nat.sub_self, List.append_nil, List.map_cons, List.map_nil, show Tb.fs[6]? = some f6 from rfl, f6, evS, exS, okb, stb, seqS, one, stepE_none, stepE_bl, stepE_int, stepE_str, stepE_var, stepE_glb, stepE_tup, stepE_lst, stepE_op1, stepE_op2, stepE_not, stepE_and, stepE_or, stepE_ite, stepE_chain, stepE_slice, stepE_call, evD, evDs, evArgs, optI, truthE, truth, O.tree, O.toD, O.trees, O.toDs, v_add, v_sub, v_le, v_lt, v_ge, v_gt, v_min, v_max, v_eq, v_ne, v_is, v_isnt, v_t20, v_t21, u_lenL, u_lenT2, beq_self_eq_true, decide_true, Nat.reduceAdd, Nat.reduceLT, Nat.zero_add, Bool.and_self, Bool.and_true, Bool.true_and, u_isT, u_int, u_intB, u_abs, u_neg, u_tupL, u_revT, seq?, setO, assignT, assignTs, isTy, List.getElem?_cons_zero, List.getElem?_cons_succ, Option.join_some, List.set_cons_zero, List.set_cons_succ, List.length_cons, List.length_nil, Res.bind, if_true, if_false, Nat.lt_irrefl, Bool.not_true, Bool.not_false, reduceIte, Bool.false_eq_true, toDs_val, trees_val, k1, k2, show Tb.cs[3]? = some (.int 20000) from rfl]
  rfl
theorem r9 (n : Nat) (u : Int) (ws : List (List D)) (hl : ws.length ≤ 100) (hu : isN 20000 (.int u) = true) : Ret Tb (n + 80) 9 [.val (.int u), .val (dft ws)] (.val (.bool (okF u ws))) := by
  have k6 := fun m' env => call1 (T := Tb) (n := m' + 20) env (r6 m' hu)
  have k8 := fun m' env => call2 (T := Tb) (n := m' + 70) env (r8 m' u ws hl)
  refine ⟨[some (.val (.int u)), some (.val (dft ws))], ?_⟩
  simp only [callF, List.replicate, Nat.sub_self, List.append_nil, List.map_cons, List.map_nil, show Tb.fs[9]? = some f9 from rfl, f9, evS, exS, okb, stb, seqS, one, stepE_none, stepE_bl, stepE_int, stepE_str, stepE_var, stepE_glb, stepE_tup, stepE_lst, stepE_op1, stepE_op2, stepE_not, stepE_and, stepE_or, stepE_ite, stepE_chain, stepE_slice, stepE_call, evD, evDs, evArgs, optI, truthE, truth, O.tree, O.toD, O.trees, O.toDs, v_add, v_sub, v_le, v_lt, v_ge, v_gt, v_min, v_max, v_eq, v_ne, v_is, v_isnt, v_t20, v_t21, u_lenL, u_lenT2, beq_self_eq_true, decide_true, Nat.reduceAdd, Nat.reduceLT, Nat.zero_add, Bool.and_self, Bool.and_true, Bool.true_and, u_isT, u_int, u_intB, u_abs, u_neg, u_tupL, u_revT, seq?, setO, assignT, assignTs, isTy, List.getElem?_cons_zero, List.getElem?_cons_succ, Option.join_some, List.set_cons_zero, List.set_cons_succ, List.length_cons, List.length_nil, Res.bind, if_true, if_false, Nat.lt_irrefl, Bool.not_true, Bool.not_false, reduceIte, Bool.false_eq_true, toDs_val, trees_val, k6, k8]
  rfl
end Hd

end
section
set_option autoImplicit false
set_option linter.all false
set_option maxRecDepth 100000
set_option maxHeartbeats 1000000
namespace Hd
open PySem Ev
/-! what may stand in a word -/
def wds : List Str := ["heard", "quiet", "went", "stood", "struck", "cried", "many", "1", "word", "form", "minute", "order"]
def okI : D → Bool
  | .int i => decide (-30000 ≤ i) && decide (i ≤ 30000)
  | .none => true
  | .bool _ => true
  | .str s => wds.contains s
  | _ => false
structure OkW (w : List D) : Prop where
  le : w.length ≤ 8
  it : ∀ d ∈ w, okI d = true
theorem sh_str : ∀ s ∈ wds, (PyData.shown (.str s)).length ≤ 40 := by decide +kernel
theorem okI_str {s : Str} (h : s ∈ wds) : okI (.str s) = true := List.contains_iff_mem.mpr h
theorem okI_int {i : Int} (h1 : -30000 ≤ i) (h2 : i ≤ 30000) : okI (.int i) = true := by
  show (decide _ && decide _) = true
  rw [decide_eq_true h1, decide_eq_true h2]; rfl
theorem len_shint {i : Int} {k : Nat} (h : i.natAbs < 2 ^ k) (hk : 0 < k) : (PyData.shown (.int i)).length ≤ k + 1 := by
  have h1 : i.natAbs.log2 < k := by
    by_cases h0 : i.natAbs = 0
    · rw [h0]; exact hk
    · exact (Nat.log2_lt h0).mpr h
  have h2 := PySem.int_text_length_le hk h1
  unfold PyData.shown
  rw [ofString_length]
  exact h2
structure It (d : D) : Prop where
  pl : d.plain = true
  dp : d.depth = 0
  hd : d.hasDict = false
  sh : d.showable = true
  ln : d.shown.length ≤ 40
  sm : simD d = true
  d0 : Hd.dp d = 0
theorem okI_it {d : D} (h : okI d = true) : It d := by
  cases d with
  | int i =>
    have h : (decide (-30000 ≤ i) && decide (i ≤ 30000)) = true := h
    rw [Bool.and_eq_true, decide_eq_true_eq, decide_eq_true_eq] at h
    have hb : i.natAbs < 2 ^ 20 := by omega
    refine ⟨rfl, rfl, rfl, decide_eq_true ?_, Nat.le_trans (len_shint hb (by decide)) (by decide), rfl, rfl⟩
    by_cases h0 : i.natAbs = 0
    · rw [h0]; decide
    · exact Nat.lt_trans ((Nat.log2_lt h0).mpr hb) (by decide)
  | none => exact ⟨rfl, rfl, rfl, rfl, by decide +kernel, rfl, rfl⟩
  | bool b => cases b <;> exact ⟨rfl, rfl, rfl, rfl, by decide +kernel, rfl, rfl⟩
  | str s => exact ⟨rfl, rfl, rfl, rfl, sh_str s (List.contains_iff_mem.mp h), rfl, rfl⟩
  | _ => cases h
/-! lists of them -/
theorem plainAll_of {l : List D} (h : ∀ d ∈ l, d.plain = true) : PyData.plainAll l = true := by
  induction l with
  | nil => rfl
  | cons a r ih =>
    show (a.plain && PyData.plainAll r) = true
    rw [h a List.mem_cons_self, ih fun d hd => h d (List.mem_cons_of_mem _ hd)]; rfl
theorem depthAll_of {k : Nat} {l : List D} (h : ∀ d ∈ l, d.depth ≤ k) : PyData.depthAll l ≤ k := by
  induction l with
  | nil => exact Nat.zero_le _
  | cons a r ih =>
    show max a.depth (PyData.depthAll r) ≤ k
    exact Nat.max_le.mpr ⟨h a List.mem_cons_self, ih fun d hd => h d (List.mem_cons_of_mem _ hd)⟩
theorem hasDictAll_of {l : List D} (h : ∀ d ∈ l, d.hasDict = false) : PyData.hasDictAll l = false := by
  induction l with
  | nil => rfl
  | cons a r ih =>
    show (a.hasDict || PyData.hasDictAll r) = false
    rw [h a List.mem_cons_self, ih fun d hd => h d (List.mem_cons_of_mem _ hd)]; rfl
theorem showableAll_of {l : List D} (h : ∀ d ∈ l, d.showable = true) : PyData.showableAll l = true := by
  induction l with
  | nil => rfl
  | cons a r ih =>
    show (a.showable && PyData.showableAll r) = true
    rw [h a List.mem_cons_self, ih fun d hd => h d (List.mem_cons_of_mem _ hd)]; rfl
theorem piled_of {c : Nat} {l : List D} (h : ∀ d ∈ l, d.shown.length ≤ c) : piled (PyData.shownAll l) ≤ (c + 2) * l.length := by
  induction l with
  | nil => exact Nat.zero_le _
  | cons a r ih =>
    show piled (a.shown :: PyData.shownAll r) ≤ _
    rw [piled_cons, List.length_cons, Nat.mul_succ]
    have := h a List.mem_cons_self
    have := ih fun d hd => h d (List.mem_cons_of_mem _ hd)
    omega
theorem textFrom_le : ∀ (ts : List Str) (k : Nat) (acc : Str), (textFrom k acc ts).length ≤ acc.length + piled ts
  | [], k, acc => Nat.le_refl _
  | t :: r, k, acc => by
    have h := textFrom_le r (k + 1) (acc ++ (if k > 0 then ", " else "" : String) ++ t)
    have e : (acc ++ (if k > 0 then ", " else "" : String) ++ t).length = acc.length + (if k > 0 then 2 else 0) + t.length := by
      rw [strLen_append, strLen_append]
      split <;> rfl
    rw [e] at h
    rw [piled_cons]
    show (textFrom (k + 1) _ r).length ≤ _
    have : (if k > 0 then 2 else 0 : Nat) ≤ 2 := by split <;> decide
    omega
theorem listText_le (ts : List Str) : (listText ts).length ≤ piled ts + 2 := by
  unfold listText
  rw [strLen_append]
  have := textFrom_le ts 0 (("[" : String) : Str)
  have e1 : ((("[" : String) : Str)).length = 1 := rfl
  have e2 : ((("]" : String) : Str)).length = 1 := rfl
  rw [e1] at this
  rw [e2]
  omega
theorem tupleText_le (ts : List Str) : (tupleText ts).length ≤ piled ts + 4 := by
  unfold tupleText
  rw [strLen_append, strLen_append]
  have e1 : ((("(" : String) : Str)).length = 1 := rfl
  have e2 : (((if ts.length == 1 then ",)" else ")" : String) : Str)).length ≤ 2 := by
    split
    · exact Nat.le_refl 2
    · exact show (1 : Nat) ≤ 2 by decide
  rw [e1]
  by_cases h : ts = []
  · subst h
    have e3 : (Str.join ((", " : String) : Str) []).length = 0 := rfl
    rw [e3]
    omega
  · have := join_length_add ts h
    omega
theorem okW_plain {w : List D} (h : OkW w) : PyData.plainAll w = true := plainAll_of fun d hd => (okI_it (h.it d hd)).pl
theorem okW_depth {w : List D} (h : OkW w) : (PyData.tuple w).depth ≤ 1 := by
  show PyData.depthAll w + 1 ≤ 1
  have := depthAll_of (k := 0) (l := w) fun d hd => Nat.le_of_eq (okI_it (h.it d hd)).dp
  omega
theorem okW_shown {w : List D} (h : OkW w) : (PyData.tuple w).shown.length ≤ 340 := by
  have h1 := tupleText_le (PyData.shownAll w)
  have h2 := piled_of (c := 40) (l := w) fun d hd => (okI_it (h.it d hd)).ln
  have h3 := h.le
  have h4 : (40 + 2) * w.length ≤ 42 * 8 := Nat.mul_le_mul_left 42 h3
  show (tupleText (PyData.shownAll w)).length ≤ _
  omega
theorem repr_ok {ws : List (List D)} (h : ∀ w ∈ ws, OkW w) (hl : ws.length ≤ 100) : ev1 .repr (dft ws) = some (.val (.str (dft ws).shown)) := by
  have a1 : (dft ws).plain = true := plainAll_of fun d hd => by
    obtain ⟨w, hw, rfl⟩ := List.mem_map.mp hd
    exact okW_plain (h w hw)
  have a2 : (dft ws).showable = true := showableAll_of fun d hd => by
    obtain ⟨w, hw, rfl⟩ := List.mem_map.mp hd
    exact showableAll_of fun d hd => (okI_it ((h w hw).it d hd)).sh
  have a3 : (dft ws).hasDict = false := hasDictAll_of fun d hd => by
    obtain ⟨w, hw, rfl⟩ := List.mem_map.mp hd
    exact hasDictAll_of fun d hd => (okI_it ((h w hw).it d hd)).hd
  have a4 : (dft ws).depth ≤ 50 := by
    have := depthAll_of (k := 1) (l := ws.map PyData.tuple) fun d hd => by
      obtain ⟨w, hw, rfl⟩ := List.mem_map.mp hd
      exact okW_depth (h w hw)
    show PyData.depthAll (ws.map PyData.tuple) + 1 ≤ 50
    omega
  have a5 : (dft ws).shown.length ≤ 1000000 := by
    have h1 := listText_le (PyData.shownAll (ws.map PyData.tuple))
    have h2 := piled_of (c := 340) (l := ws.map PyData.tuple) fun d hd => by
      obtain ⟨w, hw, rfl⟩ := List.mem_map.mp hd
      exact okW_shown (h w hw)
    rw [List.length_map] at h2
    have h3 : (340 + 2) * ws.length ≤ 342 * 100 := Nat.mul_le_mul_left 342 hl
    show (listText (PyData.shownAll (ws.map PyData.tuple))).length ≤ _
    omega
  have a6 : reprOk (dft ws) = true := by
    show (true && ((dft ws).plain && ((dft ws).showable && (!(dft ws).hasDict && (decide ((dft ws).depth ≤ 50) && decide ((dft ws).shown.length ≤ 1000000)))))) = true
    rw [a1, a2, a3, decide_eq_true a4, decide_eq_true a5]; rfl
  show (if reprOk (dft ws) = true then some (O.val (.str (dft ws).shown)) else none) = _
  rw [if_pos a6]
/-! comparisons -/
theorem eqT0 {w : List D} (h : OkW w) : ev2 .eq (.tuple w) (.tuple []) = some (.val (.bool w.isEmpty)) := by
  have h1 : (PyData.tuple w).plain = true := okW_plain h
  have h2 : decide ((PyData.tuple w).depth ≤ 20) = true := decide_eq_true (Nat.le_trans (okW_depth h) (by decide))
  have h3 : PyData.eqv (.tuple w) (.tuple []) = w.isEmpty := by
    cases w with
    | nil => simp [PyData.eqv, PyData.eqvAll]
    | cons a r => simp [PyData.eqv, PyData.eqvAll]
  simp only [ev2]
  rw [h1, h2, h3]
  rfl
theorem neL0D {l : List D} (h : ∀ d ∈ l, okI d = true) : ev2 .ne (.list l) (.list []) = some (.val (.bool (!l.isEmpty))) := by
  have h1 : (PyData.list l).plain = true := plainAll_of fun d hd => (okI_it (h d hd)).pl
  have h2 : decide ((PyData.list l).depth ≤ 20) = true := decide_eq_true (by
    have := depthAll_of (k := 0) (l := l) fun d hd => Nat.le_of_eq (okI_it (h d hd)).dp
    show PyData.depthAll l + 1 ≤ 20
    omega)
  have h3 : PyData.eqv (.list l) (.list []) = l.isEmpty := by
    cases l with
    | nil => simp [PyData.eqv, PyData.eqvAll]
    | cons a r => simp [PyData.eqv, PyData.eqvAll]
  simp only [ev2]
  rw [h1, h2, h3]
  rfl
theorem ninS (s : Str) : ev2 .nin (.str s) (.list [.str "went", .str "stood"]) = some (.val (.bool (!decide (s ∈ (["went", "stood"] : List Str))))) := v_ninA s ["went", "stood"] (by decide)
end Hd

end
section
set_option autoImplicit false
set_option linter.all false
set_option maxRecDepth 100000
set_option maxHeartbeats 1000000
namespace Hd
open PySem Ev
abbrev S16_1 : Ev.S := (.par [3, 4] [false, true] [(.cdct [("heard", 3), ("quiet", 3), ("went", 2), ("stood", 2), ("struck", 4)]), (.op2 .mul (.lst [(.tup [(.str "many"), (.op1 .len (.var 1))])]) (.op1 .int (.op2 .gt (.op1 .len (.var 1)) (.int 40))))])
abbrev S16_2 : Ev.S := (.forS (.nm 2) (.range (.op1 .len (.var 1))) [(.par [5, 6] [false, false] [(.op2 .idx (.var 1) (.var 2)), .none]), (.ifS (.or (.op2 .eq (.var 5) (.tup [])) (.or (.not (.op1 (.isT .str) (.op2 .idx (.var 5) (.int 0)))) (.op2 .ninD (.op2 .idx (.var 5) (.int 0)) (.var 3)))) [(.asg (.nm 6) (.tup [(.str "word"), (.var 2)]))] [(.ifS (.op2 .ne (.op1 .len (.var 5)) (.op2 .idxD (.var 3) (.op2 .idx (.var 5) (.int 0)))) [(.asg (.nm 6) (.tup [(.str "form"), (.var 2)]))] [(.ifS (.op2 .ne (.comp (.var 7) (.nm 7) (.seq (.slice (.var 5) (some (.op2 .add (.int 1) (.op1 .int (.op2 .eq (.op2 .idx (.var 5) (.int 0)) (.str "struck"))))) none)) (some (.not (.call 15 [(.var 7), (.var 0)])))) (.lst [])) [(.asg (.nm 6) (.tup [(.str "minute"), (.var 2)]))] [(.ifS (.and (.op2 .nin (.op2 .idx (.var 5) (.int 0)) (.lst [(.str "went"), (.str "stood")])) (.op2 .gt (.op2 .idx (.var 5) (.op2 .sub (.op1 .len (.var 5)) (.int 2))) (.op2 .idx (.var 5) (.op2 .sub (.op1 .len (.var 5)) (.int 1))))) [(.asg (.nm 6) (.tup [(.str "order"), (.var 2)]))] [(.ifS (.and (.op2 .eq (.op2 .idx (.var 5) (.int 0)) (.str "struck")) (.not (.call 15 [(.op2 .idx (.var 5) (.int 1)), (.int 400)]))) [(.asg (.nm 6) (.tup [(.str "many"), (.var 2), (.op2 .idx (.var 5) (.int 1))]))] [])])])])]), (.ifS (.op2 .isnt (.var 6) .none) [(.app 4 (.var 6))] [])])
abbrev S16_3 : Ev.S := (.retO (.move 4))
abbrev T16_1 : Ev.S := (.par [5, 6] [false, false] [(.op2 .idx (.var 1) (.var 2)), .none])
abbrev T16_2 : Ev.S := (.ifS (.or (.op2 .eq (.var 5) (.tup [])) (.or (.not (.op1 (.isT .str) (.op2 .idx (.var 5) (.int 0)))) (.op2 .ninD (.op2 .idx (.var 5) (.int 0)) (.var 3)))) [(.asg (.nm 6) (.tup [(.str "word"), (.var 2)]))] [(.ifS (.op2 .ne (.op1 .len (.var 5)) (.op2 .idxD (.var 3) (.op2 .idx (.var 5) (.int 0)))) [(.asg (.nm 6) (.tup [(.str "form"), (.var 2)]))] [(.ifS (.op2 .ne (.comp (.var 7) (.nm 7) (.seq (.slice (.var 5) (some (.op2 .add (.int 1) (.op1 .int (.op2 .eq (.op2 .idx (.var 5) (.int 0)) (.str "struck"))))) none)) (some (.not (.call 15 [(.var 7), (.var 0)])))) (.lst [])) [(.asg (.nm 6) (.tup [(.str "minute"), (.var 2)]))] [(.ifS (.and (.op2 .nin (.op2 .idx (.var 5) (.int 0)) (.lst [(.str "went"), (.str "stood")])) (.op2 .gt (.op2 .idx (.var 5) (.op2 .sub (.op1 .len (.var 5)) (.int 2))) (.op2 .idx (.var 5) (.op2 .sub (.op1 .len (.var 5)) (.int 1))))) [(.asg (.nm 6) (.tup [(.str "order"), (.var 2)]))] [(.ifS (.and (.op2 .eq (.op2 .idx (.var 5) (.int 0)) (.str "struck")) (.not (.call 15 [(.op2 .idx (.var 5) (.int 1)), (.int 400)]))) [(.asg (.nm 6) (.tup [(.str "many"), (.var 2), (.op2 .idx (.var 5) (.int 1))]))] [])])])])])
abbrev T16_3 : Ev.S := (.ifS (.op2 .isnt (.var 6) .none) [(.app 4 (.var 6))] [])
theorem mo0 : (0 ≤ most) = True := eq_true (by decide)
abbrev szD : D := .dict [(.str "heard", .int 3), (.str "quiet", .int 3), (.str "went", .int 2), (.str "stood", .int 2), (.str "struck", .int 4)]
abbrev E16 (u : Int) (ws : List (List D)) (k : Option O) (fs : List D) (w f : Option O) : Ev.Env := [some (.val (.int u)), some (.val (dft ws)), k, some (.val szD), some (.lst (fs.map .val)), w, f, none]
theorem nin_sz (s : Str) : ev2 .ninD (.str s) szD = some (.val (.bool (!(gt0.lookup s).isSome))) := by
  have h : (lookD [(.str "heard", .int 3), (.str "quiet", .int 3), (.str "went", .int 2), (.str "stood", .int 2), (.str "struck", .int 4)] s).isSome = (gt0.lookup s).isSome := by
    rcases str_cases s with h | ⟨h1, h2⟩
    · rcases h with rfl | rfl | rfl | rfl | rfl <;> decide +kernel
    · have e := fun r k => h2 0 r k
      rw [h1]
      have n1 : ∀ a : Str, (gt0.lookup a).isSome = true → ¬ (a = s) := fun a h e => by rw [e, h1] at h; cases h
      simp only [lookD, if_neg (n1 "heard" (by decide)), if_neg (n1 "quiet" (by decide)), if_neg (n1 "went" (by decide)), if_neg (n1 "stood" (by decide)), if_neg (n1 "struck" (by decide))]
      rfl
  show some (O.val (.bool (!(lookD _ s).isSome))) = _
  rw [h]
theorem ix_sz {s : Str} {z : Int} (h : s = "heard" ∧ z = 3 ∨ s = "quiet" ∧ z = 3 ∨ s = "went" ∧ z = 2 ∨ s = "stood" ∧ z = 2 ∨ s = "struck" ∧ z = 4) : ev2 .idxD szD (.str s) = some (.val (.int z)) := by
  rcases h with ⟨rfl, rfl⟩ | ⟨rfl, rfl⟩ | ⟨rfl, rfl⟩ | ⟨rfl, rfl⟩ | ⟨rfl, rfl⟩ <;> kernel_rfl
theorem lk_sz {s : Str} {z : Int} (h : s = "heard" ∧ z = 3 ∨ s = "quiet" ∧ z = 3 ∨ s = "went" ∧ z = 2 ∨ s = "stood" ∧ z = 2 ∨ s = "struck" ∧ z = 4) : gt0.lookup s = some z := by
  rcases h with ⟨rfl, rfl⟩ | ⟨rfl, rfl⟩ | ⟨rfl, rfl⟩ | ⟨rfl, rfl⟩ | ⟨rfl, rfl⟩ <;> decide +kernel
section
variable (m : Nat) (u k : Int) (ws : List (List D)) (fs : List D)
abbrev Done (w : List D) : Prop := Ev.one Tb (evN Tb (m + 50)) (exN Tb (m + 50)) T16_2 (E16 u ws (some (.val (.int k))) fs (some (.val (.tuple w))) (some (.val .none))) = .ok (.next, E16 u ws (some (.val (.int k))) fs (some (.val (.tuple w))) (some (.val (flt u w k))))
theorem q16nil : Done m u k ws fs [] := by
  have e := eqT0 (w := []) ⟨by decide, by simp⟩
  unfold Done T16_2 E16
  simp only [evS, exS, okb, stb, seqS, one, stepE_none, stepE_bl, stepE_int, stepE_str, stepE_var, stepE_glb, stepE_tup, stepE_lst, stepE_op1, stepE_op2, stepE_not, stepE_and, stepE_or, stepE_ite, stepE_chain, stepE_slice, stepE_call, evD, evDs, evArgs, optI, truthE, truth, O.tree, O.toD, O.trees, O.toDs, v_add, v_sub, v_le, v_lt, v_ge, v_gt, v_min, v_max, v_eq, v_ne, v_is, v_isnt, v_t20, v_t21, u_lenL, u_lenT2, beq_self_eq_true, decide_true, Nat.reduceAdd, Nat.reduceLT, Nat.zero_add, Bool.and_self, Bool.and_true, Bool.true_and, u_isT, u_int, u_intB, u_abs, u_neg, u_tupL, u_revT, seq?, setO, assignT, assignTs, isTy, List.getElem?_cons_zero, List.getElem?_cons_succ, Option.join_some, List.set_cons_zero, List.set_cons_succ, List.length_cons, List.length_nil, Res.bind, if_true, if_false, Nat.lt_irrefl, Bool.not_true, Bool.not_false, reduceIte, Bool.false_eq_true, toDs_val, trees_val, e, List.isEmpty_nil, mo0, mo2, mo2', mo2'']
  rfl
theorem q16odd (d : D) (r : List D) (hw : OkW (d :: r)) (hd : isTy .str d = false) : Done m u k ws fs (d :: r) := by
  have e := eqT0 hw
  have t1 : (Ty.str == Ty.int) = false := rfl
  have t2 : (Ty.str == Ty.bool) = false := rfl
  have t3 : (Ty.str == Ty.list) = false := rfl
  have t4 : (Ty.str == Ty.tuple) = false := rfl
  have t5 : (Ty.str == Ty.dict) = false := rfl
  unfold Done T16_2 E16
  cases d with
  | str s => cases hd
  | _ =>
    simp only [evS, exS, okb, stb, seqS, one, stepE_none, stepE_bl, stepE_int, stepE_str, stepE_var, stepE_glb, stepE_tup, stepE_lst, stepE_op1, stepE_op2, stepE_not, stepE_and, stepE_or, stepE_ite, stepE_chain, stepE_slice, stepE_call, evD, evDs, evArgs, optI, truthE, truth, O.tree, O.toD, O.trees, O.toDs, v_add, v_sub, v_le, v_lt, v_ge, v_gt, v_min, v_max, v_eq, v_ne, v_is, v_isnt, v_t20, v_t21, u_lenL, u_lenT2, beq_self_eq_true, decide_true, Nat.reduceAdd, Nat.reduceLT, Nat.zero_add, Bool.and_self, Bool.and_true, Bool.true_and, u_isT, u_int, u_intB, u_abs, u_neg, u_tupL, u_revT, seq?, setO, assignT, assignTs, isTy, List.getElem?_cons_zero, List.getElem?_cons_succ, Option.join_some, List.set_cons_zero, List.set_cons_succ, List.length_cons, List.length_nil, Res.bind, if_true, if_false, Nat.lt_irrefl, Bool.not_true, Bool.not_false, reduceIte, Bool.false_eq_true, toDs_val, trees_val, e, List.isEmpty_cons, ix0, t1, t2, t3, t4, t5, Bool.or_false, mo0, mo2, mo2', mo2'']
    rfl
theorem q16none (s : Str) (r : List D) (hw : OkW (.str s :: r)) (h : gt0.lookup s = none) (hf : flt u (.str s :: r) k = fWord k) : Done m u k ws fs (.str s :: r) := by
  have e := eqT0 hw
  have e2 := nin_sz s
  unfold Done
  rw [hf]
  unfold T16_2 E16
  simp only [evS, exS, okb, stb, seqS, one, stepE_none, stepE_bl, stepE_int, stepE_str, stepE_var, stepE_glb, stepE_tup, stepE_lst, stepE_op1, stepE_op2, stepE_not, stepE_and, stepE_or, stepE_ite, stepE_chain, stepE_slice, stepE_call, evD, evDs, evArgs, optI, truthE, truth, O.tree, O.toD, O.trees, O.toDs, v_add, v_sub, v_le, v_lt, v_ge, v_gt, v_min, v_max, v_eq, v_ne, v_is, v_isnt, v_t20, v_t21, u_lenL, u_lenT2, beq_self_eq_true, decide_true, Nat.reduceAdd, Nat.reduceLT, Nat.zero_add, Bool.and_self, Bool.and_true, Bool.true_and, u_isT, u_int, u_intB, u_abs, u_neg, u_tupL, u_revT, seq?, setO, assignT, assignTs, isTy, List.getElem?_cons_zero, List.getElem?_cons_succ, Option.join_some, List.set_cons_zero, List.set_cons_succ, List.length_cons, List.length_nil, Res.bind, if_true, if_false, Nat.lt_irrefl, Bool.not_true, Bool.not_false, reduceIte, Bool.false_eq_true, toDs_val, trees_val, e, List.isEmpty_cons, ix0, sS, e2, h, Option.isSome_none, mo0, mo2, mo2', mo2'']
theorem q16form (s : Str) (r : List D) (hw : OkW (.str s :: r)) (z : Int) (h : s = "heard" ∧ z = 3 ∨ s = "quiet" ∧ z = 3 ∨ s = "went" ∧ z = 2 ∨ s = "stood" ∧ z = 2 ∨ s = "struck" ∧ z = 4) (hr : ((r.length + 1 : Nat) : Int) ≠ z) (hf : flt u (.str s :: r) k = fForm k) : Done m u k ws fs (.str s :: r) := by
  have e := eqT0 hw
  have e2 := nin_sz s
  rw [lk_sz h] at e2
  have e3 := ix_sz h
  have e4 : (((r.length + 1 : Nat) : Int) == z) = false := beq_eq_false_iff_ne.mpr hr
  unfold Done
  rw [hf]
  unfold T16_2 E16
  simp only [evS, exS, okb, stb, seqS, one, stepE_none, stepE_bl, stepE_int, stepE_str, stepE_var, stepE_glb, stepE_tup, stepE_lst, stepE_op1, stepE_op2, stepE_not, stepE_and, stepE_or, stepE_ite, stepE_chain, stepE_slice, stepE_call, evD, evDs, evArgs, optI, truthE, truth, O.tree, O.toD, O.trees, O.toDs, v_add, v_sub, v_le, v_lt, v_ge, v_gt, v_min, v_max, v_eq, v_ne, v_is, v_isnt, v_t20, v_t21, u_lenL, u_lenT2, beq_self_eq_true, decide_true, Nat.reduceAdd, Nat.reduceLT, Nat.zero_add, Bool.and_self, Bool.and_true, Bool.true_and, u_isT, u_int, u_intB, u_abs, u_neg, u_tupL, u_revT, seq?, setO, assignT, assignTs, isTy, List.getElem?_cons_zero, List.getElem?_cons_succ, Option.join_some, List.set_cons_zero, List.set_cons_succ, List.length_cons, List.length_nil, Res.bind, if_true, if_false, Nat.lt_irrefl, Bool.not_true, Bool.not_false, reduceIte, Bool.false_eq_true, toDs_val, trees_val, e, List.isEmpty_cons, ix0, sS, e2, e3, e4, u_lenT, Option.isSome_some, mo0, mo2, mo2', mo2'']
abbrev cmp16 : Ev.E := (.comp (.var 7) (.nm 7) (.seq (.slice (.var 5) (some (.op2 .add (.int 1) (.op1 .int (.op2 .eq (.op2 .idx (.var 5) (.int 0)) (.str "struck"))))) none)) (some (.not (.call 15 [(.var 7), (.var 0)]))))
theorem filt_all (r : List D) : (r.filter fun d => !isN u d).isEmpty = r.all (isN u) := by
  rw [Bool.eq_iff_iff, List.isEmpty_iff, List.filter_eq_nil_iff, List.all_eq_true]
  refine forall_congr' fun d => forall_congr' fun _ => ?_
  cases isN u d <;> simp
theorem q16c (w r : List D) (f : Option O) (hl : r.length ≤ 100) (hi : items (evN Tb (m + 40)) (.seq (.slice (.var 5) (some (.op2 .add (.int 1) (.op1 .int (.op2 .eq (.op2 .idx (.var 5) (.int 0)) (.str "struck"))))) none)) (E16 u ws (some (.val (.int k))) fs (some (.val (.tuple w))) f) = .ok (r, E16 u ws (some (.val (.int k))) fs (some (.val (.tuple w))) f)) :
    stepE Tb (evN Tb (m + 40)) (exN Tb (m + 40)) cmp16 (E16 u ws (some (.val (.int k))) fs (some (.val (.tuple w))) f) = .ok (.lst ((r.filter fun d => !isN u d).map .val), E16 u ws (some (.val (.int k))) fs (some (.val (.tuple w))) f) := by
  have k15 := fun m' d env => call2 (T := Tb) (n := m' + 9) env (r15 m' d u)
  have := compF (T := Tb) (exs := exN Tb (m + 40)) (fun d => d) r (fun d => [some (.val (.int u)), some (.val (dft ws)), some (.val (.int k)), some (.val szD), some (.lst (fs.map .val)), some (.val (.tuple w)), f, some (.val d)]) (fun d => !isN u d) (fun d => d) (c := (.not (.call 15 [(.var 7), (.var 0)]))) (elt := .var 7) (t := .nm 7) (ev := evN Tb (m + 40)) (by rw [List.map_id']; exact hi) (most_ok (by omega)) rfl (fun d _ => ⟨rfl, rfl⟩) (fun d _ => by simp only [evS, exS, okb, stb, seqS, one, stepE_none, stepE_bl, stepE_int, stepE_str, stepE_var, stepE_glb, stepE_tup, stepE_lst, stepE_op1, stepE_op2, stepE_not, stepE_and, stepE_or, stepE_ite, stepE_chain, stepE_slice, stepE_call, evD, evDs, evArgs, optI, truthE, truth, O.tree, O.toD, O.trees, O.toDs, v_add, v_sub, v_le, v_lt, v_ge, v_gt, v_min, v_max, v_eq, v_ne, v_is, v_isnt, v_t20, v_t21, u_lenL, u_lenT2, beq_self_eq_true, decide_true, Nat.reduceAdd, Nat.reduceLT, Nat.zero_add, Bool.and_self, Bool.and_true, Bool.true_and, u_isT, u_int, u_intB, u_abs, u_neg, u_tupL, u_revT, seq?, setO, assignT, assignTs, isTy, List.getElem?_cons_zero, List.getElem?_cons_succ, Option.join_some, List.set_cons_zero, List.set_cons_succ, List.length_cons, List.length_nil, Res.bind, if_true, if_false, Nat.lt_irrefl, Bool.not_true, Bool.not_false, reduceIte, Bool.false_eq_true, toDs_val, trees_val, k15]) (fun d _ => by simp only [evS, exS, okb, stb, seqS, one, stepE_none, stepE_bl, stepE_int, stepE_str, stepE_var, stepE_glb, stepE_tup, stepE_lst, stepE_op1, stepE_op2, stepE_not, stepE_and, stepE_or, stepE_ite, stepE_chain, stepE_slice, stepE_call, evD, evDs, evArgs, optI, truthE, truth, O.tree, O.toD, O.trees, O.toDs, v_add, v_sub, v_le, v_lt, v_ge, v_gt, v_min, v_max, v_eq, v_ne, v_is, v_isnt, v_t20, v_t21, u_lenL, u_lenT2, beq_self_eq_true, decide_true, Nat.reduceAdd, Nat.reduceLT, Nat.zero_add, Bool.and_self, Bool.and_true, Bool.true_and, u_isT, u_int, u_intB, u_abs, u_neg, u_tupL, u_revT, seq?, setO, assignT, assignTs, isTy, List.getElem?_cons_zero, List.getElem?_cons_succ, Option.join_some, List.set_cons_zero, List.set_cons_succ, List.length_cons, List.length_nil, Res.bind, if_true, if_false, Nat.lt_irrefl, Bool.not_true, Bool.not_false, reduceIte, Bool.false_eq_true, toDs_val, trees_val])
  rwa [List.map_id'] at this
theorem q16two (s : Str) (h : s = "heard" ∧ (3 : Int) = 3 ∨ s = "quiet" ∧ (3 : Int) = 3 ∨ s = "went" ∧ (3 : Int) = 2 ∨ s = "stood" ∧ (3 : Int) = 2 ∨ s = "struck" ∧ (3 : Int) = 4) (hs : s ≠ "struck") (hn : s ∉ (["went", "stood"] : List Str)) (a b : D) (hw : OkW [.str s, a, b]) (hf : flt u [.str s, a, b] k = two u a b k .none) : Done m u k ws fs [.str s, a, b] := by
  have e := eqT0 hw
  have e2 := nin_sz s
  rw [lk_sz h] at e2
  have e3 := ix_sz h
  have e5 : decide (s = "struck") = false := decide_eq_false hs
  have e6 := ninS s
  rw [decide_eq_false hn] at e6
  have l3' : (((3 : Nat) : Int) == 3) = true := rfl
  have hc := fun m => q16c m u k ws fs [.str s, a, b] [a, b] (some (.val .none)) (by decide : 2 ≤ 100) (items_seqT (by simp only [E16, evS, exS, okb, stb, seqS, one, stepE_none, stepE_bl, stepE_int, stepE_str, stepE_var, stepE_glb, stepE_tup, stepE_lst, stepE_op1, stepE_op2, stepE_not, stepE_and, stepE_or, stepE_ite, stepE_chain, stepE_slice, stepE_call, evD, evDs, evArgs, optI, truthE, truth, O.tree, O.toD, O.trees, O.toDs, v_add, v_sub, v_le, v_lt, v_ge, v_gt, v_min, v_max, v_eq, v_ne, v_is, v_isnt, v_t20, v_t21, u_lenL, u_lenT2, beq_self_eq_true, decide_true, Nat.reduceAdd, Nat.reduceLT, Nat.zero_add, Bool.and_self, Bool.and_true, Bool.true_and, u_isT, u_int, u_intB, u_abs, u_neg, u_tupL, u_revT, seq?, setO, assignT, assignTs, isTy, List.getElem?_cons_zero, List.getElem?_cons_succ, Option.join_some, List.set_cons_zero, List.set_cons_succ, List.length_cons, List.length_nil, Res.bind, if_true, if_false, Nat.lt_irrefl, Bool.not_true, Bool.not_false, reduceIte, Bool.false_eq_true, toDs_val, trees_val, ix0, v_eqS, e5, show (1 : Int) + 0 = 1 from rfl, cut1]))
  have h1 := neL0D (l := [a, b].filter fun d => !isN u d) fun d hd => hw.it d (List.mem_cons_of_mem _ ((List.mem_filter.mp hd).1))
  rw [filt_all, all2] at h1
  unfold cmp16 E16 at hc
  unfold Done
  rw [hf]
  generalize List.filter (fun d => !isN u d) [a, b] = bad at *
  by_cases c : (isN u a && isN u b) = true
  · obtain ⟨c1, c2⟩ := Bool.and_eq_true_iff.mp c
    obtain ⟨x, rfl, _, _⟩ := isN_int c1
    obtain ⟨y, rfl, _, _⟩ := isN_int c2
    have i1 : ev2 .idx (.tuple [.str s, .int x, .int y]) (.int (((3 : Nat) : Int) - 2)) = some (.val (.int x)) := rfl
    have i2 : ev2 .idx (.tuple [.str s, .int x, .int y]) (.int (((3 : Nat) : Int) - 1)) = some (.val (.int y)) := rfl
    rw [c] at h1
    unfold two
    rw [if_pos c, gt_int]
    unfold T16_2 E16
    by_cases q : y < x
    · simp only [evS, exS, okb, stb, seqS, one, stepE_none, stepE_bl, stepE_int, stepE_str, stepE_var, stepE_glb, stepE_tup, stepE_lst, stepE_op1, stepE_op2, stepE_not, stepE_and, stepE_or, stepE_ite, stepE_chain, stepE_slice, stepE_call, evD, evDs, evArgs, optI, truthE, truth, O.tree, O.toD, O.trees, O.toDs, v_add, v_sub, v_le, v_lt, v_ge, v_gt, v_min, v_max, v_eq, v_ne, v_is, v_isnt, v_t20, v_t21, u_lenL, u_lenT2, beq_self_eq_true, decide_true, Nat.reduceAdd, Nat.reduceLT, Nat.zero_add, Bool.and_self, Bool.and_true, Bool.true_and, u_isT, u_int, u_intB, u_abs, u_neg, u_tupL, u_revT, seq?, setO, assignT, assignTs, isTy, List.getElem?_cons_zero, List.getElem?_cons_succ, Option.join_some, List.set_cons_zero, List.set_cons_succ, List.length_cons, List.length_nil, Res.bind, if_true, if_false, Nat.lt_irrefl, Bool.not_true, Bool.not_false, reduceIte, Bool.false_eq_true, toDs_val, trees_val, e, List.isEmpty_cons, ix0, sS, e2, e3, e5, e6, hc, h1, l3', u_lenT, v_eqS, i1, i2, q, Option.isSome_some, mo0, mo2, mo2', mo2'']
    · simp only [evS, exS, okb, stb, seqS, one, stepE_none, stepE_bl, stepE_int, stepE_str, stepE_var, stepE_glb, stepE_tup, stepE_lst, stepE_op1, stepE_op2, stepE_not, stepE_and, stepE_or, stepE_ite, stepE_chain, stepE_slice, stepE_call, evD, evDs, evArgs, optI, truthE, truth, O.tree, O.toD, O.trees, O.toDs, v_add, v_sub, v_le, v_lt, v_ge, v_gt, v_min, v_max, v_eq, v_ne, v_is, v_isnt, v_t20, v_t21, u_lenL, u_lenT2, beq_self_eq_true, decide_true, Nat.reduceAdd, Nat.reduceLT, Nat.zero_add, Bool.and_self, Bool.and_true, Bool.true_and, u_isT, u_int, u_intB, u_abs, u_neg, u_tupL, u_revT, seq?, setO, assignT, assignTs, isTy, List.getElem?_cons_zero, List.getElem?_cons_succ, Option.join_some, List.set_cons_zero, List.set_cons_succ, List.length_cons, List.length_nil, Res.bind, if_true, if_false, Nat.lt_irrefl, Bool.not_true, Bool.not_false, reduceIte, Bool.false_eq_true, toDs_val, trees_val, e, List.isEmpty_cons, ix0, sS, e2, e3, e5, e6, hc, h1, l3', u_lenT, v_eqS, i1, i2, q, Option.isSome_some, mo0, mo2, mo2', mo2'', decide_false]
  · unfold two
    have c := eq_false_of_ne_true c
    rw [c] at h1 ⊢
    unfold T16_2 E16
    simp only [evS, exS, okb, stb, seqS, one, stepE_none, stepE_bl, stepE_int, stepE_str, stepE_var, stepE_glb, stepE_tup, stepE_lst, stepE_op1, stepE_op2, stepE_not, stepE_and, stepE_or, stepE_ite, stepE_chain, stepE_slice, stepE_call, evD, evDs, evArgs, optI, truthE, truth, O.tree, O.toD, O.trees, O.toDs, v_add, v_sub, v_le, v_lt, v_ge, v_gt, v_min, v_max, v_eq, v_ne, v_is, v_isnt, v_t20, v_t21, u_lenL, u_lenT2, beq_self_eq_true, decide_true, Nat.reduceAdd, Nat.reduceLT, Nat.zero_add, Bool.and_self, Bool.and_true, Bool.true_and, u_isT, u_int, u_intB, u_abs, u_neg, u_tupL, u_revT, seq?, setO, assignT, assignTs, isTy, List.getElem?_cons_zero, List.getElem?_cons_succ, Option.join_some, List.set_cons_zero, List.set_cons_succ, List.length_cons, List.length_nil, Res.bind, if_true, if_false, Nat.lt_irrefl, Bool.not_true, Bool.not_false, reduceIte, Bool.false_eq_true, toDs_val, trees_val, e, List.isEmpty_cons, ix0, sS, e2, e3, e5, e6, hc, h1, l3', u_lenT, v_eqS, Option.isSome_some, mo0, mo2, mo2', mo2'']
theorem q16one (s : Str) (h : s = "heard" ∧ (2 : Int) = 3 ∨ s = "quiet" ∧ (2 : Int) = 3 ∨ s = "went" ∧ (2 : Int) = 2 ∨ s = "stood" ∧ (2 : Int) = 2 ∨ s = "struck" ∧ (2 : Int) = 4) (hs : s ≠ "struck") (hn : s ∈ (["went", "stood"] : List Str)) (a : D) (hw : OkW [.str s, a]) (hf : flt u [.str s, a] k = fl1 u k [a]) : Done m u k ws fs [.str s, a] := by
  have e := eqT0 hw
  have e2 := nin_sz s
  rw [lk_sz h] at e2
  have e3 := ix_sz h
  have e5 : decide (s = "struck") = false := decide_eq_false hs
  have e6 := ninS s
  rw [decide_eq_true hn] at e6
  have l3' : (((2 : Nat) : Int) == 2) = true := rfl
  have hc := fun m => q16c m u k ws fs [.str s, a] [a] (some (.val .none)) (by decide : 1 ≤ 100) (items_seqT (by simp only [E16, evS, exS, okb, stb, seqS, one, stepE_none, stepE_bl, stepE_int, stepE_str, stepE_var, stepE_glb, stepE_tup, stepE_lst, stepE_op1, stepE_op2, stepE_not, stepE_and, stepE_or, stepE_ite, stepE_chain, stepE_slice, stepE_call, evD, evDs, evArgs, optI, truthE, truth, O.tree, O.toD, O.trees, O.toDs, v_add, v_sub, v_le, v_lt, v_ge, v_gt, v_min, v_max, v_eq, v_ne, v_is, v_isnt, v_t20, v_t21, u_lenL, u_lenT2, beq_self_eq_true, decide_true, Nat.reduceAdd, Nat.reduceLT, Nat.zero_add, Bool.and_self, Bool.and_true, Bool.true_and, u_isT, u_int, u_intB, u_abs, u_neg, u_tupL, u_revT, seq?, setO, assignT, assignTs, isTy, List.getElem?_cons_zero, List.getElem?_cons_succ, Option.join_some, List.set_cons_zero, List.set_cons_succ, List.length_cons, List.length_nil, Res.bind, if_true, if_false, Nat.lt_irrefl, Bool.not_true, Bool.not_false, reduceIte, Bool.false_eq_true, toDs_val, trees_val, ix0, v_eqS, e5, show (1 : Int) + 0 = 1 from rfl, cut1]))
  have h1 := neL0D (l := [a].filter fun d => !isN u d) fun d hd => hw.it d (List.mem_cons_of_mem _ ((List.mem_filter.mp hd).1))
  rw [filt_all, show [a].all (isN u) = isN u a by simp only [List.all_cons, List.all_nil, Bool.and_true]] at h1
  unfold cmp16 E16 at hc
  unfold Done
  rw [hf, show fl1 u k [a] = if isN u a then .none else fMin k from rfl]
  generalize List.filter (fun d => !isN u d) [a] = bad at *
  cases c : isN u a with
  | true =>
    rw [c] at h1
    unfold T16_2 E16
    simp only [evS, exS, okb, stb, seqS, one, stepE_none, stepE_bl, stepE_int, stepE_str, stepE_var, stepE_glb, stepE_tup, stepE_lst, stepE_op1, stepE_op2, stepE_not, stepE_and, stepE_or, stepE_ite, stepE_chain, stepE_slice, stepE_call, evD, evDs, evArgs, optI, truthE, truth, O.tree, O.toD, O.trees, O.toDs, v_add, v_sub, v_le, v_lt, v_ge, v_gt, v_min, v_max, v_eq, v_ne, v_is, v_isnt, v_t20, v_t21, u_lenL, u_lenT2, beq_self_eq_true, decide_true, Nat.reduceAdd, Nat.reduceLT, Nat.zero_add, Bool.and_self, Bool.and_true, Bool.true_and, u_isT, u_int, u_intB, u_abs, u_neg, u_tupL, u_revT, seq?, setO, assignT, assignTs, isTy, List.getElem?_cons_zero, List.getElem?_cons_succ, Option.join_some, List.set_cons_zero, List.set_cons_succ, List.length_cons, List.length_nil, Res.bind, if_true, if_false, Nat.lt_irrefl, Bool.not_true, Bool.not_false, reduceIte, Bool.false_eq_true, toDs_val, trees_val, e, List.isEmpty_cons, ix0, sS, e2, e3, e5, e6, hc, h1, l3', u_lenT, v_eqS, Option.isSome_some, mo0, mo2, mo2', mo2'']
  | false =>
    rw [c] at h1
    unfold T16_2 E16
    simp only [evS, exS, okb, stb, seqS, one, stepE_none, stepE_bl, stepE_int, stepE_str, stepE_var, stepE_glb, stepE_tup, stepE_lst, stepE_op1, stepE_op2, stepE_not, stepE_and, stepE_or, stepE_ite, stepE_chain, stepE_slice, stepE_call, evD, evDs, evArgs, optI, truthE, truth, O.tree, O.toD, O.trees, O.toDs, v_add, v_sub, v_le, v_lt, v_ge, v_gt, v_min, v_max, v_eq, v_ne, v_is, v_isnt, v_t20, v_t21, u_lenL, u_lenT2, beq_self_eq_true, decide_true, Nat.reduceAdd, Nat.reduceLT, Nat.zero_add, Bool.and_self, Bool.and_true, Bool.true_and, u_isT, u_int, u_intB, u_abs, u_neg, u_tupL, u_revT, seq?, setO, assignT, assignTs, isTy, List.getElem?_cons_zero, List.getElem?_cons_succ, Option.join_some, List.set_cons_zero, List.set_cons_succ, List.length_cons, List.length_nil, Res.bind, if_true, if_false, Nat.lt_irrefl, Bool.not_true, Bool.not_false, reduceIte, Bool.false_eq_true, toDs_val, trees_val, e, List.isEmpty_cons, ix0, sS, e2, e3, e5, e6, hc, h1, l3', u_lenT, v_eqS, Option.isSome_some, mo0, mo2, mo2', mo2'']
theorem q16str (t a b : D) (hw : OkW [.str "struck", t, a, b]) : Done m u k ws fs [.str "struck", t, a, b] := by
  have h : (("struck" : String) : Str) = "heard" ∧ (4 : Int) = 3 ∨ (("struck" : String) : Str) = "quiet" ∧ (4 : Int) = 3 ∨ (("struck" : String) : Str) = "went" ∧ (4 : Int) = 2 ∨ (("struck" : String) : Str) = "stood" ∧ (4 : Int) = 2 ∨ (("struck" : String) : Str) = "struck" ∧ (4 : Int) = 4 := .inr (.inr (.inr (.inr ⟨rfl, rfl⟩)))
  have e := eqT0 hw
  have e2 := nin_sz "struck"
  rw [lk_sz h] at e2
  have e3 := ix_sz h
  have e6 := ninS "struck"
  rw [decide_eq_false (by decide)] at e6
  have hm := fun m' env => call2 (T := Tb) (n := m' + 9) env (r15 m' t 400)
  have l3' : (((4 : Nat) : Int) == 4) = true := rfl
  have hc := fun m => q16c m u k ws fs [.str "struck", t, a, b] [a, b] (some (.val .none)) (by decide : 2 ≤ 100) (items_seqT (by simp only [E16, evS, exS, okb, stb, seqS, one, stepE_none, stepE_bl, stepE_int, stepE_str, stepE_var, stepE_glb, stepE_tup, stepE_lst, stepE_op1, stepE_op2, stepE_not, stepE_and, stepE_or, stepE_ite, stepE_chain, stepE_slice, stepE_call, evD, evDs, evArgs, optI, truthE, truth, O.tree, O.toD, O.trees, O.toDs, v_add, v_sub, v_le, v_lt, v_ge, v_gt, v_min, v_max, v_eq, v_ne, v_is, v_isnt, v_t20, v_t21, u_lenL, u_lenT2, beq_self_eq_true, decide_true, Nat.reduceAdd, Nat.reduceLT, Nat.zero_add, Bool.and_self, Bool.and_true, Bool.true_and, u_isT, u_int, u_intB, u_abs, u_neg, u_tupL, u_revT, seq?, setO, assignT, assignTs, isTy, List.getElem?_cons_zero, List.getElem?_cons_succ, Option.join_some, List.set_cons_zero, List.set_cons_succ, List.length_cons, List.length_nil, Res.bind, if_true, if_false, Nat.lt_irrefl, Bool.not_true, Bool.not_false, reduceIte, Bool.false_eq_true, toDs_val, trees_val, ix0, v_eqS, show (1 : Int) + 1 = 2 from rfl, cut2]))
  have h1 := neL0D (l := [a, b].filter fun d => !isN u d) fun d hd => hw.it d (List.mem_cons_of_mem _ (List.mem_cons_of_mem _ ((List.mem_filter.mp hd).1)))
  rw [filt_all, all2] at h1
  have i0 : ev2 .idx (.tuple [.str "struck", t, a, b]) (.int 1) = some (.val t) := rfl
  unfold cmp16 E16 at hc
  unfold Done
  rw [show flt u [.str "struck", t, a, b] k = two u a b k (if isN 400 t then .none else fMany k t) from rfl]
  generalize List.filter (fun d => !isN u d) [a, b] = bad at *
  by_cases c : (isN u a && isN u b) = true
  · obtain ⟨c1, c2⟩ := Bool.and_eq_true_iff.mp c
    obtain ⟨x, rfl, _, _⟩ := isN_int c1
    obtain ⟨y, rfl, _, _⟩ := isN_int c2
    have i1 : ev2 .idx (.tuple [.str "struck", t, .int x, .int y]) (.int (((4 : Nat) : Int) - 2)) = some (.val (.int x)) := rfl
    have i2 : ev2 .idx (.tuple [.str "struck", t, .int x, .int y]) (.int (((4 : Nat) : Int) - 1)) = some (.val (.int y)) := rfl
    rw [c] at h1
    unfold two
    rw [if_pos c, gt_int]
    unfold T16_2 E16
    by_cases q : y < x
    · simp only [evS, exS, okb, stb, seqS, one, stepE_none, stepE_bl, stepE_int, stepE_str, stepE_var, stepE_glb, stepE_tup, stepE_lst, stepE_op1, stepE_op2, stepE_not, stepE_and, stepE_or, stepE_ite, stepE_chain, stepE_slice, stepE_call, evD, evDs, evArgs, optI, truthE, truth, O.tree, O.toD, O.trees, O.toDs, v_add, v_sub, v_le, v_lt, v_ge, v_gt, v_min, v_max, v_eq, v_ne, v_is, v_isnt, v_t20, v_t21, u_lenL, u_lenT2, beq_self_eq_true, decide_true, Nat.reduceAdd, Nat.reduceLT, Nat.zero_add, Bool.and_self, Bool.and_true, Bool.true_and, u_isT, u_int, u_intB, u_abs, u_neg, u_tupL, u_revT, seq?, setO, assignT, assignTs, isTy, List.getElem?_cons_zero, List.getElem?_cons_succ, Option.join_some, List.set_cons_zero, List.set_cons_succ, List.length_cons, List.length_nil, Res.bind, if_true, if_false, Nat.lt_irrefl, Bool.not_true, Bool.not_false, reduceIte, Bool.false_eq_true, toDs_val, trees_val, e, List.isEmpty_cons, ix0, sS, e2, e3, e6, hc, h1, l3', u_lenT, v_eqS, i1, i2, q, Option.isSome_some, mo0, mo2, mo2', mo2'']
    · cases v : isN 400 t with
      | true =>
        rw [v] at hm
        simp only [evS, exS, okb, stb, seqS, one, stepE_none, stepE_bl, stepE_int, stepE_str, stepE_var, stepE_glb, stepE_tup, stepE_lst, stepE_op1, stepE_op2, stepE_not, stepE_and, stepE_or, stepE_ite, stepE_chain, stepE_slice, stepE_call, evD, evDs, evArgs, optI, truthE, truth, O.tree, O.toD, O.trees, O.toDs, v_add, v_sub, v_le, v_lt, v_ge, v_gt, v_min, v_max, v_eq, v_ne, v_is, v_isnt, v_t20, v_t21, u_lenL, u_lenT2, beq_self_eq_true, decide_true, Nat.reduceAdd, Nat.reduceLT, Nat.zero_add, Bool.and_self, Bool.and_true, Bool.true_and, u_isT, u_int, u_intB, u_abs, u_neg, u_tupL, u_revT, seq?, setO, assignT, assignTs, isTy, List.getElem?_cons_zero, List.getElem?_cons_succ, Option.join_some, List.set_cons_zero, List.set_cons_succ, List.length_cons, List.length_nil, Res.bind, if_true, if_false, Nat.lt_irrefl, Bool.not_true, Bool.not_false, reduceIte, Bool.false_eq_true, toDs_val, trees_val, e, List.isEmpty_cons, ix0, sS, e2, e3, e6, hc, h1, l3', hm, u_lenT, v_eqS, i0, i1, i2, q, Option.isSome_some, mo0, mo2, mo2', mo2'', decide_false]
      | false =>
        rw [v] at hm
        simp only [evS, exS, okb, stb, seqS, one, stepE_none, stepE_bl, stepE_int, stepE_str, stepE_var, stepE_glb, stepE_tup, stepE_lst, stepE_op1, stepE_op2, stepE_not, stepE_and, stepE_or, stepE_ite, stepE_chain, stepE_slice, stepE_call, evD, evDs, evArgs, optI, truthE, truth, O.tree, O.toD, O.trees, O.toDs, v_add, v_sub, v_le, v_lt, v_ge, v_gt, v_min, v_max, v_eq, v_ne, v_is, v_isnt, v_t20, v_t21, u_lenL, u_lenT2, beq_self_eq_true, decide_true, Nat.reduceAdd, Nat.reduceLT, Nat.zero_add, Bool.and_self, Bool.and_true, Bool.true_and, u_isT, u_int, u_intB, u_abs, u_neg, u_tupL, u_revT, seq?, setO, assignT, assignTs, isTy, List.getElem?_cons_zero, List.getElem?_cons_succ, Option.join_some, List.set_cons_zero, List.set_cons_succ, List.length_cons, List.length_nil, Res.bind, if_true, if_false, Nat.lt_irrefl, Bool.not_true, Bool.not_false, reduceIte, Bool.false_eq_true, toDs_val, trees_val, e, List.isEmpty_cons, ix0, sS, e2, e3, e6, hc, h1, l3', hm, u_lenT, v_eqS, i0, i1, i2, q, Option.isSome_some, mo0, mo2, mo2', mo2'', mo3, mo3', mo3'', decide_false]
  · unfold two
    have c := eq_false_of_ne_true c
    rw [c] at h1 ⊢
    unfold T16_2 E16
    simp only [evS, exS, okb, stb, seqS, one, stepE_none, stepE_bl, stepE_int, stepE_str, stepE_var, stepE_glb, stepE_tup, stepE_lst, stepE_op1, stepE_op2, stepE_not, stepE_and, stepE_or, stepE_ite, stepE_chain, stepE_slice, stepE_call, evD, evDs, evArgs, optI, truthE, truth, O.tree, O.toD, O.trees, O.toDs, v_add, v_sub, v_le, v_lt, v_ge, v_gt, v_min, v_max, v_eq, v_ne, v_is, v_isnt, v_t20, v_t21, u_lenL, u_lenT2, beq_self_eq_true, decide_true, Nat.reduceAdd, Nat.reduceLT, Nat.zero_add, Bool.and_self, Bool.and_true, Bool.true_and, u_isT, u_int, u_intB, u_abs, u_neg, u_tupL, u_revT, seq?, setO, assignT, assignTs, isTy, List.getElem?_cons_zero, List.getElem?_cons_succ, Option.join_some, List.set_cons_zero, List.set_cons_succ, List.length_cons, List.length_nil, Res.bind, if_true, if_false, Nat.lt_irrefl, Bool.not_true, Bool.not_false, reduceIte, Bool.false_eq_true, toDs_val, trees_val, e, List.isEmpty_cons, ix0, sS, e2, e3, e6, hc, h1, l3', u_lenT, v_eqS, Option.isSome_some, mo0, mo2, mo2', mo2'']
theorem q16 (w : List D) (hw : OkW w) : Done m u k ws fs w := by
  match w, hw with
  | [], _ => exact q16nil m u k ws fs
  | .str s :: r, hw =>
    rcases str_cases s with h | ⟨h1, h2⟩
    · rcases h with rfl | rfl | rfl | rfl | rfl
      · by_cases hr : r.length = 2
        · match r, hr with
          | [a, b], _ => exact q16two m u k ws fs "heard" (.inl ⟨rfl, rfl⟩) (by decide) (by decide) a b hw rfl
        · exact q16form m u k ws fs "heard" r hw 3 (.inl ⟨rfl, rfl⟩) (by omega) (fl2_form hr)
      · by_cases hr : r.length = 2
        · match r, hr with
          | [a, b], _ => exact q16two m u k ws fs "quiet" (.inr (.inl ⟨rfl, rfl⟩)) (by decide) (by decide) a b hw rfl
        · exact q16form m u k ws fs "quiet" r hw 3 (.inr (.inl ⟨rfl, rfl⟩)) (by omega) (fl2_form hr)
      · by_cases hr : r.length = 1
        · match r, hr with
          | [a], _ => exact q16one m u k ws fs "went" (.inr (.inr (.inl ⟨rfl, rfl⟩))) (by decide) (by decide) a hw rfl
        · exact q16form m u k ws fs "went" r hw 2 (.inr (.inr (.inl ⟨rfl, rfl⟩))) (by omega) (fl1_form hr)
      · by_cases hr : r.length = 1
        · match r, hr with
          | [a], _ => exact q16one m u k ws fs "stood" (.inr (.inr (.inr (.inl ⟨rfl, rfl⟩)))) (by decide) (by decide) a hw rfl
        · exact q16form m u k ws fs "stood" r hw 2 (.inr (.inr (.inr (.inl ⟨rfl, rfl⟩)))) (by omega) (fl1_form hr)
      · by_cases hr : r.length = 3
        · match r, hr with
          | [t, a, b], _ => exact q16str m u k ws fs t a b hw
        · exact q16form m u k ws fs "struck" r hw 4 (.inr (.inr (.inr (.inr ⟨rfl, rfl⟩)))) (by omega) (fl3_form hr)
    · exact q16none m u k ws fs s r hw h1 (h2 u r k)
  | .none :: r, hw => exact q16odd m u k ws fs .none r hw rfl
  | .bool b :: r, hw => exact q16odd m u k ws fs (.bool b) r hw rfl
  | .int i :: r, hw => exact q16odd m u k ws fs (.int i) r hw rfl
  | .list xs :: r, hw => exact q16odd m u k ws fs (.list xs) r hw rfl
  | .tuple xs :: r, hw => exact q16odd m u k ws fs (.tuple xs) r hw rfl
  | .dict xs :: r, hw => exact q16odd m u k ws fs (.dict xs) r hw rfl
end
end Hd

end
section
set_option autoImplicit false
set_option linter.all false
set_option maxRecDepth 100000
set_option maxHeartbeats 1000000
namespace Hd
open PySem Ev
section
variable (u : Int) (ws : List (List D))
theorem q16b (m k : Nat) (w : List D) (fs : List D) (w0 f0 : Option O) (h : ws[k]? = some w) (hw : OkW w) (hf : fs.length ≤ 1000) :
    exN Tb (m + 51) [T16_1, T16_2, T16_3] (E16 u ws (some (.val (.int (k : Int)))) fs w0 f0) = .ok (.next, E16 u ws (some (.val (.int (k : Int)))) (fs ++ [flt u w k].filter fun d => !isNone d) (some (.val (.tuple w))) (some (.val (flt u w k)))) := by
  rw [exS]
  have hi : ev2 .idx (dft ws) (.int (k : Int)) = some (.val (.tuple w)) := ixL (by rw [List.getElem?_map, h]; rfl)
  refine seq_next (env1 := E16 u ws (some (.val (.int (k : Int)))) fs (some (.val (.tuple w))) (some (.val .none))) ?_ (seq_next (q16 m u k ws fs w hw) (seq_next (env1 := E16 u ws (some (.val (.int (k : Int)))) (fs ++ [flt u w k].filter fun d => !isNone d) (some (.val (.tuple w))) (some (.val (flt u w k)))) ?_ seq_nil))
  · unfold T16_1 E16
    simp only [evS, exS, okb, stb, seqS, one, stepE_none, stepE_bl, stepE_int, stepE_str, stepE_var, stepE_glb, stepE_tup, stepE_lst, stepE_op1, stepE_op2, stepE_not, stepE_and, stepE_or, stepE_ite, stepE_chain, stepE_slice, stepE_call, evD, evDs, evArgs, optI, truthE, truth, O.tree, O.toD, O.trees, O.toDs, v_add, v_sub, v_le, v_lt, v_ge, v_gt, v_min, v_max, v_eq, v_ne, v_is, v_isnt, v_t20, v_t21, u_lenL, u_lenT2, beq_self_eq_true, decide_true, Nat.reduceAdd, Nat.reduceLT, Nat.zero_add, Bool.and_self, Bool.and_true, Bool.true_and, u_isT, u_int, u_intB, u_abs, u_neg, u_tupL, u_revT, seq?, setO, assignT, assignTs, isTy, List.getElem?_cons_zero, List.getElem?_cons_succ, Option.join_some, List.set_cons_zero, List.set_cons_succ, List.length_cons, List.length_nil, Res.bind, if_true, if_false, Nat.lt_irrefl, Bool.not_true, Bool.not_false, reduceIte, Bool.false_eq_true, toDs_val, trees_val, hi, evOs, parAsg]
  · cases c : isNone (flt u w k) with
    | true =>
      refine (one_ifF (env1 := E16 u ws (some (.val (.int (k : Int)))) fs (some (.val (.tuple w))) (some (.val (flt u w k)))) ?_ ?_)
      · unfold E16
        simp only [evS, exS, okb, stb, seqS, one, stepE_none, stepE_bl, stepE_int, stepE_str, stepE_var, stepE_glb, stepE_tup, stepE_lst, stepE_op1, stepE_op2, stepE_not, stepE_and, stepE_or, stepE_ite, stepE_chain, stepE_slice, stepE_call, evD, evDs, evArgs, optI, truthE, truth, O.tree, O.toD, O.trees, O.toDs, v_add, v_sub, v_le, v_lt, v_ge, v_gt, v_min, v_max, v_eq, v_ne, v_is, v_isnt, v_t20, v_t21, u_lenL, u_lenT2, beq_self_eq_true, decide_true, Nat.reduceAdd, Nat.reduceLT, Nat.zero_add, Bool.and_self, Bool.and_true, Bool.true_and, u_isT, u_int, u_intB, u_abs, u_neg, u_tupL, u_revT, seq?, setO, assignT, assignTs, isTy, List.getElem?_cons_zero, List.getElem?_cons_succ, Option.join_some, List.set_cons_zero, List.set_cons_succ, List.length_cons, List.length_nil, Res.bind, if_true, if_false, Nat.lt_irrefl, Bool.not_true, Bool.not_false, reduceIte, Bool.false_eq_true, toDs_val, trees_val, isnt_none, c]
      · rw [List.filter_cons, c, List.filter_nil]
        simp only [Bool.not_true, Bool.false_eq_true, if_false, List.append_nil]
        rfl
    | false =>
      refine (one_ifT (env1 := E16 u ws (some (.val (.int (k : Int)))) fs (some (.val (.tuple w))) (some (.val (flt u w k)))) ?_ ?_)
      · unfold E16
        simp only [evS, exS, okb, stb, seqS, one, stepE_none, stepE_bl, stepE_int, stepE_str, stepE_var, stepE_glb, stepE_tup, stepE_lst, stepE_op1, stepE_op2, stepE_not, stepE_and, stepE_or, stepE_ite, stepE_chain, stepE_slice, stepE_call, evD, evDs, evArgs, optI, truthE, truth, O.tree, O.toD, O.trees, O.toDs, v_add, v_sub, v_le, v_lt, v_ge, v_gt, v_min, v_max, v_eq, v_ne, v_is, v_isnt, v_t20, v_t21, u_lenL, u_lenT2, beq_self_eq_true, decide_true, Nat.reduceAdd, Nat.reduceLT, Nat.zero_add, Bool.and_self, Bool.and_true, Bool.true_and, u_isT, u_int, u_intB, u_abs, u_neg, u_tupL, u_revT, seq?, setO, assignT, assignTs, isTy, List.getElem?_cons_zero, List.getElem?_cons_succ, Option.join_some, List.set_cons_zero, List.set_cons_succ, List.length_cons, List.length_nil, Res.bind, if_true, if_false, Nat.lt_irrefl, Bool.not_true, Bool.not_false, reduceIte, Bool.false_eq_true, toDs_val, trees_val, isnt_none, c]
      · rw [List.filter_cons, c, List.filter_nil]
        simp only [Bool.not_false, if_true]
        rw [show m + 50 = m + 49 + 1 from rfl, exS]
        refine seq_next (env1 := E16 u ws (some (.val (.int (k : Int)))) (fs ++ [flt u w k]) (some (.val (.tuple w))) (some (.val (flt u w k)))) ?_ seq_nil
        rw [one_app (xs := fs.map .val) (d := flt u w k) rfl (by unfold E16; simp only [evS, exS, okb, stb, seqS, one, stepE_none, stepE_bl, stepE_int, stepE_str, stepE_var, stepE_glb, stepE_tup, stepE_lst, stepE_op1, stepE_op2, stepE_not, stepE_and, stepE_or, stepE_ite, stepE_chain, stepE_slice, stepE_call, evD, evDs, evArgs, optI, truthE, truth, O.tree, O.toD, O.trees, O.toDs, v_add, v_sub, v_le, v_lt, v_ge, v_gt, v_min, v_max, v_eq, v_ne, v_is, v_isnt, v_t20, v_t21, u_lenL, u_lenT2, beq_self_eq_true, decide_true, Nat.reduceAdd, Nat.reduceLT, Nat.zero_add, Bool.and_self, Bool.and_true, Bool.true_and, u_isT, u_int, u_intB, u_abs, u_neg, u_tupL, u_revT, seq?, setO, assignT, assignTs, isTy, List.getElem?_cons_zero, List.getElem?_cons_succ, Option.join_some, List.set_cons_zero, List.set_cons_succ, List.length_cons, List.length_nil, Res.bind, if_true, if_false, Nat.lt_irrefl, Bool.not_true, Bool.not_false, reduceIte, Bool.false_eq_true, toDs_val, trees_val]) (by rw [List.length_map]; exact Nat.lt_of_le_of_lt hf (by decide))]
        unfold E16
        rw [List.map_append]
        rfl
theorem q16l (m : Nat) : ∀ (ps : List (Nat × List D)) (fs : List D) (k0 w0 f0 : Option O), (∀ p ∈ ps, ws[p.1]? = some p.2 ∧ OkW p.2) → fs.length + ps.length ≤ 1000 →
    ∃ k1 w1 f1, loopF (exN Tb (m + 51) [T16_1, T16_2, T16_3]) (.nm 2) (ps.map fun p => .int (p.1 : Int)) (E16 u ws k0 fs w0 f0) = .ok (.next, E16 u ws k1 (fs ++ (ps.map fun p => flt u p.2 p.1).filter fun d => !isNone d) w1 f1)
  | [], fs, k0, w0, f0, _, _ => ⟨k0, w0, f0, by rw [List.map_nil, List.map_nil, List.filter_nil, List.append_nil]; rfl⟩
  | p :: ps, fs, k0, w0, f0, h, hl => by
    have hp := h p List.mem_cons_self
    rw [List.length_cons] at hl
    have hb := q16b u ws m p.1 p.2 fs w0 f0 hp.1 hp.2 (by omega)
    obtain ⟨k1, w1, f1, e⟩ := q16l m ps (fs ++ [flt u p.2 p.1].filter fun d => !isNone d) (some (.val (.int (p.1 : Int)))) (some (.val (.tuple p.2))) (some (.val (flt u p.2 p.1))) (fun q hq => h q (List.mem_cons_of_mem _ hq)) (by
      rw [List.length_append]
      have : ([flt u p.2 p.1].filter fun d => !isNone d).length ≤ 1 := List.length_filter_le _ _
      omega)
    refine ⟨k1, w1, f1, ?_⟩
    rw [List.append_assoc, ← List.filter_append, List.singleton_append] at e
    rw [List.map_cons, List.map_cons]
    unfold loopF
    rw [show assignT (.nm 2) (.int (p.1 : Int)) (E16 u ws k0 fs w0 f0) = some (E16 u ws (some (.val (.int (p.1 : Int)))) fs w0 f0) from rfl]
    dsimp only
    rw [hb]
    exact e
theorem range_nums : rangeD 0 ((ws.length : Nat) : Int) = (nums ws).map fun p => .int (p.1 : Int) := by
  apply List.ext_getElem?
  intro i
  unfold rangeD nums
  rw [show (((ws.length : Nat) : Int) - 0).toNat = ws.length by omega]
  simp only [List.getElem?_map, List.getElem?_mapIdx, Option.map_map]
  by_cases h : i < ws.length
  · rw [List.getElem?_eq_getElem (by rwa [List.length_range]), List.getElem?_eq_getElem h, List.getElem_range]
    simp only [Option.map_some, Int.zero_add, Function.comp]
  · rw [List.getElem?_eq_none (by rw [List.length_range]; omega), List.getElem?_eq_none (by omega)]
    rfl
theorem nums_mem {p : Nat × List D} (h : p ∈ nums ws) : ws[p.1]? = some p.2 := by
  obtain ⟨j, hj⟩ := List.mem_iff_getElem?.mp h
  rw [List.getElem?_mapIdx] at hj
  cases e : ws[j]? with
  | none => rw [e] at hj; cases hj
  | some v =>
    rw [e] at hj
    injection hj with hj
    subst hj
    exact e
theorem len_manyF : (manyF ws).length ≤ 1 := by
  unfold manyF
  split
  · exact Nat.le_refl 1
  · exact Nat.zero_le 1
theorem r16 (n : Nat) (hl : ws.length ≤ 100) (hw : ∀ w ∈ ws, OkW w) : Ret Tb (n + 70) 16 [.val (.int u), .val (dft ws)] (.lst ((FA u ws).map .val)) := by
  have el : ((ws.map PyData.tuple).length : Int) = (ws.length : Int) := by rw [List.length_map]
  obtain ⟨k1, w1, f1, e⟩ := q16l u ws (n + 18) (nums ws) (manyF ws) none none none (fun p hp => ⟨nums_mem ws hp, hw _ (List.mem_of_getElem? (nums_mem ws hp))⟩) (by
    have := len_manyF ws
    unfold nums
    rw [List.length_mapIdx]
    omega)
  rw [← range_nums] at e
  refine ⟨[some (.val (.int u)), some (.val (dft ws))], callF_ret (d := f16) (os := [.val (.int u), .val (dft ws)]) (o := .lst ((FA u ws).map .val)) (env := [some (.val (.int u)), some (.val (dft ws)), k1, some (.val szD), none, w1, f1, none]) (e0 := [some (.val (.int u)), some (.val (dft ws)), none, none, none, none, none, none]) rfl rfl rfl ((exS (n := n + 69) _ _).trans (seq_next (env1 := E16 u ws none (manyF ws) none none) ?_ (seq_next (one_for (items_range (j := (ws.length : Int)) (env1 := E16 u ws none (manyF ws) none none) ?_ (by omega) rfl) e) (seq_ret ?_)))) rfl⟩
  · unfold manyF
    by_cases c : 40 < ws.length
    · have c' : (40 < (ws.length : Int)) = True := eq_true (by omega)
      have mu : ev2 .mul (.list [.tuple [.str "many", .int ws.length]]) (.int 1) = some (.lst [.val (.tuple [.str "many", .int ws.length])]) := rfl
      rw [if_pos c]
      simp only [evS, exS, okb, stb, seqS, one, stepE_none, stepE_bl, stepE_int, stepE_str, stepE_var, stepE_glb, stepE_tup, stepE_lst, stepE_op1, stepE_op2, stepE_not, stepE_and, stepE_or, stepE_ite, stepE_chain, stepE_slice, stepE_call, evD, evDs, evArgs, optI, truthE, truth, O.tree, O.toD, O.trees, O.toDs, v_add, v_sub, v_le, v_lt, v_ge, v_gt, v_min, v_max, v_eq, v_ne, v_is, v_isnt, v_t20, v_t21, u_lenL, u_lenT2, beq_self_eq_true, decide_true, Nat.reduceAdd, Nat.reduceLT, Nat.zero_add, Bool.and_self, Bool.and_true, Bool.true_and, u_isT, u_int, u_intB, u_abs, u_neg, u_tupL, u_revT, seq?, setO, assignT, assignTs, isTy, List.getElem?_cons_zero, List.getElem?_cons_succ, Option.join_some, List.set_cons_zero, List.set_cons_succ, List.length_cons, List.length_nil, Res.bind, if_true, if_false, Nat.lt_irrefl, Bool.not_true, Bool.not_false, reduceIte, Bool.false_eq_true, toDs_val, trees_val, el, c', mu, evOs, parAsg, stepE_cdct, List.map_cons, List.map_nil, mo2, mo2', mo2'', show (0 + 1 ≤ most) = True from eq_true (by decide), show (1 ≤ most) = True from eq_true (by decide), List.cons_append, List.nil_append]
      rfl
    · have c' : (40 < (ws.length : Int)) = False := eq_false (by omega)
      have mu : ev2 .mul (.list [.tuple [.str "many", .int ws.length]]) (.int 0) = some (.lst []) := rfl
      rw [if_neg c]
      simp only [evS, exS, okb, stb, seqS, one, stepE_none, stepE_bl, stepE_int, stepE_str, stepE_var, stepE_glb, stepE_tup, stepE_lst, stepE_op1, stepE_op2, stepE_not, stepE_and, stepE_or, stepE_ite, stepE_chain, stepE_slice, stepE_call, evD, evDs, evArgs, optI, truthE, truth, O.tree, O.toD, O.trees, O.toDs, v_add, v_sub, v_le, v_lt, v_ge, v_gt, v_min, v_max, v_eq, v_ne, v_is, v_isnt, v_t20, v_t21, u_lenL, u_lenT2, beq_self_eq_true, decide_true, Nat.reduceAdd, Nat.reduceLT, Nat.zero_add, Bool.and_self, Bool.and_true, Bool.true_and, u_isT, u_int, u_intB, u_abs, u_neg, u_tupL, u_revT, seq?, setO, assignT, assignTs, isTy, List.getElem?_cons_zero, List.getElem?_cons_succ, Option.join_some, List.set_cons_zero, List.set_cons_succ, List.length_cons, List.length_nil, Res.bind, if_true, if_false, Nat.lt_irrefl, Bool.not_true, Bool.not_false, reduceIte, Bool.false_eq_true, toDs_val, trees_val, el, c', mu, evOs, parAsg, stepE_cdct, List.map_cons, List.map_nil, decide_false, mo2, mo2', mo2'', show (0 + 1 ≤ most) = True from eq_true (by decide), show (1 ≤ most) = True from eq_true (by decide), List.cons_append, List.nil_append]
      rfl
  · unfold E16
    simp only [evS, exS, okb, stb, seqS, one, stepE_none, stepE_bl, stepE_int, stepE_str, stepE_var, stepE_glb, stepE_tup, stepE_lst, stepE_op1, stepE_op2, stepE_not, stepE_and, stepE_or, stepE_ite, stepE_chain, stepE_slice, stepE_call, evD, evDs, evArgs, optI, truthE, truth, O.tree, O.toD, O.trees, O.toDs, v_add, v_sub, v_le, v_lt, v_ge, v_gt, v_min, v_max, v_eq, v_ne, v_is, v_isnt, v_t20, v_t21, u_lenL, u_lenT2, beq_self_eq_true, decide_true, Nat.reduceAdd, Nat.reduceLT, Nat.zero_add, Bool.and_self, Bool.and_true, Bool.true_and, u_isT, u_int, u_intB, u_abs, u_neg, u_tupL, u_revT, seq?, setO, assignT, assignTs, isTy, List.getElem?_cons_zero, List.getElem?_cons_succ, Option.join_some, List.set_cons_zero, List.set_cons_succ, List.length_cons, List.length_nil, Res.bind, if_true, if_false, Nat.lt_irrefl, Bool.not_true, Bool.not_false, reduceIte, Bool.false_eq_true, toDs_val, trees_val, el]
  · unfold E16
    simp only [evS, exS, okb, stb, seqS, one, stepE_none, stepE_bl, stepE_int, stepE_str, stepE_var, stepE_glb, stepE_tup, stepE_lst, stepE_op1, stepE_op2, stepE_not, stepE_and, stepE_or, stepE_ite, stepE_chain, stepE_slice, stepE_call, evD, evDs, evArgs, optI, truthE, truth, O.tree, O.toD, O.trees, O.toDs, v_add, v_sub, v_le, v_lt, v_ge, v_gt, v_min, v_max, v_eq, v_ne, v_is, v_isnt, v_t20, v_t21, u_lenL, u_lenT2, beq_self_eq_true, decide_true, Nat.reduceAdd, Nat.reduceLT, Nat.zero_add, Bool.and_self, Bool.and_true, Bool.true_and, u_isT, u_int, u_intB, u_abs, u_neg, u_tupL, u_revT, seq?, setO, assignT, assignTs, isTy, List.getElem?_cons_zero, List.getElem?_cons_succ, Option.join_some, List.set_cons_zero, List.set_cons_succ, List.length_cons, List.length_nil, Res.bind, if_true, if_false, Nat.lt_irrefl, Bool.not_true, Bool.not_false, reduceIte, Bool.false_eq_true, toDs_val, trees_val, stepE_move]
    rfl
end
end Hd

end
section
set_option autoImplicit false
set_option linter.all false
set_option maxRecDepth 100000
set_option maxHeartbeats 0
namespace Hd
open PySem Ev
local macro_rules | `(tactic| wtm_at "e side") => `(tactic| first
  | with_reducible assumption
  | omega
  | exact Nat.le_of_ble_eq_true rfl
  | exact rfl
  | (simp only [List.length_map, List.length_append, List.length_cons, List.length_nil, List.length_range, List.length_reverse]; omega))
local macro_rules | `(tactic| wtm_at "e sm") => `(tactic| first
  | with_reducible assumption
  | (with_reducible exact Ev.Sm_of (by omega) (by omega))
  | (with_reducible exact Ev.SmD_of (by omega) (by omega)))
local macro_rules | `(tactic| wtm_at "e set") => `(tactic| repeat (first | with_reducible exact Ev.set_z | with_reducible apply Ev.set_s))
local macro_rules | `(tactic| wtm_at "e lit") => `(tactic| repeat (first | exact Ev.lit_n rfl | apply Ev.lit_cons rfl))
local macro_rules | `(tactic| wtm_at "e litd") => `(tactic| repeat (first | exact Ev.ld_nil rfl | apply Ev.ld_cons rfl))
local macro_rules | `(tactic| wtm_at "e ln") => `(tactic| repeat (first | with_reducible exact Ev.ln_nil | with_reducible apply Ev.ln_cons | with_reducible exact Ev.ln_map | with_reducible apply Ev.ln_app | with_reducible exact Ev.ln_any))
local macro_rules | `(tactic| wtm_at "e frz") => `(tactic| repeat (first | with_reducible exact Ev.fz_nil | with_reducible apply Ev.fz_none | with_reducible apply Ev.fz_val | with_reducible apply Ev.fz_lst | with_reducible apply Ev.fz_scr | with_reducible apply Ev.fz_any))
local macro_rules | `(tactic| wtm_at "e dt") => `(tactic| repeat (first | with_reducible exact Ev.dt_map | with_reducible exact Ev.dt_nil | with_reducible exact Ev.dt_rep | with_reducible apply Ev.dt_cons))
local macro_rules | `(tactic| wtm_at "e call") => `(tactic| fail)
local macro_rules | `(tactic| wtm_at "e val") => `(tactic| fail)
local macro_rules | `(tactic| wtm_at "e v2") => `(tactic| first
  | ((with_reducible apply Ev.v2_addI))
  | ((with_reducible apply Ev.v2_subI))
  | ((with_reducible apply Ev.v2_eqI))
  | ((with_reducible apply Ev.v2_neI))
  | ((with_reducible apply Ev.v2_ltI))
  | ((with_reducible apply Ev.v2_leI))
  | ((with_reducible apply Ev.v2_gtI))
  | ((with_reducible apply Ev.v2_geI))
  | ((with_reducible apply Ev.v2_mulI); (· wtm_at "e sm"); (· wtm_at "e sm"))
  | ((with_reducible apply Ev.v2_modI); (· wtm_at "e side"))
  | ((with_reducible apply Ev.v2_fdivI); (· wtm_at "e side"); (· wtm_at "e sm"))
  | ((with_reducible apply Ev.v2_t0))
  | ((with_reducible apply Ev.v2_t1))
  | ((with_reducible apply Ev.v2_t2))
  | ((with_reducible apply Ev.v2_t3))
  | ((with_reducible apply Ev.v2_l0))
  | ((with_reducible apply Ev.v2_l1))
  | ((with_reducible apply Ev.v2_l2))
  | ((with_reducible apply Ev.v2_l3))
  | ((with_reducible apply Ev.v2_isN))
  | ((with_reducible apply Ev.v2_isnN))
  | ((with_reducible apply Ev.v2_eqS))
  | ((with_reducible apply Ev.v2_neS))
  | ((with_reducible apply Ev.v2_eqB))
  | ((with_reducible apply Ev.v2_neB))
  | ((with_reducible apply Ev.v2_minI))
  | ((with_reducible apply Ev.v2_maxI))
  | ((with_reducible apply Ev.v2_lcatl); (· wtm_at "e side"); (· wtm_at "e litd"))
  | ((with_reducible apply Ev.v2_tcatl); (· wtm_at "e side"); (· wtm_at "e litd"))
  | ((with_reducible apply Ev.v2_lcat); (· wtm_at "e side"))
  | ((with_reducible apply Ev.v2_tcat); (· wtm_at "e side"))
  | ((with_reducible apply Ev.v2_isB))
  | ((with_reducible apply Ev.v2_isnB))
  | ((with_reducible apply Ev.v2_eqL0))
  | ((with_reducible apply Ev.v2_neL0))
  | ((with_reducible apply Ev.v2_eqL))
  | ((with_reducible apply Ev.v2_neL))
  | ((with_reducible apply Ev.v2_innI))
  | ((with_reducible apply Ev.v2_ninI))
  | ((with_reducible apply Ev.v2_mulL1); (· exact rfl); (· wtm_at "e side"))
  | ((with_reducible apply Ev.v2_ixT); (· omega); (· exact rfl))
  | ((with_reducible apply Ev.v2_ixL); (· omega); (· exact rfl)))
local macro_rules | `(tactic| wtm_at "e v1") => `(tactic| first
  | ((with_reducible apply Ev.v1_isT (b := true)); (· exact rfl))
  | ((with_reducible apply Ev.v1_isT (b := false)); (· exact rfl))
  | ((with_reducible apply Ev.v1_isT); (· exact rfl))
  | ((with_reducible apply Ev.v1_lenLn); (· wtm_at "e ln"))
  | ((with_reducible apply Ev.v1_lenTn); (· wtm_at "e ln"))
  | ((with_reducible apply Ev.v1_int))
  | ((with_reducible apply Ev.v1_intB))
  | ((with_reducible apply Ev.v1_abs))
  | ((with_reducible apply Ev.v1_neg))
  | ((with_reducible apply Ev.v1_tupL))
  | ((with_reducible apply Ev.v1_tupT))
  | ((with_reducible apply Ev.v1_lstL))
  | ((with_reducible apply Ev.v1_lstT))
  | ((with_reducible apply Ev.v1_revL))
  | ((with_reducible apply Ev.v1_revT))
  | ((with_reducible apply Ev.v1_lrev))
  | ((with_reducible apply Ev.v1_all))
  | ((with_reducible apply Ev.v1_any))
  | ((with_reducible apply Ev.v1_sum))
  | ((with_reducible apply Ev.v1_sumT)))
local macro_rules | `(tactic| wtm_at "e br") => `(tactic| first
  | ((with_reducible apply Ev.br_t))
  | ((with_reducible apply Ev.br_f))
  | ((with_reducible apply Ev.br_not))
  | ((with_reducible apply Ev.br_eqI))
  | ((with_reducible apply Ev.br_neI))
  | ((with_reducible apply Ev.br_et); (· with_reducible assumption))
  | ((with_reducible apply Ev.br_ef); (· with_reducible assumption))
  | ((with_reducible apply Ev.br_pos); (· first | with_reducible assumption | omega))
  | ((with_reducible apply Ev.br_neg); (· first | with_reducible assumption | omega))
  | ((with_reducible apply Ev.br_pos); (· with_reducible rfl))
  | ((with_reducible apply Ev.br_dec) <;> intro _)
  | ((with_reducible apply Ev.br_var) <;> intro _))
local macro_rules | `(tactic| wtm_at "e wp1") => `(tactic| first
  | ((with_reducible apply Ev.we_wo))
  | ((with_reducible apply Ev.wo_var); (· exact rfl))
  | ((with_reducible apply Ev.wo_int))
  | ((with_reducible apply Ev.td_val))
  | ((with_reducible apply Ev.wo_op2))
  | ((with_reducible apply Ev.wo_op1))
  | ((with_reducible apply Ev.ws_cons))
  | ((with_reducible apply Ev.th_next))
  | ((with_reducible apply Ev.w1_asg))
  | ((with_reducible apply Ev.wt_nm))
  | ((with_reducible apply Ev.st_of); (· wtm_at "e set"))
  | ((with_reducible apply Ev.w1_if))
  | ((with_reducible apply Ev.tr_bool))
  | ((with_reducible apply Ev.wl_cons); (· exact rfl))
  | ((with_reducible apply Ev.wl_nil))
  | ((with_reducible apply Ev.wo_call))
  | ((with_reducible apply Ev.wa_cons); (· exact rfl))
  | ((with_reducible apply Ev.wa_nil))
  | ((with_reducible show Ev.Wc _ _ _ _ _ _ _); wtm_at "e call")
  | ((with_reducible apply Ev.wo_str))
  | ((with_reducible apply Ev.wo_none))
  | ((with_reducible apply Ev.wo_bl))
  | ((with_reducible apply Ev.wo_tup))
  | ((with_reducible apply Ev.wo_lst))
  | ((with_reducible apply Ev.td_lst))
  | ((with_reducible apply Ev.wo_glb); (· exact rfl))
  | ((with_reducible apply Ev.sd_of); (· wtm_at "e side"))
  | ((with_reducible apply Ev.wo_not))
  | ((with_reducible apply Ev.wo_and))
  | ((with_reducible apply Ev.wo_or))
  | ((with_reducible apply Ev.wo_ite))
  | ((with_reducible apply Ev.wo_chain))
  | ((with_reducible apply Ev.bl_bool))
  | ((with_reducible apply Ev.bo_bool))
  | wtm_at "e val"
  | ((with_reducible show Ev.V2 _ _ _ _); wtm_at "e v2")
  | ((with_reducible show Ev.V1 _ _ _); wtm_at "e v1")
  | ((with_reducible show Ev.Br _ _ _); wtm_at "e br")
  | ((with_reducible apply Ev.wo_slice))
  | ((with_reducible apply Ev.wz_none))
  | ((with_reducible apply Ev.wz_some))
  | ((with_reducible apply Ev.ex_int))
  | ((with_reducible apply Ev.vs_Tl); (· wtm_at "e litd"))
  | ((with_reducible apply Ev.vs_Ll); (· wtm_at "e litd"))
  | ((with_reducible apply Ev.vs_T))
  | ((with_reducible apply Ev.vs_L))
  | ((with_reducible apply Ev.wa_lend); (· exact rfl))
  | ((with_reducible apply Ev.wo_lenScr); (· exact rfl))
  | ((with_reducible apply Ev.wo_move); (· exact rfl))
  | ((with_reducible apply Ev.wo_snap); (· wtm_at "e frz"))
  | ((with_reducible apply Ev.lo_val); (· exact rfl))
  | ((with_reducible apply Ev.wo_comp))
  | ((with_reducible apply Ev.wo_cdct))
  | ((with_reducible apply Ev.wi_seq))
  | ((with_reducible apply Ev.sq_list))
  | ((with_reducible apply Ev.sq_tuple))
  | ((with_reducible apply Ev.wi_scr); (· exact rfl))
  | ((with_reducible apply Ev.wi_range))
  | ((with_reducible apply Ev.wi_range2))
  | ((with_reducible apply Ev.wi_range3))
  | ((with_reducible apply Ev.is_int))
  | ((with_reducible apply Ev.wi_enum))
  | ((with_reducible apply Ev.il_list))
  | ((with_reducible apply Ev.wi_zip))
  | ((with_reducible apply Ev.ws_nil))
  | ((with_reducible apply Ev.th_ret))
  | ((with_reducible apply Ev.th_brk))
  | ((with_reducible apply Ev.th_cont))
  | ((with_reducible apply Ev.w1_ret))
  | ((with_reducible apply Ev.w1_retO))
  | ((with_reducible apply Ev.w1_asgO))
  | ((with_reducible apply Ev.w1_frz))
  | ((with_reducible apply Ev.fz1); (· exact rfl))
  | ((with_reducible apply Ev.fz1v); (· exact rfl))
  | ((with_reducible apply Ev.fz2))
  | ((with_reducible apply Ev.w1_par))
  | ((with_reducible apply Ev.wp_nil))
  | ((with_reducible apply Ev.wp_t))
  | ((with_reducible apply Ev.wp_f))
  | ((with_reducible apply Ev.pa_nil))
  | ((with_reducible apply Ev.pa_cons))
  | ((with_reducible apply Ev.w1_setIx))
  | ((with_reducible apply Ev.w1_aug); (· exact rfl))
  | ((with_reducible apply Ev.ag_add))
  | ((with_reducible apply Ev.ag_sub))
  | ((with_reducible apply Ev.w1_app); (· exact rfl))
  | ((with_reducible apply Ev.w1_expr))
  | ((with_reducible apply Ev.w1_for))
  | ((with_reducible apply Ev.w1_while))
  | ((with_reducible apply Ev.w1_brk))
  | ((with_reducible apply Ev.w1_cont))
  | ((with_reducible apply Ev.w1_pass))
  | ((with_reducible apply Ev.w1_raise); (· decide))
  | ((with_reducible apply Ev.w1_try); (· exact rfl))
  | ((with_reducible apply Ev.wh_of); (· exact rfl))
  | ((with_reducible apply Ev.rq_ret); (· with_reducible rfl))
  | ((with_reducible apply Ev.rq_next); (· with_reducible rfl))
  | ((with_reducible apply Ev.pu_of); (· with_reducible rfl))
  | ((with_reducible apply Ev.pb_of); (· with_reducible rfl))
  | ((with_reducible apply Ev.lq_next))
  | ((with_reducible apply Ev.lq_cont))
  | ((with_reducible apply Ev.lq_brk))
  | ((with_reducible apply Ev.lq_ret))
  | ((with_reducible apply Ev.rq_ret))
  | ((with_reducible apply Ev.rq_next))
  | ((with_reducible apply Ev.rp_ret))
  | ((with_reducible apply Ev.rp_next))
  | ((with_reducible apply Ev.rl_ret))
  | ((with_reducible apply Ev.rl_next))
  | ((with_reducible apply Ev.pu_of))
  | ((with_reducible apply Ev.pb_of))
  | ((with_reducible apply Ev.wt_tup))
  | ((with_reducible apply Ev.wt_lst))
  | ((with_reducible apply Ev.wts_nil))
  | ((with_reducible apply Ev.wts_cons))
  | ((with_reducible apply Ev.tr_list))
  | ((with_reducible apply Ev.tr_tuple))
  | ((with_reducible apply Ev.tr_none))
  | ((with_reducible apply Ev.tr_int)))
local macro_rules | `(tactic| wtm_at "e wp") => `(tactic| repeat' wtm_at "e wp1")
local macro_rules | `(tactic| wtm_at "e def") => `(tactic| refine Ev.ret_of rfl rfl (by wtm_at "e lit") ?_)
local macro_rules | `(tactic| wtm_at "e defP") => `(tactic| refine Ev.retP_of rfl rfl (by wtm_at "e lit") ?_)
local macro_rules | `(tactic| wtm_at "e defX") => `(tactic| refine Ev.err_of rfl rfl (by wtm_at "e lit") ?_)
local macro_rules | `(tactic| wtm_at "e defL") => `(tactic| refine Ev.retL_of rfl rfl rfl (by decide) (by wtm_at "e lit") ?_)

/-! draws: whatever they are -/
theorem w11 {n i : Nat} {ds : List Int} {b : Int} {env : Ev.Env} {K : O → Ev.Env → Prop} {X : Nat → Prop} (e : env[i]? = some (some (dr ds))) (hb : 0 < b) (h : ∀ v ds', 0 ≤ v → v < b → St env i (some (dr ds')) fun e1 => K (.val (.int v)) e1) : Wc Tb (n + 9) 11 [(some i, .none), (none, .int b)] env K X :=
  wcl1 (o := dr ds) (o' := dr ds.dropLast) (r := .val (.int (tk ds b))) ⟨_, r11 n ds hb⟩ rfl e (h _ _ (tk_in ds hb).1 (tk_in ds hb).2)
theorem w12 {n i : Nat} {ds : List Int} {xs : List D} {env : Ev.Env} {K : O → Ev.Env → Prop} {X : Nat → Prop} (e : env[i]? = some (some (dr ds))) (hb : xs ≠ []) (h : ∀ ds', Am xs fun x => St env i (some (dr ds')) fun e1 => K (.val x) e1) : Wc Tb (n + 20) 12 [(some i, .none), (none, .list xs)] env K X :=
  wcl1 (o := dr ds) (o' := dr ds.dropLast) (r := .val (pk ds xs)) ⟨_, r12 n ds xs hb⟩ rfl e (h _ _ (pk_in hb))
local macro_rules | `(tactic| wtm_at "e call") => `(tactic| first | ((with_reducible apply w11); (· exact rfl); (· wtm_at "e side"); (intro _ _ _ _)) | ((with_reducible apply w12); (· exact rfl); (· simp); (intro _)))
local macro_rules | `(tactic| wtm_at "e val") => `(tactic| first | (with_reducible apply Ev.am_cons) | (with_reducible exact Ev.am_nil))
abbrev E17 (ds : List Int) (u m : Int) (xs : List D) (k a5 a6 a7 a8 : Option O) : Ev.Env := [some (dr ds), some (.val (.int u)), some (.val (.int m)), some (.lst (xs.map .val)), k, a5, a6, a7, a8]
def okT : D → Prop
  | .tuple w => OkW w
  | _ => False
def I17 (u m j : Int) (e : Ev.Env) : Prop := ∃ ds xs k a5 a6 a7 a8, e = E17 ds u m xs k a5 a6 a7 a8 ∧ (∀ x ∈ xs, okT x) ∧ (xs.length : Int) = j
theorem leaf17 {u m j : Int} {ds : List Int} {xs w : List D} {k a5 a6 a7 a8 : Option O} (h : ∀ x ∈ xs, okT x) (hl : (xs.length : Int) = j) (hw : w.length ≤ 8 ∧ Am w fun d => okI d = true) : I17 u m (j + 1) (E17 ds u m (xs ++ [.tuple w]) k a5 a6 a7 a8) :=
  ⟨_, _, _, _, _, _, _, rfl, fun x hx => by
    rcases List.mem_append.mp hx with hx | hx
    · exact h x hx
    · rw [List.mem_singleton.mp hx]; exact ⟨hw.1, hw.2⟩, by rw [List.length_append, List.length_singleton]; omega⟩
theorem r17 (n : Nat) (ds : List Int) (u m : Int) (u0 : 0 ≤ u) (u1 : u ≤ 20000) (m1 : m ≤ 100) (m0 : 0 ≤ m) : ∃ r o', (∃ (xs : List D) (ds' : List Int), r = .lst (xs.map .val) ∧ (∀ x ∈ xs, okT x) ∧ (xs.length : Int) = m ∧ o' = dr ds') ∧ RetL Tb (n + 100) 17 (dr ds) [.val (.int u), .val (.int m)] r o' := by
  wtm_at "e defL"
  wtm_at "e wp"
  refine Ev.lp_range (I17 u m) m0 ⟨ds, [], _, _, _, _, _, rfl, by simp, rfl⟩ ?_ ?_
  · rintro i i0 i1 _ ⟨ds, xs, k, a5, a6, a7, a8, rfl, hx, hl⟩
    wtm_at "e wp"
    all_goals first | (refine leaf17 hx hl ⟨Nat.le_of_ble_eq_true rfl, ?_⟩; repeat (first | exact Ev.am_nil | refine Ev.am_cons (by first | rfl | decide | exact okI_int (by omega) (by omega)) ?_)) | trace_state
  · rintro _ ⟨ds, xs, k, a5, a6, a7, a8, rfl, hx, hl⟩
    wtm_at "e wp"
    exact ⟨xs, _, rfl, hx, hl, rfl⟩
end Hd

end
section
set_option autoImplicit false
set_option linter.all false
set_option maxRecDepth 100000
set_option maxHeartbeats 0
namespace Hd
open PySem Ev
local macro_rules | `(tactic| wtm_at "e side") => `(tactic| first
  | with_reducible assumption
  | omega
  | exact Nat.le_of_ble_eq_true rfl
  | exact rfl
  | (simp only [List.length_map, List.length_append, List.length_cons, List.length_nil, List.length_range, List.length_reverse]; omega))
local macro_rules | `(tactic| wtm_at "e sm") => `(tactic| first
  | with_reducible assumption
  | (with_reducible exact Ev.Sm_of (by omega) (by omega))
  | (with_reducible exact Ev.SmD_of (by omega) (by omega)))
local macro_rules | `(tactic| wtm_at "e set") => `(tactic| repeat (first | with_reducible exact Ev.set_z | with_reducible apply Ev.set_s))
local macro_rules | `(tactic| wtm_at "e lit") => `(tactic| repeat (first | exact Ev.lit_n rfl | apply Ev.lit_cons rfl))
local macro_rules | `(tactic| wtm_at "e litd") => `(tactic| repeat (first | exact Ev.ld_nil rfl | apply Ev.ld_cons rfl))
local macro_rules | `(tactic| wtm_at "e ln") => `(tactic| repeat (first | with_reducible exact Ev.ln_nil | with_reducible apply Ev.ln_cons | with_reducible exact Ev.ln_map | with_reducible apply Ev.ln_app | with_reducible exact Ev.ln_any))
local macro_rules | `(tactic| wtm_at "e frz") => `(tactic| repeat (first | with_reducible exact Ev.fz_nil | with_reducible apply Ev.fz_none | with_reducible apply Ev.fz_val | with_reducible apply Ev.fz_lst | with_reducible apply Ev.fz_scr | with_reducible apply Ev.fz_any))
local macro_rules | `(tactic| wtm_at "e dt") => `(tactic| repeat (first | with_reducible exact Ev.dt_map | with_reducible exact Ev.dt_nil | with_reducible exact Ev.dt_rep | with_reducible apply Ev.dt_cons))
local macro_rules | `(tactic| wtm_at "e call") => `(tactic| fail)
local macro_rules | `(tactic| wtm_at "e val") => `(tactic| fail)
local macro_rules | `(tactic| wtm_at "e v2") => `(tactic| first
  | ((with_reducible apply Ev.v2_addI))
  | ((with_reducible apply Ev.v2_subI))
  | ((with_reducible apply Ev.v2_eqI))
  | ((with_reducible apply Ev.v2_neI))
  | ((with_reducible apply Ev.v2_ltI))
  | ((with_reducible apply Ev.v2_leI))
  | ((with_reducible apply Ev.v2_gtI))
  | ((with_reducible apply Ev.v2_geI))
  | ((with_reducible apply Ev.v2_mulI); (· wtm_at "e sm"); (· wtm_at "e sm"))
  | ((with_reducible apply Ev.v2_modI); (· wtm_at "e side"))
  | ((with_reducible apply Ev.v2_fdivI); (· wtm_at "e side"); (· wtm_at "e sm"))
  | ((with_reducible apply Ev.v2_t0))
  | ((with_reducible apply Ev.v2_t1))
  | ((with_reducible apply Ev.v2_t2))
  | ((with_reducible apply Ev.v2_t3))
  | ((with_reducible apply Ev.v2_l0))
  | ((with_reducible apply Ev.v2_l1))
  | ((with_reducible apply Ev.v2_l2))
  | ((with_reducible apply Ev.v2_l3))
  | ((with_reducible apply Ev.v2_isN))
  | ((with_reducible apply Ev.v2_isnN))
  | ((with_reducible apply Ev.v2_eqS))
  | ((with_reducible apply Ev.v2_neS))
  | ((with_reducible apply Ev.v2_eqB))
  | ((with_reducible apply Ev.v2_neB))
  | ((with_reducible apply Ev.v2_minI))
  | ((with_reducible apply Ev.v2_maxI))
  | ((with_reducible apply Ev.v2_lcatl); (· wtm_at "e side"); (· wtm_at "e litd"))
  | ((with_reducible apply Ev.v2_tcatl); (· wtm_at "e side"); (· wtm_at "e litd"))
  | ((with_reducible apply Ev.v2_lcat); (· wtm_at "e side"))
  | ((with_reducible apply Ev.v2_tcat); (· wtm_at "e side"))
  | ((with_reducible apply Ev.v2_isB))
  | ((with_reducible apply Ev.v2_isnB))
  | ((with_reducible apply Ev.v2_eqL0))
  | ((with_reducible apply Ev.v2_neL0))
  | ((with_reducible apply Ev.v2_eqL))
  | ((with_reducible apply Ev.v2_neL))
  | ((with_reducible apply Ev.v2_innI))
  | ((with_reducible apply Ev.v2_ninI))
  | ((with_reducible apply Ev.v2_mulL1); (· exact rfl); (· wtm_at "e side"))
  | ((with_reducible apply Ev.v2_ixT); (· omega); (· exact rfl))
  | ((with_reducible apply Ev.v2_ixL); (· omega); (· exact rfl)))
local macro_rules | `(tactic| wtm_at "e v1") => `(tactic| first
  | ((with_reducible apply Ev.v1_isT (b := true)); (· exact rfl))
  | ((with_reducible apply Ev.v1_isT (b := false)); (· exact rfl))
  | ((with_reducible apply Ev.v1_isT); (· exact rfl))
  | ((with_reducible apply Ev.v1_lenLn); (· wtm_at "e ln"))
  | ((with_reducible apply Ev.v1_lenTn); (· wtm_at "e ln"))
  | ((with_reducible apply Ev.v1_int))
  | ((with_reducible apply Ev.v1_intB))
  | ((with_reducible apply Ev.v1_abs))
  | ((with_reducible apply Ev.v1_neg))
  | ((with_reducible apply Ev.v1_tupL))
  | ((with_reducible apply Ev.v1_tupT))
  | ((with_reducible apply Ev.v1_lstL))
  | ((with_reducible apply Ev.v1_lstT))
  | ((with_reducible apply Ev.v1_revL))
  | ((with_reducible apply Ev.v1_revT))
  | ((with_reducible apply Ev.v1_lrev))
  | ((with_reducible apply Ev.v1_all))
  | ((with_reducible apply Ev.v1_any))
  | ((with_reducible apply Ev.v1_sum))
  | ((with_reducible apply Ev.v1_sumT)))
local macro_rules | `(tactic| wtm_at "e br") => `(tactic| first
  | ((with_reducible apply Ev.br_t))
  | ((with_reducible apply Ev.br_f))
  | ((with_reducible apply Ev.br_not))
  | ((with_reducible apply Ev.br_eqI))
  | ((with_reducible apply Ev.br_neI))
  | ((with_reducible apply Ev.br_et); (· with_reducible assumption))
  | ((with_reducible apply Ev.br_ef); (· with_reducible assumption))
  | ((with_reducible apply Ev.br_pos); (· first | with_reducible assumption | omega))
  | ((with_reducible apply Ev.br_neg); (· first | with_reducible assumption | omega))
  | ((with_reducible apply Ev.br_pos); (· with_reducible rfl))
  | ((with_reducible apply Ev.br_dec) <;> intro _)
  | ((with_reducible apply Ev.br_var) <;> intro _))
local macro_rules | `(tactic| wtm_at "e wp1") => `(tactic| first
  | ((with_reducible apply Ev.we_wo))
  | ((with_reducible apply Ev.wo_var); (· exact rfl))
  | ((with_reducible apply Ev.wo_int))
  | ((with_reducible apply Ev.td_val))
  | ((with_reducible apply Ev.wo_op2))
  | ((with_reducible apply Ev.wo_op1))
  | ((with_reducible apply Ev.ws_cons))
  | ((with_reducible apply Ev.th_next))
  | ((with_reducible apply Ev.w1_asg))
  | ((with_reducible apply Ev.wt_nm))
  | ((with_reducible apply Ev.st_of); (· wtm_at "e set"))
  | ((with_reducible apply Ev.w1_if))
  | ((with_reducible apply Ev.tr_bool))
  | ((with_reducible apply Ev.wl_cons); (· exact rfl))
  | ((with_reducible apply Ev.wl_nil))
  | ((with_reducible apply Ev.wo_call))
  | ((with_reducible apply Ev.wa_cons); (· exact rfl))
  | ((with_reducible apply Ev.wa_nil))
  | ((with_reducible show Ev.Wc _ _ _ _ _ _ _); wtm_at "e call")
  | ((with_reducible apply Ev.wo_str))
  | ((with_reducible apply Ev.wo_none))
  | ((with_reducible apply Ev.wo_bl))
  | ((with_reducible apply Ev.wo_tup))
  | ((with_reducible apply Ev.wo_lst))
  | ((with_reducible apply Ev.td_lst))
  | ((with_reducible apply Ev.wo_glb); (· exact rfl))
  | ((with_reducible apply Ev.sd_of); (· wtm_at "e side"))
  | ((with_reducible apply Ev.wo_not))
  | ((with_reducible apply Ev.wo_and))
  | ((with_reducible apply Ev.wo_or))
  | ((with_reducible apply Ev.wo_ite))
  | ((with_reducible apply Ev.wo_chain))
  | ((with_reducible apply Ev.bl_bool))
  | ((with_reducible apply Ev.bo_bool))
  | wtm_at "e val"
  | ((with_reducible show Ev.V2 _ _ _ _); wtm_at "e v2")
  | ((with_reducible show Ev.V1 _ _ _); wtm_at "e v1")
  | ((with_reducible show Ev.Br _ _ _); wtm_at "e br")
  | ((with_reducible apply Ev.wo_slice))
  | ((with_reducible apply Ev.wz_none))
  | ((with_reducible apply Ev.wz_some))
  | ((with_reducible apply Ev.ex_int))
  | ((with_reducible apply Ev.vs_Tl); (· wtm_at "e litd"))
  | ((with_reducible apply Ev.vs_Ll); (· wtm_at "e litd"))
  | ((with_reducible apply Ev.vs_T))
  | ((with_reducible apply Ev.vs_L))
  | ((with_reducible apply Ev.wa_lend); (· exact rfl))
  | ((with_reducible apply Ev.wo_lenScr); (· exact rfl))
  | ((with_reducible apply Ev.wo_move); (· exact rfl))
  | ((with_reducible apply Ev.wo_snap); (· wtm_at "e frz"))
  | ((with_reducible apply Ev.lo_val); (· exact rfl))
  | ((with_reducible apply Ev.wo_comp))
  | ((with_reducible apply Ev.wo_cdct))
  | ((with_reducible apply Ev.wi_seq))
  | ((with_reducible apply Ev.sq_list))
  | ((with_reducible apply Ev.sq_tuple))
  | ((with_reducible apply Ev.wi_scr); (· exact rfl))
  | ((with_reducible apply Ev.wi_range))
  | ((with_reducible apply Ev.wi_range2))
  | ((with_reducible apply Ev.wi_range3))
  | ((with_reducible apply Ev.is_int))
  | ((with_reducible apply Ev.wi_enum))
  | ((with_reducible apply Ev.il_list))
  | ((with_reducible apply Ev.wi_zip))
  | ((with_reducible apply Ev.ws_nil))
  | ((with_reducible apply Ev.th_ret))
  | ((with_reducible apply Ev.th_brk))
  | ((with_reducible apply Ev.th_cont))
  | ((with_reducible apply Ev.w1_ret))
  | ((with_reducible apply Ev.w1_retO))
  | ((with_reducible apply Ev.w1_asgO))
  | ((with_reducible apply Ev.w1_frz))
  | ((with_reducible apply Ev.fz1); (· exact rfl))
  | ((with_reducible apply Ev.fz1v); (· exact rfl))
  | ((with_reducible apply Ev.fz2))
  | ((with_reducible apply Ev.w1_par))
  | ((with_reducible apply Ev.wp_nil))
  | ((with_reducible apply Ev.wp_t))
  | ((with_reducible apply Ev.wp_f))
  | ((with_reducible apply Ev.pa_nil))
  | ((with_reducible apply Ev.pa_cons))
  | ((with_reducible apply Ev.w1_setIx))
  | ((with_reducible apply Ev.w1_aug); (· exact rfl))
  | ((with_reducible apply Ev.ag_add))
  | ((with_reducible apply Ev.ag_sub))
  | ((with_reducible apply Ev.w1_app); (· exact rfl))
  | ((with_reducible apply Ev.w1_expr))
  | ((with_reducible apply Ev.w1_for))
  | ((with_reducible apply Ev.w1_while))
  | ((with_reducible apply Ev.w1_brk))
  | ((with_reducible apply Ev.w1_cont))
  | ((with_reducible apply Ev.w1_pass))
  | ((with_reducible apply Ev.w1_raise); (· decide))
  | ((with_reducible apply Ev.w1_try); (· exact rfl))
  | ((with_reducible apply Ev.wh_of); (· exact rfl))
  | ((with_reducible apply Ev.rq_ret); (· with_reducible rfl))
  | ((with_reducible apply Ev.rq_next); (· with_reducible rfl))
  | ((with_reducible apply Ev.pu_of); (· with_reducible rfl))
  | ((with_reducible apply Ev.pb_of); (· with_reducible rfl))
  | ((with_reducible apply Ev.lq_next))
  | ((with_reducible apply Ev.lq_cont))
  | ((with_reducible apply Ev.lq_brk))
  | ((with_reducible apply Ev.lq_ret))
  | ((with_reducible apply Ev.rq_ret))
  | ((with_reducible apply Ev.rq_next))
  | ((with_reducible apply Ev.rp_ret))
  | ((with_reducible apply Ev.rp_next))
  | ((with_reducible apply Ev.rl_ret))
  | ((with_reducible apply Ev.rl_next))
  | ((with_reducible apply Ev.pu_of))
  | ((with_reducible apply Ev.pb_of))
  | ((with_reducible apply Ev.wt_tup))
  | ((with_reducible apply Ev.wt_lst))
  | ((with_reducible apply Ev.wts_nil))
  | ((with_reducible apply Ev.wts_cons))
  | ((with_reducible apply Ev.tr_list))
  | ((with_reducible apply Ev.tr_tuple))
  | ((with_reducible apply Ev.tr_none))
  | ((with_reducible apply Ev.tr_int)))
local macro_rules | `(tactic| wtm_at "e wp") => `(tactic| repeat' wtm_at "e wp1")
local macro_rules | `(tactic| wtm_at "e def") => `(tactic| refine Ev.ret_of rfl rfl (by wtm_at "e lit") ?_)
local macro_rules | `(tactic| wtm_at "e defP") => `(tactic| refine Ev.retP_of rfl rfl (by wtm_at "e lit") ?_)
local macro_rules | `(tactic| wtm_at "e defX") => `(tactic| refine Ev.err_of rfl rfl (by wtm_at "e lit") ?_)
local macro_rules | `(tactic| wtm_at "e defL") => `(tactic| refine Ev.retL_of rfl rfl rfl (by decide) (by wtm_at "e lit") ?_)

/-! what a fault is made of -/
inductive Fo (w : List D) (k : Int) : D → Prop where
  | no : Fo w k .none
  | wd : Fo w k (fWord k)
  | fm : Fo w k (fForm k)
  | mi : Fo w k (fMin k)
  | od : Fo w k (fOrd k)
  | mn (c : D) : c ∈ w → Fo w k (fMany k c)
theorem fo_two {u k : Int} {w : List D} {a b e : D} (he : Fo w k e) : Fo w k (two u a b k e) := by
  unfold two
  split
  · split
    · exact .od
    · exact he
  · exact .mi
theorem fo_flt (u : Int) (w : List D) (k : Int) : Fo w k (flt u w k) := by
  match w with
  | [] => exact .wd
  | .none :: r => exact .wd
  | .bool _ :: r => exact .wd
  | .int _ :: r => exact .wd
  | .list _ :: r => exact .wd
  | .tuple _ :: r => exact .wd
  | .dict _ :: r => exact .wd
  | .str s :: r =>
    rw [flt_str]
    split
    · match r with
      | [a, b] => exact fo_two .no
      | [] => exact .fm
      | [_] => exact .fm
      | _ :: _ :: _ :: _ => exact .fm
    · split
      · match r with
        | [a] => show Fo _ k (if isN u a then .none else fMin k); split; exact .no; exact .mi
        | [] => exact .fm
        | _ :: _ :: _ => exact .fm
      · split
        · match r with
          | [c, a, b] => refine fo_two ?_; split; exact .no; exact .mn c (by simp)
          | [] => exact .fm
          | [_] => exact .fm
          | [_, _] => exact .fm
          | _ :: _ :: _ :: _ :: _ => exact .fm
        · exact .wd
theorem fo_ok {w : List D} {k : Int} {d : D} (h : Fo w k d) (hw : OkW w) : simD d = true ∧ d.plain = true ∧ d.depth ≤ 1 ∧ dp d ≤ 1 := by
  cases h with
  | no => exact ⟨rfl, rfl, by decide, by decide⟩
  | wd => exact ⟨rfl, rfl, Nat.le_of_ble_eq_true rfl, Nat.le_of_ble_eq_true rfl⟩
  | fm => exact ⟨rfl, rfl, Nat.le_of_ble_eq_true rfl, Nat.le_of_ble_eq_true rfl⟩
  | mi => exact ⟨rfl, rfl, Nat.le_of_ble_eq_true rfl, Nat.le_of_ble_eq_true rfl⟩
  | od => exact ⟨rfl, rfl, Nat.le_of_ble_eq_true rfl, Nat.le_of_ble_eq_true rfl⟩
  | mn c hc =>
    have i := okI_it (hw.it c hc)
    refine ⟨?_, ?_, ?_, ?_⟩
    · show (true && (true && (true && (simD c && true)))) = true; rw [i.sm]; rfl
    · show (true && (true && (c.plain && true))) = true; rw [i.pl]; rfl
    · show max 0 (max 0 (max c.depth 0)) + 1 ≤ 1; rw [i.dp]; decide
    · show max 0 (max 0 (max (dp c) 0)) + 1 ≤ 1; rw [i.d0]; decide
theorem FA_mem {u : Int} {ws : List (List D)} (hw : ∀ w ∈ ws, OkW w) {d : D} (h : d ∈ FA u ws) : simD d = true ∧ d.plain = true ∧ d.depth ≤ 1 ∧ dp d ≤ 1 := by
  rcases List.mem_append.mp h with h | h
  · unfold manyF at h
    split at h
    · rw [List.mem_singleton.mp h]
      exact ⟨rfl, rfl, Nat.le_of_ble_eq_true rfl, Nat.le_of_ble_eq_true rfl⟩
    · cases h
  · have h := (List.mem_filter.mp h).1
    obtain ⟨p, hp, rfl⟩ := List.mem_map.mp h
    exact fo_ok (fo_flt u p.2 p.1) (hw _ (List.mem_of_getElem? (nums_mem ws hp)))
theorem FA_len {u : Int} {ws : List (List D)} (hl : ws.length ≤ 100) : (FA u ws).length ≤ 200 := by
  unfold FA
  rw [List.length_append]
  have h1 := len_manyF (ws := ws)
  have h2 := List.length_filter_le (fun d => !isNone d) (allF u ws)
  rw [len_allF] at h2
  omega
theorem simDs_all : ∀ {l : List D}, (∀ d ∈ l, simD d = true) → simDs l = true
  | [], _ => rfl
  | d :: l, h => by show (simD d && simDs l) = true; rw [h d List.mem_cons_self, simDs_all fun e he => h e (List.mem_cons_of_mem _ he)]; rfl
theorem dps_all : ∀ {l : List D} {k : Nat}, (∀ d ∈ l, dp d ≤ k) → dps l ≤ k
  | [], _, _ => Nat.zero_le _
  | d :: l, k, h => by have := h d List.mem_cons_self; have := dps_all (l := l) (k := k) fun e he => h e (List.mem_cons_of_mem _ he); show max (dp d) (dps l) ≤ k; omega
theorem FA_sim {u : Int} {ws : List (List D)} (hw : ∀ w ∈ ws, OkW w) (hl : ws.length ≤ 100) : simD (.list (FA u ws)) = true ∧ dp (.list (FA u ws)) ≤ 4 := by
  refine ⟨?_, ?_⟩
  · show (decide _ && simDs _) = true
    rw [decide_eq_true (Nat.le_trans (FA_len hl) (by decide)), simDs_all fun d hd => (FA_mem hw hd).1]; rfl
  · have := dps_all (l := FA u ws) (k := 1) fun d hd => (FA_mem hw hd).2.2.2
    show dps _ + 1 ≤ 4; omega
theorem FA_plain {u : Int} {ws : List (List D)} (hw : ∀ w ∈ ws, OkW w) : PyData.plainAll (FA u ws) = true ∧ (PyData.list (FA u ws)).depth ≤ 20 := by
  refine ⟨plainAll_of fun d hd => (FA_mem hw hd).2.1, ?_⟩
  have := depthAll_of (k := 1) (l := FA u ws) fun d hd => (FA_mem hw hd).2.2.1
  show PyData.depthAll _ + 1 ≤ 20; omega
/-! calls -/
section
variable {n i : Nat} {env : Ev.Env} {K : O → Ev.Env → Prop} {X : Nat → Prop}
theorem w10 {ns : List Int} (e : env[i]? = some (some (.scr ns))) (hn : ns.length ≤ 63) (h : ∀ ds, St env i (some (.scr ns)) fun e1 => K (dr ds) e1) : Wc Tb (n + 60) 10 [(some i, .none)] env K X := by
  obtain ⟨ds, h10⟩ := r10 n ns hn
  exact wcl0 ⟨_, h10⟩ rfl e (h ds)
theorem w17 {ds : List Int} {u m : Int} (e : env[i]? = some (some (dr ds))) (hu : 0 ≤ u ∧ u ≤ 20000) (hm : 0 ≤ m ∧ m ≤ 100) (h : ∀ (ws : List (List D)) ds', (∀ w ∈ ws, OkW w) → ws.length ≤ 100 → St env i (some (dr ds')) fun e1 => K (.lst ((ws.map PyData.tuple).map .val)) e1) : Wc Tb (n + 100) 17 [(some i, .none), (none, .int u), (none, .int m)] env K X := by
  obtain ⟨r, o', ⟨xs, ds', rfl, hx, hl, rfl⟩, hr⟩ := r17 n ds u m hu.1 hu.2 hm.2 hm.1
  have : ∃ ws : List (List D), xs = ws.map PyData.tuple ∧ (∀ w ∈ ws, OkW w) ∧ ws.length = xs.length := by
    clear hr hl h
    induction xs with
    | nil => exact ⟨[], rfl, by simp, rfl⟩
    | cons x xs ih =>
      obtain ⟨ws, rfl, h1, h2⟩ := ih fun y hy => hx y (List.mem_cons_of_mem _ hy)
      have := hx x List.mem_cons_self
      cases x with
      | tuple w => exact ⟨w :: ws, rfl, fun v hv => by rcases List.mem_cons.mp hv with rfl | hv; exact this; exact h1 v hv, by rw [List.length_cons, List.length_cons, h2]⟩
      | _ => cases this
  obtain ⟨ws, rfl, h1, h2⟩ := this
  exact wcl2 hr rfl e (h ws ds' h1 (by omega))
theorem isN_ok {u : Int} (hu : 0 ≤ u ∧ u ≤ 20000) : isN 20000 (.int u) = true := by
  show (decide _ && decide _) = true
  rw [decide_eq_true hu.1, decide_eq_true hu.2]; rfl
variable {ws : List (List D)} {xs : List D} {u : Int}
theorem w5 {r : List D} (ev : Dt xs ws) (er : FA u ws = r) (hl : ws.length ≤ 100) (hu : 0 ≤ u ∧ u ≤ 20000) (h : K (.lst (r.map .val)) env) : Wc Tb (n + 80) 5 [(none, .int u), (none, .list xs)] env K X := by
  cases ev; subst er; exact wc2 (r5 n u ws hl (isN_ok hu)) h
theorem w14 (ev : Dt xs ws) (hl : ws.length ≤ 100) (hu : 0 ≤ u ∧ u ≤ 20000) (h : K (.lst ((FA u ws).map .val)) env) : Wc Tb (n + 90) 14 [(none, .int u), (none, .list xs)] env K X := by
  cases ev; exact wc2 (r14 n u ws hl (isN_ok hu)) h
theorem w9 (ev : Dt xs ws) (hl : ws.length ≤ 100) (hu : 0 ≤ u ∧ u ≤ 20000) (h : K (.val (.bool (okF u ws))) env) : Wc Tb (n + 80) 9 [(none, .int u), (none, .list xs)] env K X := by
  cases ev; exact wc2 (r9 n u ws hl (isN_ok hu)) h
theorem w16 (ev : Dt xs ws) (hl : ws.length ≤ 100) (hw : ∀ w ∈ ws, OkW w) (h : K (.lst ((FA u ws).map .val)) env) : Wc Tb (n + 70) 16 [(none, .int u), (none, .list xs)] env K X := by
  cases ev; exact wc2 (r16 u ws n hl hw) h
theorem w13 {x y : D} (e : x = y) (hs : simD x = true ∧ dp x ≤ 4) (h : K (.val (.bool true)) env) : Wc Tb (n + 110) 13 [(none, x), (none, y)] env K X := by
  subst e
  exact wc2 (r13 4 x hs.1 hs.2 n) h
theorem w13z {x y : D} (z : D) (e : x = z) (e' : y = z) (hs : simD z = true ∧ dp z ≤ 4) (h : K (.val (.bool true)) env) : Wc Tb (n + 110) 13 [(none, x), (none, y)] env K X := by
  subst e; subst e'
  exact wc2 (r13 4 _ hs.1 hs.2 n) h
theorem w14e {d v : D} (h0 : isN 20000 d = false) (h : K (.val noD) env) : Wc Tb (n + 90) 14 [(none, d), (none, v)] env K X := wc2 (r14e n fun m => r5e1 m h0) h
theorem w14x {v : D} (hu : 0 ≤ u ∧ u ≤ 20000) (h0 : isDr v = false) (h1 : ∀ xs, v = .list xs → xs.length ≤ 100) (h : K (.val noD) env) : Wc Tb (n + 90) 14 [(none, .int u), (none, v)] env K X := wc2 (r14e n fun m => r5e2 m (isN_ok hu) h0 h1) h
theorem FAw (h0 : 0 ≤ u) (m : Nat) : FA u (List.replicate m [.str "went", .int 0]) = if 40 < m then [.tuple [.str "many", .int m]] else [] := by
  unfold FA manyF
  rw [List.length_replicate]
  have : (allF u (List.replicate m [.str "went", .int 0])).filter (fun d => !isNone d) = [] := by
    refine List.filter_eq_nil_iff.mpr fun d hd => ?_
    obtain ⟨p, hp, rfl⟩ := List.mem_map.mp hd
    have hw := List.mem_of_getElem? (nums_mem _ hp)
    have hw := (List.mem_replicate.mp hw).2
    rw [hw]
    have : flt u [.str "went", .int 0] p.1 = .none := by
      show (if isN u (.int 0) then PyData.none else fMin p.1) = _
      rw [show isN u (.int 0) = true by show (decide ((0 : Int) ≤ 0) && decide ((0 : Int) ≤ u)) = true; rw [decide_eq_true (Int.le_refl 0), decide_eq_true h0]; rfl]; rfl
    rw [this]; decide
  rw [this, List.append_nil]
theorem v1_repr {ws : List (List D)} {k : O → Prop} (hw : ∀ w ∈ ws, OkW w) (hl : ws.length ≤ 100) (h : k (.val (.str (dft ws).shown))) : V1 .repr (.list (ws.map PyData.tuple)) k := ⟨_, repr_ok hw hl, h⟩
end
local macro_rules | `(tactic| wtm_at "e side") => `(tactic| exact Nat.lt_of_le_of_lt (FA_len (by assumption)) (by decide))
local macro_rules | `(tactic| wtm_at "e call") => `(tactic| first | ((with_reducible apply w11); (· exact rfl); (· wtm_at "e side"); (intro _ _ _ _)) | ((with_reducible apply w12); (· exact rfl); (· simp); (intro _)) | ((with_reducible apply w10); (· exact rfl); (· assumption); (intro _)) | ((with_reducible apply w17); (· exact rfl); (· omega); (· omega); (intro _ _ _ _)) | ((with_reducible apply w16); (· wtm_at "e dt"); (· assumption); (· assumption)) | ((with_reducible apply w14e); (· exact rfl)) | ((with_reducible apply w14); (· wtm_at "e dt"); (· first | assumption | decide); (· omega)) | ((with_reducible apply w14x); (· omega); (· exact rfl); (· intro xs e; first | (cases e; done) | (cases e; decide))) | ((with_reducible apply w9); (· wtm_at "e dt"); (· first | assumption | decide); (· omega)) | ((with_reducible apply w5); (· wtm_at "e dt"); (· exact rfl); (· decide); (· decide)) | ((with_reducible apply w13); (· with_reducible rfl); (· exact FA_sim (by assumption) (by assumption))) | ((with_reducible apply w13); (· exact congrArg _ (okF_FA _ _).symm); (· exact ⟨rfl, Nat.zero_le _⟩)))
local macro_rules | `(tactic| wtm_at "e val") => `(tactic| first | (with_reducible apply Ev.am_cons) | (with_reducible exact Ev.am_nil) | ((with_reducible apply v1_repr); (· assumption); (· assumption)) | ((with_reducible apply Ev.v2_eqE); (· exact (FA_plain (by assumption)).1); (· exact (FA_plain (by assumption)).2)))
def I18 (ns : List Int) (e : Ev.Env) : Prop := ∃ ds a2 a3 a4 a5 a6 a7 a8 a9 a10 a11, e = [some (.scr ns), some (dr ds), a2, a3, a4, a5, a6, a7, a8, a9, a10, a11, none]
def J18 (ns : List Int) (e : Ev.Env) : Prop := ∃ u ds a2 a3 a5 a6 a7 a8 a9 a10 a11, (0 ≤ u ∧ u ≤ 20000) ∧ e = [some (.scr ns), some (dr ds), a2, a3, some (.val (.int u)), a5, a6, a7, a8, a9, a10, a11, none]
def Ju18 (ns : List Int) (u : Int) (e : Ev.Env) : Prop := ∃ ds a2 a3 a5 a6 a7 a8 a9 a10 a11, e = [some (.scr ns), some (dr ds), a2, a3, some (.val (.int u)), a5, a6, a7, a8, a9, a10, a11, none]
theorem r18 (n : Nat) (ns : List Int) (hn : ns.length ≤ 63) : Ret Tb (n + 200) 18 [.scr ns] (.val (.bool true)) := by
  wtm_at "e def"
  wtm_at "e wp"
  refine Ev.lp_inv (I18 ns) ⟨_, _, _, _, _, _, _, _, _, _, _, rfl⟩ ?_ ?_
  · rintro d _ _ ⟨ds, a2, a3, a4, a5, a6, a7, a8, a9, a10, a11, rfl⟩
    wtm_at "e wp1"
    wtm_at "e wp1"
    refine Ev.ws_cut (J18 ns) ?_ ?_
    · wtm_at "e wp"
      · exact ⟨0, _, _, _, _, _, _, _, _, _, _, by omega, rfl⟩
      · exact ⟨20000, _, _, _, _, _, _, _, _, _, _, by omega, rfl⟩
      · exact ⟨_, _, _, _, _, _, _, _, _, _, _, by omega, rfl⟩
    · clear ds a2 a3 a4 a5 a6 a7 a8 a9 a10 a11
      rintro _ ⟨u, ds, a2, a3, a5, a6, a7, a8, a9, a10, a11, hu, rfl⟩
      refine Ev.ws_cut (Ju18 ns u) ?_ ?_
      · wtm_at "e wp"
        refine Ev.lp_inv (Ju18 ns u) ⟨_, _, _, _, _, _, _, _, _, _, rfl⟩ ?_ ?_
        · clear ds a2 a3 a5 a6 a7 a8 a9 a10 a11
          rintro d hd _ ⟨ds, a2, a3, a5, a6, a7, a8, a9, a10, a11, rfl⟩
          obtain ⟨m, rfl, hm⟩ : ∃ m : Int, d = .int m ∧ (0 ≤ m ∧ m ≤ 100) := by
            simp only [List.mem_cons, List.not_mem_nil, or_false] at hd
            rcases hd with rfl | rfl
            · exact ⟨_, rfl, by omega⟩
            · exact ⟨_, rfl, by omega⟩
          wtm_at "e wp"
          exact ⟨_, _, _, _, _, _, _, _, _, _, rfl⟩
        · intro e h
          exact h
      · clear ds a2 a3 a5 a6 a7 a8 a9 a10 a11
        rintro _ ⟨ds, a2, a3, a5, a6, a7, a8, a9, a10, a11, rfl⟩
        wtm_at "e wp"
        · refine w13z (.list [.list [], .bool true]) ?_ rfl ⟨rfl, Nat.le_of_ble_eq_true rfl⟩ ?_
          · show PyData.list [.list (FA u (List.replicate 40 _)), .bool (okF u (List.replicate 40 _))] = _
            rw [← okF_FA, FAw hu.1]; rfl
          · wtm_at "e wp"
            all_goals refine Ev.cq_mapL (fun _ => noD) (by wtm_at "e lit") ?_ ?_
            all_goals wtm_at "e wp"
            all_goals refine w13z (.list (List.replicate 9 noD)) rfl rfl ⟨rfl, Nat.le_of_ble_eq_true rfl⟩ ?_
            all_goals wtm_at "e wp"
            all_goals exact ⟨_, _, _, _, _, _, _, _, _, _, _, rfl⟩
        · refine w13z (.list [.list [.tuple [.str "many", .int 41]], .bool false]) ?_ rfl ⟨rfl, Nat.le_of_ble_eq_true rfl⟩ ?_
          · show PyData.list [.list (FA u (List.replicate 41 _)), .bool (okF u (List.replicate 41 _))] = _
            rw [← okF_FA, FAw hu.1]; rfl
          · wtm_at "e wp"
            all_goals refine Ev.cq_mapL (fun _ => noD) (by wtm_at "e lit") ?_ ?_
            all_goals wtm_at "e wp"
            all_goals refine w13z (.list (List.replicate 9 noD)) rfl rfl ⟨rfl, Nat.le_of_ble_eq_true rfl⟩ ?_
            all_goals wtm_at "e wp"
            all_goals exact ⟨_, _, _, _, _, _, _, _, _, _, _, rfl⟩
  · rintro _ ⟨ds, a2, a3, a4, a5, a6, a7, a8, a9, a10, a11, rfl⟩
    wtm_at "e wp"
    refine w13z (.list [.list [.tuple [.str "minute", .int 0], .tuple [.str "order", .int 1], .tuple [.str "word", .int 2], .tuple [.str "many", .int 3, .int 401], .tuple [.str "form", .int 4]], .list [.tuple [.str "order", .int 0], .tuple [.str "minute", .int 1], .tuple [.str "minute", .int 2]], .list []]) (by kernel_rfl) rfl ⟨rfl, Nat.le_of_ble_eq_true rfl⟩ ?_
    wtm_at "e wp"
theorem cw : PySem.Challenge.rw_chimeward_k09_whole_faults_of_words.Holds := Hd.join 200 (by decide) fun ns hn _ => r18 0 ns hn
end Hd

end
theorem PySem.Challenge.cw_chimeward_k09_whole_faults_of_words_holds : PySem.Challenge.rw_chimeward_k09_whole_faults_of_words.Holds := by
  exact Hd.cw
