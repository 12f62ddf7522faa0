import PyProof.Rows.All
import Wide.All
import OpenK.AllK
import Wide.FinOn
import KE.KStateDown
import HandS.Base
import HandS.Call
import HandS.Ends
import HandS.More
import HandS.Words
import HandS.WordsExc
import HandS.Defaults
import HandS.Head0
import HandS.Head1
import HandS.Head2
import HandS.HeadEnd
import HandS.HeadHook1
import HandS.HeadHook2
import KE.SortData
import KE.DataEq
import KE.DataIsa
import HandS.List
import HandS.ForMost
import KE.KDictKeyed
import KE.KDictLaw
import KE.DataCmp
import HandS.Wide
import HandS.TupAny
import HandS.Small
import KE.GoesNew
import KE.GoesDict
import KE.KDictWalk
import PyProof.DictRoadsH
import HandS.TupSets
import HandS.SetFor
import KE.KDictSum
import HandS.ExcValue
import HandS.Conv
import KE.KDictPairs
import HandS.Style
import KE.KDictCopyH
import PyProof.SumAny
import PyProof.DictValues
import PySem.Challenge.RW_readerknows_k52_whole_endless
set_option Elab.async false
set_option Elab.async false
set_option linter.all false
set_option maxRecDepth 100000
set_option maxHeartbeats 0
namespace Hd
open PySem PySem.Spec PyProof.Rows L2
def top (i : Nat) : Stmt := PySem.Challenge.pw_readerknows_k52_whole_endless.main.body.getD i (.Pass ⟨0, 0, 0, 0⟩)
def mkD (x : Str) (i : Nat) : He.DefD := ⟨(x, none), x, x, defArgs (top i), defBody (top i), defScope (top i), [], []⟩
def fn0 : List He.DefD := [mkD "is_int" 12, mkD "is_rising" 13, mkD "is_word" 14, mkD "are_marks" 15, mkD "are_apart" 16, mkD "is_outcome" 17, mkD "is_option" 18, mkD "is_passage" 19, mkD "is_story" 20, mkD "check_story" 21, mkD "find_firsts" 23, mkD "is_offered" 24, mkD "options_at" 25, mkD "find_offered" 26, mkD "changed" 27, mkD "outcomes_at" 28, mkD "find_next" 29, mkD "steps_from" 31, mkD "states_ahead" 32, mkD "find_met" 35, mkD "find_count" 36, mkD "count_plays" 37, mkD "find_ends" 39, mkD "met_ends" 40, mkD "end_texts" 41, mkD "find_traps" 42, mkD "traps" 43, mkD "is_round" 44, mkD "find_rounds" 45, mkD "rounds" 46]
def fn1 : List He.DefD := [mkD "longest_play" 47, mkD "_law_pick" 49, mkD "_law_option" 50, mkD "_law_story" 51, mkD "_law_open" 52, mkD "_law_goes" 53, mkD "_law_steps" 54, mkD "_law_met" 55, mkD "_law_firsts" 56, mkD "_law_longest" 57, mkD "law" 58]
def fn : List He.DefD := fn0 ++ fn1
def fa0 : List He.Fa := [.glo "is_int", .glo "is_rising", .glo "is_word", .glo "are_marks", .glo "are_apart", .glo "is_outcome", .glo "is_option", .glo "is_passage", .glo "is_story", .glo "check_story", .glo "find_firsts", .glo "is_offered", .glo "options_at", .glo "find_offered", .glo "changed", .glo "outcomes_at", .glo "find_next", .glo "steps_from", .glo "states_ahead", .glo "find_met", .glo "find_count", .glo "count_plays", .glo "find_ends", .glo "met_ends", .glo "end_texts", .glo "find_traps", .glo "traps", .glo "is_round", .glo "find_rounds", .glo "rounds"]
def fa1 : List He.Fa := [.glo "longest_play", .glo "_law_pick", .glo "_law_option", .glo "_law_story", .glo "_law_open", .glo "_law_goes", .glo "_law_steps", .glo "_law_met", .glo "_law_firsts", .glo "_law_longest", .glo "law", .free "ValueError", .free "all", .free "any", .free "bool", .free "dict", .free "enumerate", .free "int", .free "isinstance", .free "len", .free "list", .free "max", .free "min", .free "range", .free "set", .free "sorted", .free "str", .free "sum", .free "tuple", .free "zip"]
def fa2 : List He.Fa := [.str "LETTERS" "abcdefghijklmnopqrstuvwxyz", .str "MARKS" "abcd", .int "MAX_WORD" 6, .int "MAX_STARTS" 4, .int "MAX_PASSAGES" 6, .int "MAX_OPTIONS" 4, .int "MAX_OUTCOMES" 2, .int "MAX_COUNTED" 20]
def fa : List He.Fa := fa0 ++ fa1 ++ fa2
def nm0 : List PySem.Str := ["StoryError", "InvalidStory", "InvalidNumber", "LETTERS", "MARKS", "MAX_WORD", "MAX_STARTS", "MAX_PASSAGES", "MAX_OPTIONS", "MAX_OUTCOMES", "is_int", "is_rising", "is_word", "are_marks", "are_apart", "is_outcome", "is_option", "is_passage", "is_story", "check_story", "find_firsts", "is_offered", "options_at", "find_offered", "changed", "outcomes_at", "find_next", "steps_from", "states_ahead", "MAX_COUNTED"]
def nm1 : List PySem.Str := ["find_met", "find_count", "count_plays", "find_ends", "met_ends", "end_texts", "find_traps", "traps", "is_round", "find_rounds", "rounds", "longest_play", "_law_pick", "_law_option", "_law_story", "_law_open", "_law_goes", "_law_steps", "_law_met", "_law_firsts", "_law_longest"]
def names : List PySem.Str := nm0 ++ nm1
abbrev R : PySem.W.OpenRow := PySem.W.OpenLaw.row PySem.Challenge.rw_readerknows_k52_whole_endless
abbrev hk : PySem.W.Hook := He.hookD 4 fa fn
def ob (s : PySem.W.SharedT) : He.AlD := He.obsDG 4 fa fn (HandSHeadRun.getT s)
theorem ob_eq (s : PySem.W.SharedT) : ob s = hk.obs s.abs := He.obsDG_eq (HandSHeadRun.getT_eq s)
theorem run (w : World) : HandSHeadRun.RunEq R (PySem.W.view R.prog [58]) hk ob 4000 names w := by
  intro os
  kernel_rfl
end Hd

/-! IR and its interpreter over data. -/
set_option autoImplicit false
namespace Rk
open PySem PySem.W

abbrev D := PyData

inductive Bop where
  | add | sub | mul | fdiv | mod | pow
inductive Cop where
  | eq | ne | lt | le | gt | ge | isin | notin | isN | notN
/-- a target: a name, names in a tuple -/
inductive Tg where
  | nm (i : Nat)
  | tp (is : List Nat)
/-- what is walked -/
inductive Ik where
  | seq | range1 | range2 | zip | enum
inductive Bl where
  | len | sorted | sortedSet | lenSet | list | tuple | all | any | max2 | min2 | maxL | minL | sum | int
  | isInt | isBool | isStr | isTuple | isList | join | get1 | get2 | dictOf | str | replace | neg | sumV

inductive Ex where
  | v (i : Nat)
  | c (d : D)
  | tup (es : List Ex)
  | lst (es : List Ex)
  | emp
  | bin (op : Bop) (a b : Ex)
  | cmp (op : Cop) (a b : Ex)
  | le2 (a b c : Ex)
  | and (a b : Ex)
  | or (a b : Ex)
  | not (a : Ex)
  | ite (t a b : Ex)
  | idx (a i : Ex)
  | from_ (a i : Ex)
  | upto (a i : Ex)
  | comp (t : Tg) (k : Ik) (src : List Ex) (elt : Ex)
  | compIf (t : Tg) (k : Ik) (src : List Ex) (test elt : Ex)
  | call (f : Nat) (es : List Ex)
  | blt (b : Bl) (es : List Ex)

inductive Sm where
  | set (t : Tg) (e : Ex)
  | par (is : List Nat) (es : List Ex)
  | app (x : Nat) (e : Ex)
  | ext (x : Nat) (e : Ex)
  | pop (y x : Nat)
  | put (x : Nat) (k e : Ex)
  | exp (e : Ex)
  | for_ (t : Tg) (k : Ik) (src : List Ex) (body : List Sm)
  | whl (t : Ex) (body : List Sm)
  | ite (t : Ex) (a b : List Sm)
  | ret (e : Ex)
  | retN
  | cont
  | pass
  | fail

/-- how a value is held: new (nobody else has it), shared for ever, or borrowed from an own name -/
inductive Tag where
  | fr | im | ow
  deriving DecidableEq

/-- a slot: own or not, its datum -/
abbrev Slot := Bool × D
abbrev Env := List (Option Slot)

/-! ### data -/
mutual
/-- no list, no dict within -/
def pur : D → Bool
  | .none | .bool _ | .int _ | .str _ => true
  | .tuple xs => purAll xs
  | .list _ | .dict _ => false
def purAll : List D → Bool
  | [] => true
  | x :: xs => pur x && purAll xs
end
mutual
/-- a key of a dict within a tuple: numbers, texts, tuples of these -/
def keyIn : D → Bool
  | .int _ | .str _ => true
  | .tuple xs => keyInAll xs
  | _ => false
def keyInAll : List D → Bool
  | [] => true
  | x :: xs => keyIn x && keyInAll xs
end
/-- a key: a tuple of numbers, texts, tuples, at most 8 deep -/
def keyT : D → Bool
  | .tuple xs => keyInAll xs && decide ((PyData.tuple xs).depth ≤ 8)
  | _ => false

def depOk (a b : D) : Bool := decide (min a.depth b.depth ≤ 100)
def eqD (a b : D) : Option Bool := if a.plain && b.plain && depOk a b then some (PyData.eqv a b) else none
def ltOk (a b : D) : Bool := alike a b && (match a with | .none => false | _ => true) && depOk a b && a.plain && b.plain

def isNone : D → Bool
  | .none => true
  | _ => false

/-- one sign within a text -/
def signIn (x y : Str) : Option Bool := match x.cps.toList with
  | [c] => some (decide (c ∈ y.cps.toList))
  | _ => none

def inAny (ds : List D) (d : D) : Option Bool :=
  if PyData.plainAll ds && d.plain && decide (min (PyData.depthAll ds) d.depth ≤ 100) then some (ds.any fun z => PyData.eqv z d) else none

def dget : List (D × D) → D → Option D
  | [], _ => none
  | p :: r, k => if PyData.eqv p.1 k then some p.2 else dget r k
def dput : List (D × D) → D → D → List (D × D)
  | [], k, x => [(k, x)]
  | p :: r, k, x => if PyData.eqv p.1 k then (p.1, x) :: r else p :: dput r k x
/-- all keys tuples -/
def keysT (kvs : List (D × D)) : Bool := kvs.all fun p => keyT p.1

/-- a key that is a number or a text -/
def keyI : D → Bool
  | .int _ | .str _ => true
  | _ => false
/-- some keys, all numbers or texts -/
def keysI (kvs : List (D × D)) : Bool := !kvs.isEmpty && kvs.all fun p => keyI p.1
def dmerge (kvs : List (D × D)) : List (D × D) := kvs.foldl (fun acc p => dput acc p.1 p.2) []

def cmpD (op : Cop) (a b : D) : Option Bool := match op with
  | .eq => eqD a b
  | .ne => (eqD a b).map not
  | .lt => if ltOk a b then some (dataLt a b) else none
  | .gt => if ltOk a b then some (dataLt b a) else none
  | .le => if ltOk a b then some (!dataLt b a) else none
  | .ge => if ltOk a b then some (!dataLt a b) else none
  | .isin => match b with
    | .str y => match a with
      | .str x => signIn x y
      | _ => none
    | .list ds => inAny ds a
    | .tuple ds => inAny ds a
    | .dict kvs => if keyT a && keysT kvs then some (dget kvs a).isSome else if keyI a && keysI kvs then some (dget kvs a).isSome else none
    | _ => none
  | .notin => match b with
    | .str y => match a with
      | .str x => (signIn x y).map not
      | _ => none
    | .list ds => (inAny ds a).map not
    | .tuple ds => (inAny ds a).map not
    | .dict kvs => if keyT a && keysT kvs then some (!(dget kvs a).isSome) else if keyI a && keysI kvs then some (!(dget kvs a).isSome) else none
    | _ => none
  | .isN => if isNone b then some (isNone a) else none
  | .notN => if isNone b then some (!isNone a) else none

/-- a number of items that fits -/
def fitsN (n : Nat) : Bool := decide (n ≤ 16000000)

def binD (op : Bop) (a b : D) : Option (Tag × D) := match op, a, b with
  | .add, .int i, .int j => some (.im, .int (i + j))
  | .add, .str x, .str y => if fitsN (x.length + y.length) then some (.im, .str (x ++ y)) else none
  | .add, .tuple xs, .tuple ys => if fitsN (xs.length + ys.length) then some (.im, .tuple (xs ++ ys)) else none
  | .add, .list xs, .list ys => if fitsN (xs.length + ys.length) then some (.fr, .list (xs ++ ys)) else none
  | .sub, .int i, .int j => some (.im, .int (i - j))
  | .mul, .int i, .int j => if decide (j.natAbs < 2 ^ 64) || decide (i.natAbs < 2 ^ 64) then some (.im, .int (i * j)) else none
  | .fdiv, .int i, .int j => if decide (0 < j) && decide (j < 2 ^ 1000) then some (.im, .int (i / j)) else none
  | .mod, .int i, .int j => if decide (0 < j) then some (.im, .int (i % j)) else none
  | .pow, .int i, .int j => if decide (0 ≤ j) && decide (j ≤ 1000) && decide (i.natAbs < 2 ^ 64) then some (.im, .int (i ^ j.toNat)) else none
  | _, _, _ => none

def idxD (a i : D) : Option (Tag × D) := match a, i with
  | .list xs, .int k => (L2.atI xs k).map (.im, ·)
  | .tuple xs, .int k => (L2.atI xs k).map (.im, ·)
  | .dict kvs, k => if keyT k && keysT kvs then (dget kvs k).map (.im, ·) else if keyI k && keysI kvs then (dget kvs k).map (.im, ·) else none
  | _, _ => none

/-- a part -/
def cut {α : Type} (xs : List α) (lo hi : Option Int) : List α := (xs.drop (HT.sIx xs.length 0 lo)).take (HT.sIx xs.length xs.length hi - HT.sIx xs.length 0 lo)
def cutD (a : D) (lo hi : Option Int) : Option (Tag × D) := match a with
  | .list xs => some (.fr, .list (cut xs lo hi))
  | .tuple xs => some (.im, .tuple (cut xs lo hi))
  | .str x => if fitsN x.length then some (.im, .str ⟨(cut x.cps.toList lo hi).toArray⟩) else none
  | _ => none

/-! ### order -/
def insD (x : D) : List D → List D
  | [] => [x]
  | y :: r => if dataLt y x then y :: insD x r else x :: y :: r
/-- a stable sort, by inserting from the right -/
def isort : List D → List D
  | [] => []
  | x :: r => insD x (isort r)
def dedup : List D → List D
  | [] => []
  | x :: r => if r.any (PyData.eqv x) then dedup r else x :: dedup r
def hdOk : D → Bool
  | .tuple (_ :: _) => true
  | _ => false
def notNT : D → Bool
  | .none | .tuple _ => false
  | _ => true
/-- items that can be sorted -/
def sortable (ds : List D) : Bool := ds.all (fun a => ds.all (alike a)) && (ds.all hdOk || ds.all notNT) && ds.all (fun d => decide (d.depth ≤ 100)) && fitsN ds.length && PyData.plainAll ds
/-- items of a set: texts, numbers, keys -/
def setOk (ds : List D) : Bool := ds.all keyT || ds.all (fun d => match d with | .str _ => true | _ => false) || ds.all (fun d => match d with | .int _ => true | _ => false)

def strsOf : List D → Option (List Str)
  | [] => some []
  | .str x :: r => (strsOf r).map (x :: ·)
  | _ :: _ => none
def boolsOf : List D → Option (List Bool)
  | [] => some []
  | .bool x :: r => (boolsOf r).map (x :: ·)
  | _ :: _ => none
def intsOf : List D → Option (List Int)
  | [] => some []
  | .int x :: r => (intsOf r).map (x :: ·)
  | _ :: _ => none
def pairsOf : List D → Option (List (D × D))
  | [] => some []
  | .tuple [k, x] :: r => (pairsOf r).map ((k, x) :: ·)
  | _ :: _ => none

/-- the items that a walk over a datum yields -/
def itemsOf : D → Option (List D)
  | .list xs => some xs
  | .tuple xs => some xs
  | .str x => if fitsN x.length then some (x.cps.toList.map fun c => .str ⟨#[c]⟩) else none
  | .dict kvs => if keysT kvs && fitsN kvs.length then some (kvs.map (·.1)) else none
  | _ => none
def seqOf : D → Option (List D)
  | .list xs => some xs
  | .tuple xs => some xs
  | .str x => if fitsN x.length then some (x.cps.toList.map fun c => .str ⟨#[c]⟩) else none
  | _ => none
def rangeD (a b : Int) : Option (List D) := if decide (a.natAbs < 2 ^ 60) && decide (b.natAbs < 2 ^ 60) && fitsN (b - a).toNat then some ((List.range (b - a).toNat).map fun (k : Nat) => .int (a + k)) else none
def walkD (k : Ik) (ds : List D) : Option (List D) := match k, ds with
  | .seq, [d] => itemsOf d
  | .range1, [.int n] => rangeD 0 n
  | .range2, [.int a, .int b] => rangeD a b
  | .zip, [a, b] => (seqOf a).bind fun xs => (seqOf b).map fun ys => (xs.zip ys).map fun p => .tuple [p.1, p.2]
  | .enum, [a] => (seqOf a).map fun xs => xs.mapIdx fun i x => .tuple [.int i, x]
  | _, _ => none

def lenD : D → Option Nat
  | .list xs => some xs.length
  | .tuple xs => some xs.length
  | .dict kvs => if keysT kvs && fitsN kvs.length then some kvs.length else none
  | .str x => if fitsN x.length then some x.length else none
  | _ => none

def bltD (b : Bl) (ds : List D) : Option (Tag × D) := match b, ds with
  | .len, [d] => (lenD d).map fun (n : Nat) => (Tag.im, PyData.int (Int.ofNat n))
  | .sorted, [.list xs] => if sortable xs then some (.fr, .list (isort xs)) else none
  | .sorted, [.dict kvs] => if keysT kvs && sortable (kvs.map (·.1)) then some (.fr, .list (isort (kvs.map (·.1)))) else none
  | .sortedSet, [.list xs] => if sortable xs && setOk xs && decide ((dedup xs).length < 63) then some (.fr, .list (isort (dedup xs))) else none
  | .sortedSet, [.tuple xs] => if sortable xs && setOk xs && decide ((dedup xs).length < 63) then some (.fr, .list (isort (dedup xs))) else none
  | .list, [d] => match d with
    | .list xs => some (.fr, .list xs)
    | .tuple xs => some (.fr, .list xs)
    | _ => none
  | .tuple, [d] => match d with
    | .list xs => some (.im, .tuple xs)
    | .tuple xs => some (.im, .tuple xs)
    | _ => none
  | .all, [.list xs] => (boolsOf xs).map fun bs => (.im, .bool (bs.all id))
  | .any, [.list xs] => (boolsOf xs).map fun bs => (.im, .bool (bs.any id))
  | .max2, [.int a, .int b] => some (.im, .int (if b > a then b else a))
  | .min2, [.int a, .int b] => some (.im, .int (if b < a then b else a))
  | .int, [.int a] => some (.im, .int a)
  | .isInt, [d] => if d.plain then some (.im, .bool d.isInt) else none
  | .isBool, [d] => if d.plain then some (.im, .bool d.isBool) else none
  | .isStr, [d] => if d.plain then some (.im, .bool d.isStr) else none
  | .isTuple, [d] => if d.plain then some (.im, .bool d.isTuple) else none
  | .isList, [d] => if d.plain then some (.im, .bool d.isList) else none
  | .join, [.str a, .list xs] => (strsOf xs).bind fun ys => if fitsN ((ys.map Str.length).sum + ys.length * a.length) then some (.im, .str (Str.join a ys)) else none
  | .dictOf, [.list xs] => (pairsOf xs).bind fun kvs => if keysT kvs && fitsN kvs.length then some (.fr, .dict (dmerge kvs)) else if keysI kvs && fitsN kvs.length then some (.im, .dict (dmerge kvs)) else none
  | .get1, [.dict kvs, k] => if keyT k && keysT kvs then some (.im, (dget kvs k).getD .none) else none
  | .get2, [.dict kvs, k, x] => if keyT k && keysT kvs && pur x then some (.im, (dget kvs k).getD x) else none
  | .sum, [.list xs] => (intsOf xs).map fun is => (.im, .int is.sum)
  | .sumV, [.dict kvs] => if keysT kvs then (intsOf (kvs.map (·.2))).map fun is => (.im, .int is.sum) else none
  | .neg, [.int a] => some (.im, .int (-a))
  | _, _ => none

/-! ### the interpreter -/
def bindN : List Nat → List D → Env → Option Env
  | [], [], ρ => some ρ
  | i :: is, d :: ds, ρ => bindN is ds (ρ.set i (some (false, d)))
  | _, _, _ => none
/-- a datum to a target -/
def bindT (t : Tg) (d : D) (ρ : Env) : Option Env := match t with
  | .nm i => some (ρ.set i (some (false, d)))
  | .tp is => match d with
    | .tuple ds => bindN is ds ρ
    | .list ds => bindN is ds ρ
    | _ => none

def boolOf : Option (Tag × D) → Option Bool
  | some (_, .bool b) => some b
  | _ => none
/-- a value that may be kept in another thing -/
def keepOf : Option (Tag × D) → Option D
  | some (.ow, _) => none
  | some (_, d) => some d
  | none => none
/-- the turns of a comprehension -/
def compL (t : Tg) (c : Env → Option Bool) (e : Env → Option D) (ρ : Env) : List D → Option (List D)
  | [] => some []
  | d :: ds => match bindT t d ρ with
    | some ρ' => match c ρ' with
      | some true => match e ρ' with
        | some x => (compL t c e ρ ds).map (x :: ·)
        | none => none
      | some false => compL t c e ρ ds
      | none => none
    | none => none

/-- the names of a target, none of them own -/
def freeT (t : Tg) (ρ : Env) : Bool := (match t with | .nm i => [i] | .tp is => is).all fun i => match ρ[i]? with
  | some (some (true, _)) => false
  | _ => true
/-- a new list or dict of pure items, or a pure thing -/
def apart : Bool × D → Bool
  | (true, .list xs) => purAll xs
  | (_, d) => pur d
def lent : List (Tag × D) → Bool := fun rs => rs.any fun r => decide (r.1 = .ow)
/-- what comes back from a call -/
def backOf (rs : List (Tag × D)) : Option (Bool × D) → Option (Tag × D)
  | some r => if lent rs && !apart r then none else some (if r.1 then .fr else .im, r.2)
  | none => none

mutual
def ev (F : Nat → List D → Option (Bool × D)) : Ex → Env → Option (Tag × D)
  | .v i, ρ => match ρ[i]? with
    | some (some (true, d)) => some (.ow, d)
    | some (some (false, d)) => some (.im, d)
    | _ => none
  | .c d, _ => some (.im, d)
  | .tup es, ρ => (evK F es ρ).map fun ds => (.im, .tuple ds)
  | .lst es, ρ => (evK F es ρ).map fun ds => (.fr, .list ds)
  | .emp, _ => some (.fr, .dict [])
  | .bin op a b, ρ => match ev F a ρ with
    | some x => match ev F b ρ with
      | some y => binD op x.2 y.2
      | none => none
    | none => none
  | .cmp op a b, ρ => match ev F a ρ with
    | some x => match ev F b ρ with
      | some y => (cmpD op x.2 y.2).map fun r => (.im, .bool r)
      | none => none
    | none => none
  | .le2 a b c, ρ => match ev F a ρ with
    | some x => match ev F b ρ with
      | some y => match cmpD .le x.2 y.2 with
        | some true => match ev F c ρ with
          | some z => (cmpD .le y.2 z.2).map fun r => (.im, .bool r)
          | none => none
        | some false => some (.im, .bool false)
        | none => none
      | none => none
    | none => none
  | .and a b, ρ => match boolOf (ev F a ρ) with
    | some true => (boolOf (ev F b ρ)).map fun r => (.im, .bool r)
    | some false => some (.im, .bool false)
    | none => none
  | .or a b, ρ => match boolOf (ev F a ρ) with
    | some true => some (.im, .bool true)
    | some false => (boolOf (ev F b ρ)).map fun r => (.im, .bool r)
    | none => none
  | .not a, ρ => (boolOf (ev F a ρ)).map fun r => (.im, .bool (!r))
  | .ite t a b, ρ => match boolOf (ev F t ρ) with
    | some true => ev F a ρ
    | some false => ev F b ρ
    | none => none
  | .idx a i, ρ => match ev F a ρ with
    | some x => match ev F i ρ with
      | some y => idxD x.2 y.2
      | none => none
    | none => none
  | .from_ a i, ρ => match ev F a ρ with
    | some x => match ev F i ρ with
      | some (_, .int k) => cutD x.2 (some k) none
      | _ => none
    | none => none
  | .upto a i, ρ => match ev F a ρ with
    | some x => match ev F i ρ with
      | some (_, .int k) => cutD x.2 none (some k)
      | _ => none
    | none => none
  | .comp t k src elt, ρ => match evL F src ρ with
    | some rs => match walkD k (rs.map (·.2)) with
      | some items => if freeT t ρ then (compL t (fun _ => some true) (fun ρ' => keepOf (ev F elt ρ')) ρ items).map fun ds => (.fr, .list ds) else none
      | none => none
    | none => none
  | .compIf t k src test elt, ρ => match evL F src ρ with
    | some rs => match walkD k (rs.map (·.2)) with
      | some items => if freeT t ρ then (compL t (fun ρ' => boolOf (ev F test ρ')) (fun ρ' => keepOf (ev F elt ρ')) ρ items).map fun ds => (.fr, .list ds) else none
      | none => none
    | none => none
  | .call f es, ρ => match evL F es ρ with
    | some rs => backOf rs (F f (rs.map (·.2)))
    | none => none
  | .blt b es, ρ => match evL F es ρ with
    | some rs => bltD b (rs.map (·.2))
    | none => none
/-- items, kept -/
def evK (F : Nat → List D → Option (Bool × D)) : List Ex → Env → Option (List D)
  | [], _ => some []
  | e :: es, ρ => match keepOf (ev F e ρ) with
    | some x => (evK F es ρ).map (x :: ·)
    | none => none
/-- arguments, lent -/
def evL (F : Nat → List D → Option (Bool × D)) : List Ex → Env → Option (List (Tag × D))
  | [], _ => some []
  | e :: es, ρ => match ev F e ρ with
    | some x => (evL F es ρ).map (x :: ·)
    | none => none
end

inductive Out where
  | nx (ρ : Env)
  | ct (ρ : Env)
  | rt (r : Bool × D)

/-- an own name that is given away is own no more -/
def thaw (e : Ex) (ρ : Env) : Env := match e with
  | .v j => match ρ[j]? with
    | some (some (_, d)) => ρ.set j (some (false, d))
    | _ => ρ
  | _ => ρ
def thaws : List Ex → Env → Env
  | [], ρ => ρ
  | e :: es, ρ => thaws es (thaw e ρ)
def isMut : D → Bool
  | .list _ | .dict _ => true
  | _ => false
def isV : Ex → Bool
  | .v _ => true
  | _ => false
def slotOf (r : Tag × D) : Slot := (decide (r.1 = .fr), r.2)
def putAll : List Nat → List (Tag × D) → Env → Option Env
  | [], [], ρ => some ρ
  | i :: is, r :: rs, ρ => putAll is rs (ρ.set i (some (slotOf r)))
  | _, _, _ => none

def forL (b : D → Env → Option Out) : List D → Env → Option Out
  | [], ρ => some (.nx ρ)
  | d :: ds, ρ => match b d ρ with
    | some (.nx ρ') => forL b ds ρ'
    | some (.ct ρ') => forL b ds ρ'
    | r => r
def whlL (c : Env → Option Bool) (b : Env → Option Out) : Nat → Env → Option Out
  | 0, _ => none
  | n + 1, ρ => match c ρ with
    | some true => match b ρ with
      | some (.nx ρ') => whlL c b n ρ'
      | some (.ct ρ') => whlL c b n ρ'
      | r => r
    | some false => some (.nx ρ)
    | none => none

/-- the most turns of a while -/
def WF : Nat := 1000000

mutual
def ex (F : Nat → List D → Option (Bool × D)) : Sm → Env → Option Out
  | .set t e, ρ => match ev F e ρ with
    | some r => match t with
      | .nm i => if decide (r.1 = .ow) && !isV e then none else some (.nx ((thaw e ρ).set i (some (slotOf r))))
      | .tp is => (bindT (.tp is) r.2 ρ).map .nx
    | none => none
  | .par is es, ρ => match evL F es ρ with
    | some rs => if lent rs then none else (putAll is rs ρ).map .nx
    | none => none
  | .app x e, ρ => match ρ[x]? with
    | some (some (true, .list xs)) => match keepOf (ev F e ρ) with
      | some d => if fitsN xs.length then some (.nx (ρ.set x (some (true, .list (xs ++ [d]))))) else none
      | none => none
    | _ => none
  | .ext x e, ρ => match ρ[x]? with
    | some (some (true, .list xs)) => match ev F e ρ with
      | some (_, .list ys) => if fitsN (xs.length + ys.length) then some (.nx (ρ.set x (some (true, .list (xs ++ ys))))) else none
      | _ => none
    | _ => none
  | .pop y x, ρ => match ρ[x]? with
    | some (some (true, .list xs)) => match xs.getLast? with
      | some d => some (.nx ((ρ.set x (some (true, .list xs.dropLast))).set y (some (false, d))))
      | none => none
    | _ => none
  | .put x k e, ρ => match ρ[x]? with
    | some (some (true, .dict kvs)) => match keepOf (ev F e ρ) with
      | some d => match keepOf (ev F k ρ) with
        | some kd => if keyT kd && keysT kvs && fitsN kvs.length then some (.nx (ρ.set x (some (true, .dict (dput kvs kd d))))) else none
        | none => none
      | none => none
    | _ => none
  | .exp e, ρ => match ev F e ρ with
    | some _ => some (.nx ρ)
    | none => none
  | .for_ t k src body, ρ => match evL F src (thaws src ρ) with
    | some rs => if lent rs then none else match walkD k (rs.map (·.2)) with
      | some items => forL (fun d ρ => match bindT t d ρ with
          | some ρ' => exs F body ρ'
          | none => none) items (thaws src ρ)
      | none => none
    | none => none
  | .whl t body, ρ => whlL (fun ρ => boolOf (ev F t ρ)) (fun ρ => exs F body ρ) WF ρ
  | .ite t a b, ρ => match boolOf (ev F t ρ) with
    | some true => exs F a ρ
    | some false => exs F b ρ
    | none => none
  | .ret e, ρ => match ev F e ρ with
    | some (.im, d) => some (.rt (false, d))
    | some (.fr, d) => some (.rt (true, d))
    | some (.ow, d) => if isV e then some (.rt (true, d)) else none
    | none => none
  | .retN, _ => some (.rt (false, .none))
  | .cont, ρ => some (.ct ρ)
  | .pass, ρ => some (.nx ρ)
  | .fail, _ => none
def exs (F : Nat → List D → Option (Bool × D)) : List Sm → Env → Option Out
  | [], ρ => some (.nx ρ)
  | s :: ss, ρ => match ex F s ρ with
    | some (.nx ρ') => exs F ss ρ'
    | r => r
end

/-- a def: its parameters, its slots, its body -/
structure Fn where
  params : Nat
  slots : Nat
  body : List Sm
def argEnv (fn : Fn) (ds : List D) : Env := ds.map (fun d => some (false, d)) ++ List.replicate (fn.slots - fn.params) none
def callFn (F : Nat → List D → Option (Bool × D)) (fn : Fn) (ds : List D) : Option (Bool × D) :=
  if ds.length = fn.params then match exs F fn.body (argEnv fn ds) with
    | some (.rt r) => some r
    | some (.nx _) => some (false, .none)
    | _ => none
  else none
/-- a program's defs, by number -/
abbrev Tb := Nat → Option Fn
/-- n: how deep calls may go -/
def run (P : Tb) : Nat → Nat → List D → Option (Bool × D)
  | 0, _, _ => none
  | n + 1, f, ds => match P f with
    | some fn => callFn (run P n) fn ds
    | none => none
end Rk

/-! Data in the abstract heap; environments. -/
set_option autoImplicit false
set_option linter.all false
set_option maxRecDepth 100000
namespace Rk
open PySem PySem.Spec PyProof.Rows L2

/-- a dict with tuple keys stands at a: its entries -/
def dHO (P : Program) (w : World) (a : Addr) (ep : Nat) (es : List (NestedKey × Addr × V)) : HO := .ext fun h =>
  ∃ o ents, ∃ xs : List (NestedKey × Addr × Value), h.get? a = some o ∧ o.ExactDict ∧ o.data = .dict ents ep ∧ ents.toList = xs.map (entryOfKey (nestedKind P w)) ∧
    Paired (fun (e : NestedKey × Addr × V) (x : NestedKey × Addr × Value) => e.1 = x.1 ∧ e.2.1 = x.2.1 ∧ RelV e.2.2 x.2.2) es xs

/-- a number or a text as a datum -/
def kD : L2.Key → D
  | .inl i => .int i
  | .inr x => .str x
section
variable (P : Program) (w : World)
mutual
/-- v stands for the datum d; no object of it lies in O -/
inductive Rp (H : Hp) (O : Addr → Prop) : D → V → Prop
  | non : Rp H O .none .non
  | bl (b : Bool) : Rp H O (.bool b) (.bl b)
  | int (i : Int) : Rp H O (.int i) (.int i)
  | str (x : Str) : Rp H O (.str x) (.str x)
  | lst {a : Addr} {xs : List V} {ds : List D} : ¬ O a → Rd H a (.lst xs) → Rps H O ds xs → Rp H O (.list ds) (.ref a)
  | tup {a : Addr} {xs : List V} {ds : List D} : ¬ O a → H a = some (.tup xs) → Rps H O ds xs → Rp H O (.tuple ds) (.ref a)
  | dic {a : Addr} {ep : Nat} {es : List (NestedKey × Addr × V)} {kvs : List (D × D)} : ¬ O a → (a == sysModules) = false → H a = some (dHO P w a ep es) → Rpe H O kvs es → (es.map (·.1)).Nodup → Rp H O (.dict kvs) (.ref a)
  | dik {a : Addr} {es : List (L2.Key × V)} {kvs : List (D × D)} : ¬ O a → H a = some (.dK es) → Rpk H O kvs es → kvs ≠ [] → Rp H O (.dict kvs) (.ref a)
inductive Rps (H : Hp) (O : Addr → Prop) : List D → List V → Prop
  | nil : Rps H O [] []
  | cons {d : D} {v : V} {ds : List D} {vs : List V} : Rp H O d v → Rps H O ds vs → Rps H O (d :: ds) (v :: vs)
inductive Rpe (H : Hp) (O : Addr → Prop) : List (D × D) → List (NestedKey × Addr × V) → Prop
  | nil : Rpe H O [] []
  | cons {k : NestedKey} {b : Addr} {x : D} {v : V} {kvs : List (D × D)} {es : List (NestedKey × Addr × V)} : Rp H O k.data (.ref b) → k.depth ≤ 8 → Rp H O x v → Rpe H O kvs es → Rpe H O ((k.data, x) :: kvs) ((k, b, v) :: es)
inductive Rpk (H : Hp) (O : Addr → Prop) : List (D × D) → List (L2.Key × V) → Prop
  | nil : Rpk H O [] []
  | cons {k : L2.Key} {x : D} {v : V} {kvs : List (D × D)} {es : List (L2.Key × V)} : Rp H O x v → Rpk H O kvs es → Rpk H O ((kD k, x) :: kvs) ((k, v) :: es)
end
/-- .. the thing itself may be lent -/
def RpB (H : Hp) (O : Addr → Prop) : D → V → Prop
  | .list ds, v => ∃ a xs, v = .ref a ∧ Rd H a (.lst xs) ∧ Rps P w H O ds xs
  | .dict kvs, v => (∃ a es, v = .ref a ∧ (a == sysModules) = false ∧ (∃ ep, H a = some (dHO P w a ep es)) ∧ Rpe P w H O kvs es ∧ (es.map (·.1)).Nodup) ∨ ∃ a es, v = .ref a ∧ H a = some (.dK es) ∧ Rpk P w H O kvs es ∧ kvs ≠ []
  | d, v => Rp P w H O d v
/-- an own thing at a -/
def OwnAt (H : Hp) (O : Addr → Prop) (a : Addr) : D → Prop
  | .list ds => ∃ xs, H a = some (.lst xs) ∧ Rps P w H O ds xs
  | .dict kvs => ∃ es, (a == sysModules) = false ∧ (∃ ep, H a = some (dHO P w a ep es)) ∧ Rpe P w H O kvs es ∧ (es.map (·.1)).Nodup
  | _ => False
end

section
variable {P : Program} {w : World} {H H' : Hp} {O O' : Addr → Prop}
theorem rd_keep {a : Addr} {u : HO} (k : ∀ o, H a = some o → H' a = some o) (h : Rd H a u) : Rd H' a u := by
  rcases h with h | ⟨o, h⟩
  · exact .inl (k _ h)
  · exact .inr ⟨o, k _ h⟩
theorem rd_some {a : Addr} {u : HO} (h : Rd H a u) : ∃ o, H a = some o := by
  rcases h with h | ⟨o, h⟩
  · exact ⟨_, h⟩
  · exact ⟨_, h⟩
mutual
/-- everything outside O is kept; O turns into O' where nothing of the datum lies -/
theorem Rp.go (k : ∀ a o, H a = some o → ¬ O a → H' a = some o) (ho : ∀ a o, H a = some o → ¬ O a → ¬ O' a) : ∀ {d : D} {v : V}, Rp P w H O d v → Rp P w H' O' d v
  | _, _, .non => .non
  | _, _, .bl b => .bl b
  | _, _, .int i => .int i
  | _, _, .str x => .str x
  | _, _, .lst n r s => let ⟨o, e⟩ := rd_some r; .lst (ho _ o e n) (rd_keep (fun o e => k _ o e n) r) (Rps.go k ho s)
  | _, _, .tup n e s => .tup (ho _ _ e n) (k _ _ e n) (Rps.go k ho s)
  | _, _, .dic n y e s u => .dic (ho _ _ e n) y (k _ _ e n) (Rpe.go k ho s) u
  | _, _, .dik n e s u => .dik (ho _ _ e n) (k _ _ e n) (Rpk.go k ho s) u
theorem Rps.go (k : ∀ a o, H a = some o → ¬ O a → H' a = some o) (ho : ∀ a o, H a = some o → ¬ O a → ¬ O' a) : ∀ {ds : List D} {vs : List V}, Rps P w H O ds vs → Rps P w H' O' ds vs
  | _, _, .nil => .nil
  | _, _, .cons a b => .cons (Rp.go k ho a) (Rps.go k ho b)
theorem Rpe.go (k : ∀ a o, H a = some o → ¬ O a → H' a = some o) (ho : ∀ a o, H a = some o → ¬ O a → ¬ O' a) : ∀ {kvs : List (D × D)} {es : List (NestedKey × Addr × V)}, Rpe P w H O kvs es → Rpe P w H' O' kvs es
  | _, _, .nil => .nil
  | _, _, .cons a n b c => .cons (Rp.go k ho a) n (Rp.go k ho b) (Rpe.go k ho c)
theorem Rpk.go (k : ∀ a o, H a = some o → ¬ O a → H' a = some o) (ho : ∀ a o, H a = some o → ¬ O a → ¬ O' a) : ∀ {kvs : List (D × D)} {es : List (L2.Key × V)}, Rpk P w H O kvs es → Rpk P w H' O' kvs es
  | _, _, .nil => .nil
  | _, _, .cons b c => .cons (Rp.go k ho b) (Rpk.go k ho c)
end
/-- a dict with tuple keys -/
theorem RpB.dictT {kvs : List (D × D)} {v : V} (h : RpB P w H O (.dict kvs) v) (hk : keysT kvs = true) : ∃ a es, v = .ref a ∧ (a == sysModules) = false ∧ (∃ ep, H a = some (dHO P w a ep es)) ∧ Rpe P w H O kvs es ∧ (es.map (·.1)).Nodup := by
  rcases h with h | ⟨a, es, e, r, q, n⟩
  · exact h
  · cases q with
    | nil => exact absurd rfl n
    | @cons k x v kvs es _ _ =>
      simp only [keysT, List.all_cons, Bool.and_eq_true] at hk
      cases k <;> exact absurd hk.1 (by simp [kD, keyT])
/-- a dict with keys that are numbers or texts -/
theorem RpB.dictI {kvs : List (D × D)} {v : V} (h : RpB P w H O (.dict kvs) v) (hk : keysI kvs = true) : ∃ a es, v = .ref a ∧ H a = some (.dK es) ∧ Rpk P w H O kvs es := by
  rcases h with ⟨a, es, e, y, r, q, n⟩ | ⟨a, es, e, r, q, n⟩
  · cases q with
    | nil => simp [keysI] at hk
    | @cons k b x v kvs es h1 h2 h3 h4 =>
      simp only [keysI, List.all_cons, Bool.and_eq_true] at hk
      cases k <;> first | (cases h1; done) | exact absurd hk.2.1 (by simp [NestedKey.data, keyI])
  · exact ⟨a, es, e, r, q⟩
theorem Rp.same (s : Same H H') {d : D} {v : V} (h : Rp P w H O d v) : Rp P w H' O d v := h.go (fun a o e _ => s a o e) fun _ _ _ n => n
theorem Rps.same (s : Same H H') {d : List D} {v : List V} (h : Rps P w H O d v) : Rps P w H' O d v := h.go (fun a o e _ => s a o e) fun _ _ _ n => n
theorem Rpe.same (s : Same H H') {d : List (D × D)} {v : List (NestedKey × Addr × V)} (h : Rpe P w H O d v) : Rpe P w H' O d v := h.go (fun a o e _ => s a o e) fun _ _ _ n => n
theorem Rp.weak (ho : ∀ a, O' a → O a) {d : D} {v : V} (h : Rp P w H O d v) : Rp P w H O' d v := h.go (fun _ _ e _ => e) fun a _ _ n z => n (ho a z)
theorem Rps.weak (ho : ∀ a, O' a → O a) {d : List D} {v : List V} (h : Rps P w H O d v) : Rps P w H O' d v := h.go (fun _ _ e _ => e) fun a _ _ n z => n (ho a z)
theorem RpB.same (s : Same H H') {d : D} {v : V} (h : RpB P w H O d v) : RpB P w H' O d v := by
  cases d with
  | list ds => obtain ⟨a, xs, e, r, q⟩ := h; exact ⟨a, xs, e, rd_keep (fun o z => s _ o z) r, q.same s⟩
  | dict ds => rcases h with ⟨a, xs, e, y, ⟨ep, r⟩, q, n⟩ | ⟨a, xs, e, r, q, n⟩
               · exact .inl ⟨a, xs, e, y, ⟨ep, s _ _ r⟩, q.same s, n⟩
               · exact .inr ⟨a, xs, e, s _ _ r, q.go (fun a o e _ => s a o e) (fun _ _ _ n => n), n⟩
  | none => exact Rp.same s (show Rp P w H O _ v from h)
  | bool b => exact Rp.same s (show Rp P w H O _ v from h)
  | int b => exact Rp.same s (show Rp P w H O _ v from h)
  | str b => exact Rp.same s (show Rp P w H O _ v from h)
  | tuple b => exact Rp.same s (show Rp P w H O _ v from h)
theorem Rp.b {d : D} {v : V} (h : Rp P w H O d v) : RpB P w H O d v := by
  cases h with
  | non => exact .non
  | bl b => exact .bl b
  | int b => exact .int b
  | str b => exact .str b
  | lst n r s => exact ⟨_, _, rfl, r, s⟩
  | tup n r s => exact .tup n r s
  | dic n y r s u => exact .inl ⟨_, _, rfl, y, ⟨_, r⟩, s, u⟩
  | dik n r s u => exact .inr ⟨_, _, rfl, r, s, u⟩
/-- what is lent, seen with nothing forbidden -/
theorem RpB.free {d : D} {v : V} (h : RpB P w H O d v) (ho : ∀ a, O' a → O a) (hn : ∀ a, v = .ref a → ¬ O' a) : Rp P w H O' d v := by
  cases d with
  | list ds => obtain ⟨a, xs, e, r, q⟩ := h; subst e; exact .lst (hn _ rfl) r (q.weak ho)
  | dict ds => rcases h with ⟨a, xs, e, y, ⟨ep, r⟩, q, n⟩ | ⟨a, xs, e, r, q, n⟩
               · subst e; exact .dic (hn _ rfl) y r (q.go (fun _ _ e _ => e) fun a _ _ n z => n (ho a z)) n
               · subst e; exact .dik (hn _ rfl) r (q.go (fun _ _ e _ => e) fun a _ _ n z => n (ho a z)) n
  | none => exact Rp.weak ho (show Rp P w H O _ v from h)
  | bool b => exact Rp.weak ho (show Rp P w H O _ v from h)
  | int b => exact Rp.weak ho (show Rp P w H O _ v from h)
  | str b => exact Rp.weak ho (show Rp P w H O _ v from h)
  | tuple b => exact Rp.weak ho (show Rp P w H O _ v from h)
theorem OwnAt.b {a : Addr} {d : D} (h : OwnAt P w H O a d) : RpB P w H O d (.ref a) := by
  cases d with
  | list ds => obtain ⟨xs, e, q⟩ := h; exact ⟨a, xs, rfl, .inl e, q⟩
  | dict ds => obtain ⟨es, y, e, q, n⟩ := h; exact .inl ⟨a, es, rfl, y, e, q, n⟩
  | none => exact h.elim
  | bool b => exact h.elim
  | int b => exact h.elim
  | str b => exact h.elim
  | tuple b => exact h.elim
theorem OwnAt.ex {a : Addr} {d : D} (h : OwnAt P w H O a d) : ∃ o, H a = some o := by
  cases d with
  | list ds => obtain ⟨xs, e, q⟩ := h; exact ⟨_, e⟩
  | dict ds => obtain ⟨es, y, ⟨ep, e⟩, q, n⟩ := h; exact ⟨_, e⟩
  | none => exact h.elim
  | bool b => exact h.elim
  | int b => exact h.elim
  | str b => exact h.elim
  | tuple b => exact h.elim
theorem OwnAt.go {a : Addr} {d : D} (h : OwnAt P w H O a d) (ka : ∀ o, H a = some o → H' a = some o) (k : ∀ a o, H a = some o → ¬ O a → H' a = some o) (ho : ∀ a o, H a = some o → ¬ O a → ¬ O' a) : OwnAt P w H' O' a d := by
  cases d with
  | list ds => obtain ⟨xs, e, q⟩ := h; exact ⟨xs, ka _ e, q.go k ho⟩
  | dict ds => obtain ⟨es, y, ⟨ep, e⟩, q, n⟩ := h; exact ⟨es, y, ⟨ep, ka _ e⟩, q.go k ho, n⟩
  | none => exact h.elim
  | bool b => exact h.elim
  | int b => exact h.elim
  | str b => exact h.elim
  | tuple b => exact h.elim
theorem Rps.length : ∀ {ds : List D} {vs : List V}, Rps P w H O ds vs → ds.length = vs.length
  | _, _, .nil => rfl
  | _, _, .cons _ t => by simp [Rps.length t]
theorem Rps.get : ∀ {ds : List D} {vs : List V} {i : Nat} {d : D}, Rps P w H O ds vs → ds[i]? = some d → ∃ v, vs[i]? = some v ∧ Rp P w H O d v
  | _, _, _, _, .nil, e => by simp at e
  | _, _, 0, _, .cons r _, e => by simp at e; subst e; exact ⟨_, rfl, r⟩
  | _, _, i + 1, d, .cons _ t, e => by
    obtain ⟨v, h1, h2⟩ := Rps.get (i := i) (d := d) t (by simpa using e)
    exact ⟨v, by simpa using h1, h2⟩
theorem Rps.getV : ∀ {ds : List D} {vs : List V} {i : Nat} {v : V}, Rps P w H O ds vs → vs[i]? = some v → ∃ d, ds[i]? = some d ∧ Rp P w H O d v
  | _, _, _, _, .nil, e => by simp at e
  | _, _, 0, _, .cons r _, e => by simp at e; subst e; exact ⟨_, rfl, r⟩
  | _, _, i + 1, d, .cons _ t, e => by
    obtain ⟨v, h1, h2⟩ := Rps.getV (i := i) (v := d) t (by simpa using e)
    exact ⟨v, by simpa using h1, h2⟩
theorem Rps.append : ∀ {ds es : List D} {vs us : List V}, Rps P w H O ds vs → Rps P w H O es us → Rps P w H O (ds ++ es) (vs ++ us)
  | _, _, _, _, .nil, s => s
  | _, _, _, _, .cons r t, s => .cons r (Rps.append t s)
theorem Rps.take : ∀ {ds : List D} {vs : List V} (n : Nat), Rps P w H O ds vs → Rps P w H O (ds.take n) (vs.take n)
  | _, _, 0, _ => .nil
  | _, _, _ + 1, .nil => .nil
  | _, _, n + 1, .cons r t => .cons r (Rps.take n t)
theorem Rps.drop : ∀ {ds : List D} {vs : List V} (n : Nat), Rps P w H O ds vs → Rps P w H O (ds.drop n) (vs.drop n)
  | _, _, 0, r => r
  | _, _, _ + 1, .nil => .nil
  | _, _, n + 1, .cons _ t => Rps.drop n t
theorem Rps.dropLast {ds : List D} {vs : List V} (h : Rps P w H O ds vs) : Rps P w H O ds.dropLast vs.dropLast := by
  have e := h.length
  rw [List.dropLast_eq_take, List.dropLast_eq_take, e]
  exact h.take _
mutual
/-- the library's own relation -/
theorem Rp.dp {K : PySem.W.Frag} : ∀ {d : D} {v : V}, d.plain = true → Rp P w H O d v → Dp K H v d
  | _, _, _, .non => .non
  | _, _, _, .bl b => .bl b
  | _, _, _, .int i => .int i
  | _, _, _, .str x => .str x
  | _, _, h, .lst n r s => .lst (.inl r) (Rps.dp (by simpa [PyData.plain] using h) s)
  | _, _, h, .tup n e s => .tup (.inl (.inl e)) (Rps.dp (by simpa [PyData.plain] using h) s)
  | _, _, h, .dic n y e s u => by simp [PyData.plain] at h
  | _, _, h, .dik n e s u => by simp [PyData.plain] at h
theorem Rps.dp {K : PySem.W.Frag} : ∀ {ds : List D} {vs : List V}, PyData.plainAll ds = true → Rps P w H O ds vs → DpAll K H vs ds
  | _, _, _, .nil => .nil
  | _, _, h, .cons a b => by
    simp only [PyData.plainAll, Bool.and_eq_true] at h
    exact .cons (Rp.dp h.1 a) (Rps.dp h.2 b)
end
theorem RpB.dp {K : PySem.W.Frag} {d : D} {v : V} (h : d.plain = true) (r : RpB P w H O d v) : Dp K H v d := by
  cases d with
  | list ds => obtain ⟨a, xs, e, r, q⟩ := r; subst e; exact .lst (.inl r) (q.dp (by simpa [PyData.plain] using h))
  | dict ds => simp [PyData.plain] at h
  | none => exact Rp.dp h (show Rp P w H O _ v from r)
  | bool b => exact Rp.dp h (show Rp P w H O _ v from r)
  | int b => exact Rp.dp h (show Rp P w H O _ v from r)
  | str b => exact Rp.dp h (show Rp P w H O _ v from r)
  | tuple b => exact Rp.dp h (show Rp P w H O _ v from r)
mutual
/-- pure data lie in no O of lists -/
theorem pur_plain : ∀ d : D, pur d = true → d.plain = true
  | .none, _ => rfl
  | .bool _, _ => rfl
  | .int _, _ => rfl
  | .str _, _ => rfl
  | .tuple xs, h => by simp only [PyData.plain]; exact purAll_plain xs (by simpa [pur] using h)
  | .list _, h => by simp [pur] at h
  | .dict _, h => by simp [pur] at h
theorem purAll_plain : ∀ ds : List D, purAll ds = true → PyData.plainAll ds = true
  | [], _ => rfl
  | d :: ds, h => by
    simp only [purAll, Bool.and_eq_true] at h
    simp only [PyData.plainAll, Bool.and_eq_true]
    exact ⟨pur_plain d h.1, purAll_plain ds h.2⟩
end
mutual
theorem Rp.pure (ht : ∀ a xs, H a = some (.tup xs) → ¬ O' a) : ∀ {d : D} {v : V}, pur d = true → Rp P w H O d v → Rp P w H O' d v
  | _, _, _, .non => .non
  | _, _, _, .bl b => .bl b
  | _, _, _, .int i => .int i
  | _, _, _, .str x => .str x
  | _, _, h, .lst n r s => by simp [pur] at h
  | _, _, h, .tup n e s => .tup (ht _ _ e) e (Rps.pure ht (by simpa [pur] using h) s)
  | _, _, h, .dic n y e s u => by simp [pur] at h
  | _, _, h, .dik n e s u => by simp [pur] at h
theorem Rps.pure (ht : ∀ a xs, H a = some (.tup xs) → ¬ O' a) : ∀ {ds : List D} {vs : List V}, purAll ds = true → Rps P w H O ds vs → Rps P w H O' ds vs
  | _, _, _, .nil => .nil
  | _, _, h, .cons a b => by
    simp only [purAll, Bool.and_eq_true] at h
    exact .cons (Rp.pure ht h.1 a) (Rps.pure ht h.2 b)
end
end

/-! ### environments -/
/-- the addresses of own names -/
def OwnA (ρ : Env) (σ : L2.St) (a : Addr) : Prop := ∃ (i : Nat) (d : D), ρ[i]? = some (some (true, d)) ∧ σ[i]? = some (some (V.ref a))
/-- what is not to be part of shared data: the callers' own things, and one's own -/
def Ow (Of : Addr → Prop) (ρ : Env) (σ : L2.St) (a : Addr) : Prop := Of a ∨ OwnA ρ σ a

structure EnvOk (P : Program) (w : World) (Of : Addr → Prop) (ρ : Env) (σ : L2.St) (H : Hp) : Prop where
  len : σ.length = ρ.length
  live : ∀ a, Of a → ∃ o, H a = some o ∧ ∀ xs, o ≠ .tup xs
  im : ∀ (i : Nat) (d : D), ρ[i]? = some (some (false, d)) → ∃ v, σ[i]? = some (some v) ∧ Rp P w H (Ow Of ρ σ) d v
  ow : ∀ (i : Nat) (d : D), ρ[i]? = some (some (true, d)) → ∃ a, σ[i]? = some (some (.ref a)) ∧ ¬ Of a ∧ OwnAt P w H (Ow Of ρ σ) a d
  apart : ∀ (i j : Nat) (d d' : D) (a : Addr), i ≠ j → ρ[i]? = some (some (true, d)) → ρ[j]? = some (some (true, d')) → σ[i]? = some (some (.ref a)) → σ[j]? = some (some (.ref a)) → False

section
variable {P : Program} {w : World} {Of : Addr → Prop} {ρ : Env} {σ : L2.St} {H H' : Hp}
theorem EnvOk.alive (E : EnvOk P w Of ρ σ H) {a : Addr} (h : Ow Of ρ σ a) : ∃ o, H a = some o := by
  rcases h with h | ⟨i, d, h1, h2⟩
  · obtain ⟨o, e, _⟩ := E.live a h
    exact ⟨o, e⟩
  · obtain ⟨b, e, _, q⟩ := E.ow i d h1
    rw [h2] at e
    cases e
    exact q.ex
theorem EnvOk.fresh (E : EnvOk P w Of ρ σ H) {a : Addr} (h : H a = none) : ¬ Ow Of ρ σ a := fun z => by
  obtain ⟨o, e⟩ := E.alive z
  rw [h] at e
  cases e
theorem OwnAt.ntup {O : Addr → Prop} {a : Addr} {d : D} (h : OwnAt P w H O a d) {xs : List V} (e : H a = some (.tup xs)) : False := by
  cases d with
  | list ds => obtain ⟨ys, q, _⟩ := h; rw [e] at q; cases q
  | dict ds => obtain ⟨es, y, ⟨ep, q⟩, _⟩ := h; rw [e] at q; cases q
  | none => exact h.elim
  | bool b => exact h.elim
  | int b => exact h.elim
  | str b => exact h.elim
  | tuple b => exact h.elim
/-- a tuple's address is nobody's own -/
theorem EnvOk.tups (E : EnvOk P w Of ρ σ H) : ∀ a xs, H a = some (.tup xs) → ¬ Ow Of ρ σ a := fun a xs e z => by
  rcases z with z | ⟨i, d, h1, h2⟩
  · obtain ⟨o, q, n⟩ := E.live a z
    rw [e] at q
    exact n xs (Option.some.inj q).symm
  · obtain ⟨b, q, _, r⟩ := E.ow i d h1
    rw [h2] at q
    cases q
    exact r.ntup e
theorem EnvOk.same (E : EnvOk P w Of ρ σ H) (s : Same H H') : EnvOk P w Of ρ σ H' :=
  ⟨E.len, fun a h => let ⟨o, e, n⟩ := E.live a h; ⟨o, s _ _ e, n⟩, fun i d h => let ⟨v, e, r⟩ := E.im i d h; ⟨v, e, r.same s⟩,
    fun i d h => let ⟨a, e, n, r⟩ := E.ow i d h; ⟨a, e, n, r.go (fun o z => s _ o z) (fun a o z _ => s a o z) fun _ _ _ n => n⟩, E.apart⟩
end

theorem same_new {H : Hp} {p : Addr} {o : HO} (h : H p = none) : Same H (upd H p o) := fun b u e => by
  rw [upd_ne (ne_of_none e h)]
  exact e
/-! ### what an expression gives -/
/-- from H, with O forbidden, a value v in H' for the result r -/
theorem Rp.alive {P : Program} {w : World} {H : Hp} {O : Addr → Prop} {d : D} {a : Addr} (h : Rp P w H O d (.ref a)) : ∃ o, H a = some o := by
  cases h with
  | lst n r s => exact rd_some r
  | tup n e s => exact ⟨_, e⟩
  | dic n y e s u => exact ⟨_, e⟩
  | dik n e s u => exact ⟨_, e⟩
def Post (P : Program) (w : World) (H : Hp) (O : Addr → Prop) (H' : Hp) (v : V) (r : Tag × D) : Prop :=
  RpB P w H' O r.2 v ∧ (r.1 ≠ .ow → Rp P w H' O r.2 v) ∧ (r.1 = .fr → ∃ a, v = .ref a ∧ H a = none ∧ OwnAt P w H' (fun b => O b ∨ b = a) a r.2)
theorem Post.im {P : Program} {w : World} {H H' : Hp} {O : Addr → Prop} {v : V} {d : D} (h : Rp P w H' O d v) : Post P w H O H' v (.im, d) := ⟨h.b, fun _ => h, fun e => by cases e⟩
theorem Post.new {P : Program} {w : World} {H H' : Hp} {O : Addr → Prop} {a : Addr} {d : D} (h : Rp P w H' O d (.ref a)) (n : H a = none) (st : OwnAt P w H' (fun b => O b ∨ b = a) a d) : Post P w H O H' (.ref a) (.fr, d) := ⟨h.b, fun _ => h, fun _ => ⟨a, rfl, n, st⟩⟩
theorem Post.newL {P : Program} {w : World} {H H1 : Hp} {O : Addr → Prop} {p : Addr} {ds : List D} {vs : List V} (q : Rps P w H1 O ds vs) (hp : H1 p = none) (hO : ¬ O p) (s : Same H H1) : Post P w H O (upd H1 p (.lst vs)) (.ref p) (.fr, .list ds) :=
  .new (.lst hO (.inl upd_same) (q.same (same_new hp))) (s.free hp) ⟨vs, upd_same, q.go (fun a o e _ => same_new hp a o e) fun a o e n z => z.elim n fun z => by rw [z, hp] at e; cases e⟩
theorem Post.from {P : Program} {w : World} {H H1 H' : Hp} {O : Addr → Prop} {v : V} {r : Tag × D} (s : Same H H1) (h : Post P w H1 O H' v r) : Post P w H O H' v r :=
  ⟨h.1, h.2.1, fun e => let ⟨a, q, n, st⟩ := h.2.2 e; ⟨a, q, s.free n, st⟩⟩

abbrev FT := Nat → List D → Option (Bool × D)
/-- the reading of an expression's IR -/
def tI (P : Program) (w : World) (F : FT) (e : Ex) : TE := fun σ H Q => ∃ Of ρ r, EnvOk P w Of ρ σ H ∧ ev F e ρ = some r ∧ ∀ v H', Same H H' → Post P w H (Ow Of ρ σ) H' v r → Q v H'
/-- .. of a test -/
def tT (P : Program) (w : World) (F : FT) (e : Ex) : TT := fun σ H Q => ∃ Of ρ b, EnvOk P w Of ρ σ H ∧ boolOf (ev F e ρ) = some b ∧ ∀ H', Same H H' → Q b H'
/-- the reading of arguments: lent -/
def tL (P : Program) (w : World) (F : FT) (es : List Ex) : TA := fun σ H Q => ∃ Of ρ rs, EnvOk P w Of ρ σ H ∧ evL F es ρ = some rs ∧
  ∀ vs H', Same H H' → Paired (fun r v => Post P w H (Ow Of ρ σ) H' v r) rs vs → Q vs H'
/-- .. kept -/
def tK (P : Program) (w : World) (F : FT) (es : List Ex) : TA := fun σ H Q => ∃ Of ρ ds, EnvOk P w Of ρ σ H ∧ evK F es ρ = some ds ∧
  ∀ vs H', Same H H' → Rps P w H' (Ow Of ρ σ) ds vs → Q vs H'

theorem _root_.L2.PE.of {X : Cx} {e : Expr} {t t' : TE} (h : PE X e t) (k : ∀ σ H Q, t' σ H Q → t σ H Q) : PE X e t' := ⟨fun pins s σ H Q I q => h.run pins s σ H Q I (k σ H Q q)⟩
theorem _root_.L2.PT.of {X : Cx} {e : Expr} {t t' : TT} (h : PT X e t) (k : ∀ σ H Q, t' σ H Q → t σ H Q) : PT X e t' := ⟨fun pins s σ H Q I q => h.run pins s σ H Q I (k σ H Q q)⟩
theorem _root_.L2.PA.of {X : Cx} {e : List Expr} {t t' : TA} (h : PA X e t) (k : ∀ σ H Q, t' σ H Q → t σ H Q) : PA X e t' := ⟨fun pos pins s σ H Q I q => h.run pos pins s σ H Q I (k σ H Q q)⟩
theorem _root_.L2.PS.of {X : Cx} {e : Stmt} {t t' : TS} (h : PS X e t) (k : ∀ D σ H, t' D σ H → t D σ H) : PS X e t' := ⟨fun pins s σ H D I q => h.run pins s σ H D I (k D σ H q)⟩
theorem _root_.L2.PSs.of {X : Cx} {e : List Stmt} {t t' : TS} (h : PSs X e t) (k : ∀ D σ H, t' D σ H → t D σ H) : PSs X e t' := ⟨fun pins s σ H D I q => h.run pins s σ H D I (k D σ H q)⟩
end Rk

/-! Operators over data. -/
set_option autoImplicit false
set_option linter.all false
set_option maxRecDepth 100000
namespace Rk
open PySem PySem.Spec PyProof.Rows L2

/-! ### keys -/
mutual
def nk : D → NestedKey
  | .none => .none
  | .bool b => .num (if b then 1 else 0)
  | .int i => .num i
  | .str x => .text x
  | .tuple xs => .tup (nks xs)
  | .list _ => .none
  | .dict _ => .none
def nks : List D → List NestedKey
  | [] => []
  | x :: xs => nk x :: nks xs
end
mutual
theorem nk_data : ∀ d : D, keyIn d = true → (nk d).data = d
  | .none, h => by simp [keyIn] at h
  | .bool _, h => by simp [keyIn] at h
  | .int _, _ => rfl
  | .str _, _ => rfl
  | .tuple xs, h => by
    simp only [nk, NestedKey.data]
    rw [nks_data xs (by simpa [keyIn] using h)]
  | .list _, h => by simp [keyIn] at h
  | .dict _, h => by simp [keyIn] at h
theorem nks_data : ∀ ds : List D, keyInAll ds = true → NestedKey.datas (nks ds) = ds
  | [], _ => rfl
  | d :: ds, h => by
    simp only [keyInAll, Bool.and_eq_true] at h
    simp only [nks, NestedKey.datas]
    rw [nk_data d h.1, nks_data ds h.2]
end
mutual
theorem data_plain : ∀ k : NestedKey, k.data.plain = true
  | .none => rfl
  | .num _ => rfl
  | .text _ => rfl
  | .tup ks => by simp only [NestedKey.data, PyData.plain]; exact datas_plain ks
theorem datas_plain : ∀ ks : List NestedKey, PyData.plainAll (NestedKey.datas ks) = true
  | [] => rfl
  | k :: ks => by simp only [NestedKey.datas, PyData.plainAll, data_plain k, datas_plain ks, Bool.and_self]
end
mutual
theorem data_depth : ∀ k : NestedKey, k.data.depth = k.depth
  | .none => rfl
  | .num _ => rfl
  | .text _ => rfl
  | .tup ks => by simp only [NestedKey.data, PyData.depth, NestedKey.depth, datas_depth ks]
theorem datas_depth : ∀ ks : List NestedKey, PyData.depthAll (NestedKey.datas ks) = NestedKey.depthAll ks
  | [] => rfl
  | k :: ks => by simp only [NestedKey.datas, PyData.depthAll, NestedKey.depthAll, data_depth k, datas_depth ks]
end
mutual
theorem data_eqv : ∀ a b : NestedKey, PyData.eqv a.data b.data = NestedKey.beq a b
  | .none, b => by cases b <;> simp [NestedKey.data, PyData.eqv, NestedKey.beq]
  | .num i, b => by
    cases b <;> simp [NestedKey.data, PyData.eqv, NestedKey.beq]
    rw [Bool.eq_iff_iff]; simp
  | .text x, b => by
    cases b <;> simp [NestedKey.data, PyData.eqv, NestedKey.beq]
    rw [Bool.eq_iff_iff]; simp
  | .tup ks, b => by
    cases b with
    | tup ls => simp only [NestedKey.data, PyData.eqv, NestedKey.beq]; exact datas_eqv ks ls
    | _ => simp [NestedKey.data, PyData.eqv, NestedKey.beq]
theorem datas_eqv : ∀ a b : List NestedKey, PyData.eqvAll (NestedKey.datas a) (NestedKey.datas b) = NestedKey.beqAll a b
  | [], [] => rfl
  | [], _ :: _ => rfl
  | _ :: _, [] => rfl
  | a :: as, b :: bs => by simp only [NestedKey.datas, PyData.eqvAll, NestedKey.beqAll, data_eqv a b, datas_eqv as bs]
end
mutual
theorem nested_of {h : Heap} : ∀ (k : NestedKey) (u : Value) (as : List Addr), Reads h u k.data as → NestedIs h k u
  | .none, _, _, r => by cases r; exact .none
  | .num i, _, _, r => by cases r; exact .int _ _
  | .text x, _, _, r => by cases r; exact .text _ _
  | .tup ks, _, _, r => by
    simp only [NestedKey.data] at r
    cases r with
    | tuple h1 h2 h3 h4 => exact .tup h1 h2 h3 (nestedAll_of ks _ _ h4)
theorem nestedAll_of {h : Heap} : ∀ (ks : List NestedKey) (us : List Value) (as : List Addr), ReadsAll h us (NestedKey.datas ks) as → NestedAll h ks us
  | [], _, _, r => by cases r; exact .nil
  | k :: ks, _, _, r => by
    simp only [NestedKey.datas] at r
    cases r with
    | cons h1 h2 => exact .cons (nested_of k _ _ h1) (nestedAll_of ks _ _ h2)
end
theorem keyT_tup {d : D} (h : keyT d = true) : ∃ ks, d = (NestedKey.tup ks).data ∧ (NestedKey.tup ks).depth ≤ 8 := by
  cases d with
  | tuple xs =>
    simp only [keyT, Bool.and_eq_true, decide_eq_true_eq] at h
    have e : (nk (.tuple xs)).data = .tuple xs := nk_data _ (by simpa [keyIn] using h.1)
    refine ⟨nks xs, by rw [← e]; rfl, ?_⟩
    rw [← data_depth]
    have e2 : (NestedKey.tup (nks xs)).data = .tuple xs := e
    rw [e2]
    exact h.2
  | _ => simp [keyT] at h

section
variable {X : Cx} {pins : List (Addr × Obj)} {σ : L2.St} {H : Hp} {s : Shared} {O : Addr → Prop}
theorem RpB.reads (I : Inv X pins σ H s) {d : D} {v : V} {u : Value} (h : d.plain = true) (r : RpB X.prog X.w H O d v) (q : RelV v u) : ∃ as, Reads s.heap u d as :=
  Dp.reads I d v u (r.dp h) q
theorem Rp.reads (I : Inv X pins σ H s) {d : D} {v : V} {u : Value} (h : d.plain = true) (r : Rp X.prog X.w H O d v) (q : RelV v u) : ∃ as, Reads s.heap u d as :=
  Dp.reads I d v u (r.dp h) q
theorem Rps.reads (I : Inv X pins σ H s) {ds : List D} {vs : List V} {us : List Value} (h : PyData.plainAll ds = true) (r : Rps X.prog X.w H O ds vs) (q : Vals vs us) : ∃ as, ReadsAll s.heap us ds as :=
  Dp.readsAll I ds vs us (r.dp h) q
/-- a key's value -/
theorem Rp.key (I : Inv X pins σ H s) {k : NestedKey} {a : Addr} (r : Rp X.prog X.w H O k.data (.ref a)) (hk : k.depth ≤ 8) : (nestedKind X.prog X.w).is s.heap k a := by
  obtain ⟨as, q⟩ := Rp.reads I (data_plain k) r rfl
  exact ⟨nested_of k _ _ q, hk⟩

/-- the pairs of a dict's entries -/
theorem Rpe.keys (I : Inv X pins σ H s) : ∀ {kvs : List (D × D)} {es : List (NestedKey × Addr × V)} {xs : List (NestedKey × Addr × Value)}, Rpe X.prog X.w H O kvs es →
    Paired (fun (e : NestedKey × Addr × V) (x : NestedKey × Addr × Value) => e.1 = x.1 ∧ e.2.1 = x.2.1 ∧ RelV e.2.2 x.2.2) es xs → ∀ x ∈ xs, (nestedKind X.prog X.w).is s.heap x.1 x.2.1
  | _, _, _, .nil, .nil => fun _ h => nomatch h
  | _, _, _, .cons a n b t, .cons h q => fun x hx => by
    rcases List.mem_cons.mp hx with e | hx
    · subst e
      obtain ⟨h1, h2, _⟩ := h
      have := Rp.key I a n
      rw [← h1, ← h2]
      exact this
    · exact Rpe.keys I t q x hx
theorem paired_keys : ∀ {es : List (NestedKey × Addr × V)} {xs : List (NestedKey × Addr × Value)},
    Paired (fun (e : NestedKey × Addr × V) (x : NestedKey × Addr × Value) => e.1 = x.1 ∧ e.2.1 = x.2.1 ∧ RelV e.2.2 x.2.2) es xs → es.map (·.1) = xs.map (·.1)
  | _, _, .nil => rfl
  | _, _, .cons h q => by rw [List.map_cons, List.map_cons, h.1, paired_keys q]
theorem Inv.dictOf (I : Inv X pins σ H s) {a : Addr} {es : List (NestedKey × Addr × V)} {kvs : List (D × D)} (h : ∃ ep, H a = some (dHO X.prog X.w a ep es)) (r : Rpe X.prog X.w H O kvs es) (n : (es.map (·.1)).Nodup) :
    ∃ xs, s.heap.DictOfH (nestedKind X.prog X.w) a xs ∧ Paired (fun (e : NestedKey × Addr × V) (x : NestedKey × Addr × Value) => e.1 = x.1 ∧ e.2.1 = x.2.1 ∧ RelV e.2.2 x.2.2) es xs := by
  obtain ⟨ep, h⟩ := h
  obtain ⟨⟨o, ents, xs, h1, h2, h3, h4, h5⟩, _, _⟩ := (show ObjOk X.prog X.w H s.heap a (dHO X.prog X.w a ep es) from I.hok a _ h)
  exact ⟨xs, ⟨o, ents, ep, h1, h2, h3, h4, r.keys I h5, by rw [← paired_keys h5]; exact n⟩, h5⟩
/-- looking a key up -/
theorem Rpe.look : ∀ {kvs : List (D × D)} {es : List (NestedKey × Addr × V)} {xs : List (NestedKey × Addr × Value)} (k : NestedKey), Rpe X.prog X.w H O kvs es →
    Paired (fun (e : NestedKey × Addr × V) (x : NestedKey × Addr × Value) => e.1 = x.1 ∧ e.2.1 = x.2.1 ∧ RelV e.2.2 x.2.2) es xs →
    match dget kvs k.data with
    | none => valueAt (pairsH xs) k = none
    | some d => ∃ u v, valueAt (pairsH xs) k = some u ∧ RelV v u ∧ Rp X.prog X.w H O d v
  | _, _, _, k, .nil, .nil => rfl
  | _, _, _, k, .cons (k := k1) (x := x) a n b t, .cons (b := q) h z => by
    obtain ⟨h1, h2, h3⟩ := h
    simp only [dget]
    rw [data_eqv, ← NestedKey.decide_eq]
    by_cases e : k1 = k
    · subst e
      simp only [decide_true, if_true]
      refine ⟨q.2.2, _, ?_, h3, b⟩
      have h1' : q.1 = k1 := h1.symm
      simp [pairsH, valueAt, h1']
    · simp only [e, decide_false, Bool.false_eq_true, if_false]
      have ih := Rpe.look (xs := _) k t z
      have h1' : q.1 = k1 := h1.symm
      have e2 : ¬ q.1 = k := by rw [h1']; exact e
      cases hd : dget _ k.data with
      | none =>
        rw [hd] at ih
        simp only at ih ⊢
        rw [pairsH, List.map_cons]
        simpa [valueAt, e2, pairsH] using ih
      | some d =>
        rw [hd] at ih
        obtain ⟨u, v, i1, i2, i3⟩ := ih
        refine ⟨u, v, ?_, i2, i3⟩
        rw [pairsH, List.map_cons]
        simpa [valueAt, e2, pairsH] using i1
end
/-- a key that is a number or a text -/
theorem keyI_at {P : Program} {w : World} {H : Hp} {O : Addr → Prop} {d : D} {v : V} (h : keyI d = true) (r : RpB P w H O d v) : ∃ k, d = kD k ∧ v = kV k := by
  cases d with
  | int i => cases (show Rp P w H O (.int i) v from r); exact ⟨.inl i, rfl, rfl⟩
  | str i => cases (show Rp P w H O (.str i) v from r); exact ⟨.inr i, rfl, rfl⟩
  | _ => simp [keyI] at h
theorem eqv_kD (a b : L2.Key) : PyData.eqv (kD a) (kD b) = decide (a = b) := by
  cases a with
  | inl i => cases b with
    | inl j => simp only [kD, PyData.eqv, Sum.inl.injEq]; by_cases e : i = j <;> simp [e]
    | inr j => simp [kD, PyData.eqv]
  | inr i => cases b with
    | inl j => simp [kD, PyData.eqv]
    | inr j => simp only [kD, PyData.eqv, Sum.inr.injEq]; by_cases e : i = j <;> simp [e]
theorem Rpk.look {P : Program} {w : World} {H : Hp} {O : Addr → Prop} (k : L2.Key) : ∀ {kvs : List (D × D)} {es : List (L2.Key × V)}, Rpk P w H O kvs es → match dget kvs (kD k) with
    | none => valV es k = none
    | some d => ∃ v, valV es k = some v ∧ Rp P w H O d v
  | _, _, .nil => rfl
  | _, _, .cons (k := k') h t => by
    have ih := Rpk.look k t
    have ed : ∀ x : D, ∀ r : List (D × D), dget ((kD k', x) :: r) (kD k) = if k' = k then some x else dget r (kD k) := fun x r => by
      simp only [dget, eqv_kD, decide_eq_true_eq]
    rw [ed]
    by_cases e : k' = k
    · rw [if_pos e]
      exact ⟨_, valV_pos e, h⟩
    · rw [if_neg e, valV_neg (by exact e)]
      exact ih
theorem Rpk.some {P : Program} {w : World} {H : Hp} {O : Addr → Prop} {k : L2.Key} {kvs : List (D × D)} {es : List (L2.Key × V)} (r : Rpk P w H O kvs es) : (valV es k).isSome = (dget kvs (kD k)).isSome := by
  have h := r.look k
  cases e : dget kvs (kD k) with
  | none => rw [e] at h; simp only at h; rw [h]; rfl
  | some d => rw [e] at h; obtain ⟨v, h1, _⟩ := h; rw [h1]; rfl
end Rk

/-! Operators over data: binary, comparisons. -/
set_option autoImplicit false
set_option linter.all false
set_option maxRecDepth 100000
namespace Rk
open PySem PySem.Spec PyProof.Rows L2

/-- a two-place operation by data -/
def rB (P : Program) (w : World) (g : D → D → Option (Tag × D)) : R2 := fun x y H Q => ∃ O a b r, (∀ p, H p = none → ¬ O p) ∧ RpB P w H O a x ∧ RpB P w H O b y ∧ g a b = some r ∧
  ∀ v H', Same H H' → Post P w H O H' v r → Q v H'
def rC (P : Program) (w : World) (g : D → D → Option Bool) : R2 := fun x y H Q => ∃ O a b r, RpB P w H O a x ∧ RpB P w H O b y ∧ g a b = some r ∧ Q (.bl r) H
theorem fits_le {n : Nat} (h : fitsN n = true) : n < sizeLine := by
  simp only [fitsN, decide_eq_true_eq] at h
  rw [sizeLine_eq]
  omega

section
variable {X : Cx}
theorem Inv.catL {pins : List (Addr × Obj)} {σ : L2.St} {H : Hp} {s : Shared} {Q : VK} {a b : Addr} {xs ys : List V} (I : Inv X pins σ H s) (ha : Rd H a (.lst xs)) (hb : Rd H b (.lst ys)) (hz : xs.length + ys.length ≤ sizeLine)
    (q : ∀ p, H p = none → Q (.ref p) (upd H p (.lst (xs ++ ys)))) : wpAny (model X.prog X.w) X.A (binaryOp .Add (.ref a) (.ref b)) (EP X pins σ Q) X.xe s := by
  obtain ⟨_, its, n, r, ho⟩ := ha.ok I.hok
  obtain ⟨_, its2, n2, r2, ho2⟩ := hb.ok I.hok
  have l1 := r.length
  have l2 := r2.length
  refine PySem.P.add_list (items := its.toArray) (items2 := its2.toArray) (n := n) (n2 := n2) ho ho2 ?_ (by rw [List.size_toArray, List.size_toArray]; omega)
  have ea : its.toArray ++ its2.toArray = (its ++ its2).toArray := by simp
  rw [ea]
  exact ⟨.ref _, _, I.lnew (t' := s.toks) (r.append r2) (by rw [List.length_append]; omega), rfl, q _ I.fresh⟩
theorem op_addD : OpR X (binaryOp .Add) (rB X.prog X.w (binD .add)) := by
  intro pins s σ H x y v u Q I rx ry h
  obtain ⟨O, a, b, r, hO, ha, hb, hg, k⟩ := h
  cases a with
  | int i =>
    cases b with
    | int j =>
      cases ha; cases hb
      simp only [binD, Option.some.injEq] at hg
      subst hg
      exact op_add pins s σ H _ _ v u Q I rx ry ⟨i, j, rfl, rfl, k _ _ (Same.refl H) (.im (.int _))⟩
    | _ => simp [binD] at hg
  | str i =>
    cases b with
    | str j =>
      cases ha; cases hb
      simp only [binD] at hg
      split at hg
      · rename_i hf
        cases hg
        exact op_add_str pins s σ H _ _ v u Q I rx ry ⟨i, j, rfl, rfl, Nat.le_of_lt (fits_le hf), k _ _ (Same.refl H) (.im (.str _))⟩
      · cases hg
    | _ => simp [binD] at hg
  | tuple xs =>
    cases b with
    | tuple ys =>
      cases ha with
      | @tup pa va _ na ea sa =>
        cases hb with
        | @tup pb vb _ nb eb sb =>
          simp only [binD] at hg
          split at hg
          · rename_i hf
            cases hg
            have l1 := sa.length
            have l2 := sb.length
            refine op_catA pins s σ H _ _ v u Q I rx ry ⟨_, _, va, vb, rfl, rfl, SqT.of ea, SqT.of eb, ?_, fun e => ?_, fun e0 e => ?_, fun e0 e p hp => ?_⟩
            · rw [← l1, ← l2]
              exact Nat.le_of_lt (fits_le hf)
            · subst e
              have : xs = [] := List.length_eq_zero_iff.mp l1
              subst this
              exact k _ _ (Same.refl H) (.im (.tup nb eb sb))
            · subst e
              have : ys = [] := List.length_eq_zero_iff.mp l2
              subst this
              rw [List.append_nil] at k
              exact k _ _ (Same.refl H) (.im (.tup na ea sa))
            · exact k _ _ (same_new hp) (.im (.tup (hO p hp) upd_same ((sa.append sb).same (same_new hp))))
          · cases hg
    | _ => simp [binD] at hg
  | list xs =>
    cases b with
    | list ys =>
      obtain ⟨pa, va, e1, ea, sa⟩ := ha
      obtain ⟨pb, vb, e2, eb, sb⟩ := hb
      subst e1 e2
      simp only [binD] at hg
      split at hg
      · rename_i hf
        cases hg
        have l1 := sa.length
        have l2 := sb.length
        cases rx; cases ry
        refine Inv.catL I ea eb (by rw [← l1, ← l2]; exact Nat.le_of_lt (fits_le hf)) fun p hp => ?_
        exact k _ _ (same_new hp) (.newL (sa.append sb) hp (hO p hp) (Same.refl _))
      · cases hg
    | _ => simp [binD] at hg
  | _ => simp [binD] at hg
/-- ints alone -/
theorem op_intD {op : Operator} {bop : Bop} {C : Int → Int → Prop} {f : Int → Int → Int} (ho : OpR X (binaryOp op) (rI C fun i j => .int (f i j)))
    (hb : ∀ a b r, binD bop a b = some r → ∃ i j, a = .int i ∧ b = .int j ∧ C i j ∧ r = (.im, .int (f i j))) : OpR X (binaryOp op) (rB X.prog X.w (binD bop)) := by
  intro pins s σ H x y v u Q I rx ry h
  obtain ⟨O, a, b, r, hO, ha, hb', hg, k⟩ := h
  obtain ⟨i, j, rfl, rfl, hc, rfl⟩ := hb a b r hg
  cases ha; cases hb'
  exact ho pins s σ H _ _ v u Q I rx ry ⟨i, j, rfl, rfl, hc, k _ _ (Same.refl H) (.im (.int _))⟩
theorem op_subD : OpR X (binaryOp .Sub) (rB X.prog X.w (binD .sub)) := by
  refine op_intD (C := fun _ _ => True) (f := fun i j => i - j) (fun pins s σ H x y v u Q I rx ry h => ?_) fun a b r h => ?_
  · obtain ⟨i, j, e1, e2, _, q⟩ := h
    exact op_sub pins s σ H x y v u Q I rx ry ⟨i, j, e1, e2, q⟩
  · cases a <;> cases b <;> simp [binD] at h
    exact ⟨_, _, rfl, rfl, trivial, h.symm⟩
theorem abs_mul {i : Int} (h : i.natAbs < 2 ^ 64) : -(2 ^ 64) < i ∧ i < 2 ^ 64 := by omega
theorem op_mulD : OpR X (binaryOp .Mult) (rB X.prog X.w (binD .mul)) := by
  refine op_intD op_mul fun a b r h => ?_
  cases a <;> cases b <;> simp [binD] at h
  obtain ⟨h1, h2⟩ := h
  refine ⟨_, _, rfl, rfl, ?_, h2.symm⟩
  rcases h1 with h1 | h1
  · exact .inr (abs_mul h1)
  · exact .inl (abs_mul h1)
theorem op_fdivD : OpR X (binaryOp .FloorDiv) (rB X.prog X.w (binD .fdiv)) := by
  refine op_intD op_fdivW fun a b r h => ?_
  cases a with
  | int i => cases b with
    | int j =>
      simp only [binD] at h
      split at h
      · rename_i hc
        cases h
        simp only [Bool.and_eq_true, decide_eq_true_eq] at hc
        refine ⟨_, _, rfl, rfl, wide_div (b := 1000) hc.1 ?_ (by decide) (by decide), rfl⟩
        have e : (j.natAbs : Int) = j := Int.natAbs_of_nonneg (Int.le_of_lt hc.1)
        have e2 : ((2 ^ 1000 : Nat) : Int) = (2 ^ 1000 : Int) := Int.natCast_pow 2 1000
        have h3 : (j.natAbs : Int) < ((2 ^ 1000 : Nat) : Int) := by rw [e, e2]; exact hc.2
        exact Int.ofNat_lt.mp h3
      · cases h
    | _ => simp [binD] at h
  | _ => cases b <;> simp [binD] at h
theorem op_modD : OpR X (binaryOp .Mod) (rB X.prog X.w (binD .mod)) := by
  refine op_intD op_mod fun a b r h => ?_
  cases a <;> cases b <;> simp [binD] at h
  exact ⟨_, _, rfl, rfl, h.1, h.2.symm⟩
theorem op_powD : OpR X (binaryOp .Pow) (rB X.prog X.w (binD .pow)) := by
  refine op_intD op_pow fun a b r h => ?_
  cases a <;> cases b <;> simp [binD] at h
  exact ⟨_, _, rfl, rfl, ⟨h.1.1.1, by omega, h.1.2⟩, h.2.symm⟩

/-! ### comparisons -/
variable (hu : X.A.units + 200 < cLine)
include hu
theorem cmp_fin {pins : List (Addr × Obj)} {σ : L2.St} {H : Hp} {s : Shared} {Q : VK} {k : Bool} (I : Inv X pins σ H s) (q : Q (.bl k) H) (t : Nat) : EP X pins σ Q (.bool k) { s with toks := t } := ⟨.bl k, H, I.tok t, rfl, q⟩
theorem op_eqDD : OpR X (compareOp .Eq) (rC X.prog X.w (cmpD .eq)) := by
  intro pins s σ H x y v u Q I rx ry h
  obtain ⟨O, a, b, r, ha, hb, hg, k⟩ := h
  simp only [cmpD, eqD] at hg
  split at hg
  · rename_i hc
    simp only [Bool.and_eq_true, depOk, decide_eq_true_eq] at hc
    cases hg
    obtain ⟨as, r1⟩ := ha.reads I hc.1.1 rx
    obtain ⟨bs, r2⟩ := hb.reads I hc.1.2 ry
    exact SeqAt.eq_plain r1 r2 hc.1.1 hc.1.2 (by omega) ⟨.bl _, H, I, rfl, k⟩
  · cases hg
theorem op_neDD : OpR X (compareOp .NotEq) (rC X.prog X.w (cmpD .ne)) := by
  intro pins s σ H x y v u Q I rx ry h
  obtain ⟨O, a, b, r, ha, hb, hg, k⟩ := h
  simp only [cmpD, eqD] at hg
  split at hg
  · rename_i hc
    simp only [Bool.and_eq_true, depOk, decide_eq_true_eq] at hc
    simp only [Option.map_some, Option.some.injEq] at hg
    subst hg
    obtain ⟨as, r1⟩ := ha.reads I hc.1.1 rx
    obtain ⟨bs, r2⟩ := hb.reads I hc.1.2 ry
    exact SeqAt.ne_plain r1 r2 hc.1.1 hc.1.2 (by omega) ⟨.bl _, H, I, rfl, k⟩
  · simp at hg
omit hu in
theorem ltOk_parts {a b : D} (h : ltOk a b = true) : PySem.W.alike a b = true ∧ a ≠ .none ∧ min a.depth b.depth ≤ 100 ∧ a.plain = true ∧ b.plain = true := by
  simp only [ltOk, Bool.and_eq_true, depOk, decide_eq_true_eq] at h
  refine ⟨h.1.1.1.1, fun e => ?_, h.1.1.2, h.1.2, h.2⟩
  subst e
  exact absurd h.1.1.1.2 (by simp)
theorem op_ltD : OpR X (compareOp .Lt) (rC X.prog X.w (cmpD .lt)) := by
  intro pins s σ H x y v u Q I rx ry h
  obtain ⟨O, a, b, r, ha, hb, hg, k⟩ := h
  simp only [cmpD] at hg
  split at hg
  · rename_i hc
    cases hg
    obtain ⟨h1, h2, h3, h4, h5⟩ := ltOk_parts hc
    obtain ⟨as, r1⟩ := ha.reads I h4 rx
    obtain ⟨bs, r2⟩ := hb.reads I h5 ry
    exact PySem.W.lt_data r1 r2 h1 h2 (by omega) ⟨.bl _, H, I, rfl, k⟩
  · cases hg
theorem op_gtD : OpR X (compareOp .Gt) (rC X.prog X.w (cmpD .gt)) := by
  intro pins s σ H x y v u Q I rx ry h
  obtain ⟨O, a, b, r, ha, hb, hg, k⟩ := h
  simp only [cmpD] at hg
  split at hg
  · rename_i hc
    cases hg
    obtain ⟨h1, h2, h3, h4, h5⟩ := ltOk_parts hc
    obtain ⟨as, r1⟩ := ha.reads I h4 rx
    obtain ⟨bs, r2⟩ := hb.reads I h5 ry
    exact PySem.W.gt_data r1 r2 h1 h2 (by omega) ⟨.bl _, H, I, rfl, k⟩
  · cases hg
theorem op_leD : OpR X (compareOp .LtE) (rC X.prog X.w (cmpD .le)) := by
  intro pins s σ H x y v u Q I rx ry h
  obtain ⟨O, a, b, r, ha, hb, hg, k⟩ := h
  simp only [cmpD] at hg
  split at hg
  · rename_i hc
    cases hg
    obtain ⟨h1, h2, h3, h4, h5⟩ := ltOk_parts hc
    obtain ⟨as, r1⟩ := ha.reads I h4 rx
    obtain ⟨bs, r2⟩ := hb.reads I h5 ry
    exact PySem.W.le_data r1 r2 h1 h2 (by omega) ⟨.bl _, H, I, rfl, k⟩
  · cases hg
theorem op_geD : OpR X (compareOp .GtE) (rC X.prog X.w (cmpD .ge)) := by
  intro pins s σ H x y v u Q I rx ry h
  obtain ⟨O, a, b, r, ha, hb, hg, k⟩ := h
  simp only [cmpD] at hg
  split at hg
  · rename_i hc
    cases hg
    obtain ⟨h1, h2, h3, h4, h5⟩ := ltOk_parts hc
    obtain ⟨as, r1⟩ := ha.reads I h4 rx
    obtain ⟨bs, r2⟩ := hb.reads I h5 ry
    exact PySem.W.ge_data r1 r2 h1 h2 (by omega) ⟨.bl _, H, I, rfl, k⟩
  · cases hg
omit hu in
theorem signIn_one {x y : Str} {r : Bool} (h : signIn x y = some r) : ∃ c, x = ⟨#[c]⟩ ∧ r = decide (c ∈ y.cps.toList) := by
  unfold signIn at h
  split at h
  · rename_i c e
    cases h
    refine ⟨c, ?_, rfl⟩
    obtain ⟨cps⟩ := x
    have e2 : cps = #[c] := Array.toList_inj.mp (by simpa using e)
    rw [e2]
  · cases h
omit hu in
theorem inAny_parts {ds : List D} {d : D} {r : Bool} (h : inAny ds d = some r) : PyData.plainAll ds = true ∧ d.plain = true ∧ min (PyData.depthAll ds) d.depth ≤ 100 ∧ r = ds.any fun z => PyData.eqv z d := by
  unfold inAny at h
  split at h
  · rename_i hc
    simp only [Bool.and_eq_true, decide_eq_true_eq] at hc
    cases h
    exact ⟨hc.1.1, hc.1.2, hc.2, rfl⟩
  · cases h
omit hu in
/-- a tuple key, by its address -/
theorem key_at {P : Program} {w : World} {H : Hp} {O : Addr → Prop} {d : D} {v : V} (h : keyT d = true) (r : RpB P w H O d v) : ∃ k a, d = NestedKey.data k ∧ k.depth ≤ 8 ∧ v = .ref a ∧ Rp P w H O k.data (.ref a) := by
  obtain ⟨ks, rfl, hd⟩ := keyT_tup h
  have r' : Rp P w H O (NestedKey.tup ks).data v := r
  simp only [NestedKey.data] at r'
  cases r' with
  | tup n e q => exact ⟨.tup ks, _, rfl, hd, rfl, by simp only [NestedKey.data]; exact .tup n e q⟩
theorem op_inD : OpR X (compareOp .In) (rC X.prog X.w (cmpD .isin)) := by
  intro pins s σ H x y v u Q I rx ry h
  obtain ⟨O, a, b, r, ha, hb, hg, k⟩ := h
  cases b with
  | str z =>
    cases a with
    | str z' =>
      cases ha; cases hb
      obtain ⟨c, rfl, rfl⟩ := signIn_one (by simpa [cmpD] using hg)
      exact op_in_sign pins s σ H _ _ v u Q I rx ry ⟨c, z, rfl, rfl, k⟩
    | _ => simp [cmpD] at hg
  | list ds =>
    obtain ⟨h1, h2, h3, rfl⟩ := inAny_parts (show inAny ds a = some r by simpa [cmpD] using hg)
    obtain ⟨as, r1⟩ := ha.reads I h2 rx
    obtain ⟨bs, r2⟩ := hb.reads I (by simpa [PyData.plain] using h1) ry
    exact SeqAt.in_list_data r2 r1 h1 h2 (by omega) ⟨.bl _, H, I, rfl, k⟩
  | tuple ds =>
    obtain ⟨h1, h2, h3, rfl⟩ := inAny_parts (show inAny ds a = some r by simpa [cmpD] using hg)
    obtain ⟨as, r1⟩ := ha.reads I h2 rx
    obtain ⟨bs, r2⟩ := hb.reads I (by simpa [PyData.plain] using h1) ry
    exact SeqAt.in_tuple_data r2 r1 h1 h2 (by omega) ⟨.bl _, H, I, rfl, k⟩
  | dict kvs =>
    simp only [cmpD] at hg
    split at hg
    · rename_i hc
      simp only [Bool.and_eq_true] at hc
      cases hg
      obtain ⟨kk, pa, rfl, hd, rfl, rk⟩ := key_at hc.1 ha
      obtain ⟨pd, es, rfl, hs, hH, re, nd⟩ := hb.dictT hc.2
      obtain ⟨xs, hx, hp⟩ := Inv.dictOf I hH re nd
      cases rx; cases ry
      refine in_keyed (knd := nestedKind X.prog X.w) (k := kk) (by show X.A.units + 1 + 8 < cLine; omega) (Rp.key I rk hd) hs ⟨xs, hx, rfl⟩ ?_
      have lk := re.look kk hp
      have e : (valueAt (pairsH xs) kk).isSome = (dget kvs kk.data).isSome := by
        cases q : dget kvs kk.data with
        | none => rw [q] at lk; simp only at lk; rw [lk]; rfl
        | some d => rw [q] at lk; obtain ⟨u, v, e, _⟩ := lk; rw [e]; rfl
      rw [e]
      exact ⟨.bl _, H, I.tok _, rfl, k⟩
    · split at hg
      · rename_i hc
        simp only [Bool.and_eq_true] at hc
        cases hg
        obtain ⟨kk, rfl, rfl⟩ := keyI_at hc.1 ha
        obtain ⟨pd, es, rfl, hH, re⟩ := hb.dictI hc.2
        cases ry
        refine d_in (by omega) I (DGet.k hH) rx fun s' I' => ?_
        rw [re.some]
        exact ⟨.bl _, H, I', rfl, k⟩
      · cases hg
  | _ => simp [cmpD] at hg
theorem op_notInD : OpR X (compareOp .NotIn) (rC X.prog X.w (cmpD .notin)) := by
  intro pins s σ H x y v u Q I rx ry h
  obtain ⟨O, a, b, r, ha, hb, hg, k⟩ := h
  cases b with
  | str z =>
    cases a with
    | str z' =>
      cases ha; cases hb
      obtain ⟨r', h1, rfl⟩ := Option.map_eq_some_iff.mp (show (signIn z' z).map not = some r by simpa [cmpD] using hg)
      obtain ⟨c, rfl, rfl⟩ := signIn_one h1
      exact op_notIn_sign pins s σ H _ _ v u Q I rx ry ⟨c, z, rfl, rfl, k⟩
    | _ => simp [cmpD] at hg
  | list ds =>
    obtain ⟨r', h0, rfl⟩ := Option.map_eq_some_iff.mp (show (inAny ds a).map not = some r by simpa [cmpD] using hg)
    obtain ⟨h1, h2, h3, rfl⟩ := inAny_parts h0
    obtain ⟨as, r1⟩ := ha.reads I h2 rx
    obtain ⟨bs, r2⟩ := hb.reads I (by simpa [PyData.plain] using h1) ry
    exact SeqAt.notIn_list_data r2 r1 h1 h2 (by omega) ⟨.bl _, H, I, rfl, k⟩
  | tuple ds =>
    obtain ⟨r', h0, rfl⟩ := Option.map_eq_some_iff.mp (show (inAny ds a).map not = some r by simpa [cmpD] using hg)
    obtain ⟨h1, h2, h3, rfl⟩ := inAny_parts h0
    obtain ⟨as, r1⟩ := ha.reads I h2 rx
    obtain ⟨bs, r2⟩ := hb.reads I (by simpa [PyData.plain] using h1) ry
    exact SeqAt.notIn_tuple_data r2 r1 h1 h2 (by omega) ⟨.bl _, H, I, rfl, k⟩
  | dict kvs =>
    simp only [cmpD] at hg
    split at hg
    · rename_i hc
      simp only [Bool.and_eq_true] at hc
      cases hg
      obtain ⟨kk, pa, rfl, hd, rfl, rk⟩ := key_at hc.1 ha
      obtain ⟨pd, es, rfl, hs, hH, re, nd⟩ := hb.dictT hc.2
      obtain ⟨xs, hx, hp⟩ := Inv.dictOf I hH re nd
      cases rx; cases ry
      refine notIn_keyed (knd := nestedKind X.prog X.w) (k := kk) (by show X.A.units + 1 + 8 < cLine; omega) (Rp.key I rk hd) hs ⟨xs, hx, rfl⟩ ?_
      have lk := re.look kk hp
      have e : (valueAt (pairsH xs) kk).isSome = (dget kvs kk.data).isSome := by
        cases q : dget kvs kk.data with
        | none => rw [q] at lk; simp only at lk; rw [lk]; rfl
        | some d => rw [q] at lk; obtain ⟨u, v, e, _⟩ := lk; rw [e]; rfl
      rw [e]
      exact ⟨.bl _, H, I.tok _, rfl, k⟩
    · split at hg
      · rename_i hc
        simp only [Bool.and_eq_true] at hc
        cases hg
        obtain ⟨kk, rfl, rfl⟩ := keyI_at hc.1 ha
        obtain ⟨pd, es, rfl, hH, re⟩ := hb.dictI hc.2
        cases ry
        refine d_notIn (by omega) I (DGet.k hH) rx fun s' I' => ?_
        rw [re.some]
        exact ⟨.bl _, H, I', rfl, k⟩
      · cases hg
  | _ => simp [cmpD] at hg
omit hu in
theorem non_iff {P : Program} {w : World} {H : Hp} {O : Addr → Prop} {d : D} {v : V} (r : RpB P w H O d v) : decide (v = .non) = isNone d := by
  cases d with
  | list ds => obtain ⟨a, xs, rfl, _⟩ := r; rfl
  | dict ds => rcases r with ⟨a, xs, rfl, _⟩ | ⟨a, xs, rfl, _⟩ <;> rfl
  | none => cases r; rfl
  | bool b => cases r; rfl
  | int b => cases r; rfl
  | str b => cases r; rfl
  | tuple b => cases r; rfl
omit hu in
theorem isNone_of {P : Program} {w : World} {H : Hp} {O : Addr → Prop} {d : D} {v : V} (h : isNone d = true) (r : RpB P w H O d v) : v = .non := by
  have e := non_iff r
  rw [h] at e
  exact of_decide_eq_true e
omit hu in
theorem op_isND : OpR X (compareOp .Is) (rC X.prog X.w (cmpD .isN)) := by
  intro pins s σ H x y v u Q I rx ry h
  obtain ⟨O, a, b, r, ha, hb, hg, k⟩ := h
  simp only [cmpD] at hg
  split at hg
  · rename_i hc
    cases hg
    exact op_isN pins s σ H x y v u Q I rx ry ⟨isNone_of hc hb, by rw [non_iff ha]; exact k⟩
  · cases hg
omit hu in
theorem op_notND : OpR X (compareOp .IsNot) (rC X.prog X.w (cmpD .notN)) := by
  intro pins s σ H x y v u Q I rx ry h
  obtain ⟨O, a, b, r, ha, hb, hg, k⟩ := h
  simp only [cmpD] at hg
  split at hg
  · rename_i hc
    cases hg
    exact op_notN pins s σ H x y v u Q I rx ry ⟨isNone_of hc hb, by rw [non_iff ha]; exact k⟩
  · cases hg
end
end Rk

/-! Expressions. -/
set_option autoImplicit false
set_option linter.all false
set_option maxRecDepth 100000
namespace Rk
open PySem PySem.Spec PyProof.Rows L2

/-- what a def of the table promises -/
def spI (P : Program) (w : World) (F : FT) (f : Nat) : Sp := fun vs H Q _ => ∃ Of ds r, (∀ a, Of a → ∃ o, H a = some o ∧ ∀ xs, o ≠ .tup xs) ∧ Rps P w H Of ds vs ∧ F f ds = some r ∧
  ∀ v H', Same H H' → Rp P w H' Of r.2 v → (r.1 = true → ∃ a, v = .ref a ∧ H a = none ∧ OwnAt P w H' (fun b => Of b ∨ b = a) a r.2) → Q v H'
def CallOk (F : FT) (X : Cx) (x : Str) (i : Nat) : Prop := ∃ f fd ps k, FnOk X.prog X.w X.K X.mg X.base CX0 k f fd ps (spI X.prog X.w F i) ∧ Room k X.A ∧ X.mg x = some (.ref f) ∧ PySem.W.keepIn X.K (.ref f) = true ∧ Binds X.K fd ps []
/-- a constant as a value -/
def cV : D → Option V
  | .none => some .non
  | .bool b => some (.bl b)
  | .int i => some (.int i)
  | .str x => some (.str x)
  | _ => none
/-- the built-ins that are used -/
def bltNames : List Str := ["len", "sorted", "set", "list", "tuple", "dict", "all", "any", "max", "min", "sum", "int", "str", "isinstance", "range", "zip", "enumerate", "bool"]

structure Gx (F : FT) (X : Cx) (N : List Str) (sc : Scope) (fns : List (Nat × Str)) (cs : List (Str × D)) : Prop where
  calm : X.calm = true
  nd : N.Nodup
  hN : X.N = N
  hsc : X.env.scope = sc
  units : X.A.units + 200 < cLine
  call : ∀ (i : Nat) (x : Str), fns.lookup i = some x → CallOk F X x i
  blt : ∀ x ∈ bltNames, X.mg x = none
  con : ∀ x d, (x, d) ∈ cs → ∃ v u, cV d = some v ∧ X.mg x = some u ∧ RelV v u

section
variable {F : FT} {X : Cx} {N : List Str} {sc : Scope} {fns : List (Nat × Str)} {cs : List (Str × D)}
abbrev SE (F : FT) (X : Cx) (e : Expr) (i : Ex) : Prop := PE X e (tI X.prog X.w F i)
abbrev SB (F : FT) (X : Cx) (e : Expr) (i : Ex) : Prop := PT X e (tT X.prog X.w F i)
abbrev SK (F : FT) (X : Cx) (e : List Expr) (i : List Ex) : Prop := PA X e (tK X.prog X.w F i)
abbrev SL (F : FT) (X : Cx) (e : List Expr) (i : List Ex) : Prop := PA X e (tL X.prog X.w F i)

theorem se_v (G : Gx F X N sc fns cs) {i : Nat} {x : Str} {pos : Pos} (hN : N[i]? = some x := by rfl) (hv : Vis sc x := by first | exact .inl rfl | exact .inr (.inl rfl) | exact .inr (.inr rfl))
    (hd : (x == ("__debug__" : Str)) = false := by decide) (hcd : (x == ("__classdict__" : Str)) = false := by decide) : SE F X (.Name x pos) (.v i) := by
  refine (pe_var (i := i) (by rw [G.hN]; exact hN) (by rw [G.hsc]; exact hv) hd hcd).of fun σ H Q ⟨Of, ρ, r, E, h, k⟩ => ?_
  simp only [ev] at h
  split at h
  · rename_i d e
    cases h
    obtain ⟨a, e2, n, q⟩ := E.ow i d e
    exact ⟨_, e2, k _ _ (Same.refl H) ⟨q.b, fun z => absurd rfl z, fun z => by cases z⟩⟩
  · rename_i d e
    cases h
    obtain ⟨v, e2, q⟩ := E.im i d e
    exact ⟨_, e2, k _ _ (Same.refl H) (.im q)⟩
  · cases h
theorem se_int {i : Int} {j pos} : SE F X (.Constant (.int i) j pos) (.c (.int i)) := pe_int.of fun σ H Q ⟨Of, ρ, r, E, h, k⟩ => by
  simp only [ev, Option.some.injEq] at h; subst h; exact k _ _ (Same.refl H) (.im (.int _))
theorem se_str {i : Str} {j pos} : SE F X (.Constant (.str i) j pos) (.c (.str i)) := pe_str.of fun σ H Q ⟨Of, ρ, r, E, h, k⟩ => by
  simp only [ev, Option.some.injEq] at h; subst h; exact k _ _ (Same.refl H) (.im (.str _))
theorem se_bl {i : Bool} {j pos} : SE F X (.Constant (.bool i) j pos) (.c (.bool i)) := pe_bl.of fun σ H Q ⟨Of, ρ, r, E, h, k⟩ => by
  simp only [ev, Option.some.injEq] at h; subst h; exact k _ _ (Same.refl H) (.im (.bl _))
theorem se_non {j pos} : SE F X (.Constant .none j pos) (.c .none) := pe_non.of fun σ H Q ⟨Of, ρ, r, E, h, k⟩ => by
  simp only [ev, Option.some.injEq] at h; subst h; exact k _ _ (Same.refl H) (.im .non)
/-- a constant of the module -/
theorem se_con (G : Gx F X N sc fns cs) {x : Str} {d : D} {pos : Pos} (hm : (x, d) ∈ cs) (hg : sc.names.lookup x = some .globalImplicit := by rfl) (hd : (x == ("__debug__" : Str)) = false := by decide) : SE F X (.Name x pos) (.c d) := by
  obtain ⟨v, u, e, m, r⟩ := G.con x d hm
  refine (pe_glob (v := v) (show X.env.kindOf x = some .globalImplicit by unfold Env.kindOf; rw [G.hsc]; exact hg) m r hd).of fun σ H Q ⟨Of, ρ, r, E, h, k⟩ => ?_
  simp only [ev, Option.some.injEq] at h
  subst h
  refine k _ _ (Same.refl H) (.im ?_)
  cases d <;> simp [cV] at e
  · subst e; exact .non
  · subst e; exact .bl _
  · subst e; exact .int _
  · subst e; exact .str _

/-! ### lists of expressions -/
theorem sk_nil : SK F X [] [] := pa_nil.of fun σ H Q ⟨Of, ρ, ds, E, h, k⟩ => by
  simp only [evK, Option.some.injEq] at h; subst h; exact k _ _ (Same.refl H) .nil
theorem keepOf_some {r : Option (Tag × D)} {d : D} (h : keepOf r = some d) : ∃ t, r = some (t, d) ∧ t ≠ .ow := by
  cases r with
  | none => cases h
  | some p =>
    obtain ⟨t, x⟩ := p
    cases t with
    | ow => cases h
    | fr => cases h; exact ⟨_, rfl, by decide⟩
    | im => cases h; exact ⟨_, rfl, by decide⟩
theorem sk_cons {e : Expr} {es : List Expr} {i : Ex} {is : List Ex} (he : SE F X e i) (hs : SK F X es is) (h0 : starEach (e :: es) X.env = (false, eval e X.env) :: starEach es X.env := by rfl) : SK F X (e :: es) (i :: is) := by
  refine (pa_cons he hs h0).of fun σ H Q ⟨Of, ρ, ds, E, h, k⟩ => ?_
  simp only [evK] at h
  split at h
  · rename_i x hx
    obtain ⟨t, h1, h2⟩ := keepOf_some hx
    obtain ⟨ds', h3, rfl⟩ := Option.map_eq_some_iff.mp h
    exact ⟨Of, ρ, _, E, h1, fun v H1 s1 p1 => ⟨Of, ρ, ds', E.same s1, h3, fun vs H2 s2 q2 => k _ _ (s1.trans s2) (.cons ((p1.2.1 h2).same s2) q2)⟩⟩
  · cases h
theorem sl_nil : SL F X [] [] := pa_nil.of fun σ H Q ⟨Of, ρ, ds, E, h, k⟩ => by
  simp only [evL, Option.some.injEq] at h; subst h; exact k _ _ (Same.refl H) .nil
theorem Post.same {P : Program} {w : World} {H H1 H2 : Hp} {O : Addr → Prop} {v : V} {r : Tag × D} (h : Post P w H O H1 v r) (s : Same H1 H2) : Post P w H O H2 v r :=
  ⟨h.1.same s, fun z => (h.2.1 z).same s, fun z => by
    obtain ⟨a, e, n, st⟩ := h.2.2 z
    exact ⟨a, e, n, st.go (fun o q => s a o q) (fun b o q _ => s b o q) fun _ _ _ n => n⟩⟩
theorem sl_cons {e : Expr} {es : List Expr} {i : Ex} {is : List Ex} (he : SE F X e i) (hs : SL F X es is) (h0 : starEach (e :: es) X.env = (false, eval e X.env) :: starEach es X.env := by rfl) : SL F X (e :: es) (i :: is) := by
  refine (pa_cons he hs h0).of fun σ H Q ⟨Of, ρ, rs, E, h, k⟩ => ?_
  simp only [evL] at h
  split at h
  · rename_i x hx
    obtain ⟨ds', h3, rfl⟩ := Option.map_eq_some_iff.mp h
    refine ⟨Of, ρ, x, E, hx, fun v H1 s1 p1 => ⟨Of, ρ, ds', E.same s1, h3, fun vs H2 s2 q2 => k _ _ (s1.trans s2) (.cons (p1.same s2) ?_)⟩⟩
    exact Paired.mapP q2 fun r v z => z.from s1
  · cases h

/-! ### displays -/
theorem se_tup {es : List Expr} {is : List Ex} {x1 pos} (h : SK F X es is) (hz : is.length ≤ 1000 := by decide) : SE F X (.Tuple es x1 pos) (.tup is) := by
  refine (pe_tup h).of fun σ H Q ⟨Of, ρ, r, E, h, k⟩ => ?_
  simp only [ev] at h
  obtain ⟨ds, h1, rfl⟩ := Option.map_eq_some_iff.mp h
  refine ⟨Of, ρ, ds, E, h1, fun vs H' s q => ⟨?_, fun p hp => ?_⟩⟩
  · have e : ds.length = is.length := evK_len h1
    rw [← q.length, e, sizeLine_eq]
    omega
  · refine k _ _ (s.trans (same_new hp)) (.im (.tup ((E.same s).fresh hp) upd_same (q.same (same_new hp))))
where
  evK_len {F : FT} : ∀ {is : List Ex} {ρ : Env} {ds : List D}, evK F is ρ = some ds → ds.length = is.length
  | [], _, _, h => by simp only [evK, Option.some.injEq] at h; subst h; rfl
  | i :: is, ρ, ds, h => by
    simp only [evK] at h
    split at h
    · obtain ⟨ds', h3, rfl⟩ := Option.map_eq_some_iff.mp h
      simp [evK_len h3]
    · cases h
theorem se_lst {es : List Expr} {is : List Ex} {pos} (h : SK F X es is) (hz : is.length ≤ 1000 := by decide) : SE F X (.List es pos) (.lst is) := by
  refine (pe_lst h).of fun σ H Q ⟨Of, ρ, r, E, h, k⟩ => ?_
  simp only [ev] at h
  obtain ⟨ds, h1, rfl⟩ := Option.map_eq_some_iff.mp h
  refine ⟨Of, ρ, ds, E, h1, fun vs H' s q => ⟨?_, fun p hp => ?_⟩⟩
  · have e : ds.length = is.length := se_tup.evK_len h1
    rw [← q.length, e, sizeLine_eq]
    omega
  · refine k _ _ (s.trans (same_new hp)) (.newL q hp ((E.same s).fresh hp) s)

/-! ### operators -/
theorem se_bin {op : Operator} {bop : Bop} {a b : Expr} {i j : Ex} {pos : Pos} (ho : OpR X (binaryOp op) (rB X.prog X.w (binD bop))) (ha : SE F X a i) (hb : SE F X b j) : SE F X (.BinOp a op b pos) (.bin bop i j) := by
  refine (pe_op ho ha hb).of fun σ H Q ⟨Of, ρ, r, E, h, k⟩ => ?_
  simp only [ev] at h
  split at h
  · rename_i x hx
    split at h
    · rename_i y hy
      refine ⟨Of, ρ, x, E, hx, fun v H1 s1 p1 => ⟨Of, ρ, y, E.same s1, hy, fun u H2 s2 p2 => ⟨Ow Of ρ σ, x.2, y.2, r, fun p hp => ((E.same s1).same s2).fresh hp, p1.1.same s2, p2.1, h, fun z H3 s3 p3 => k _ _ (s1.trans (s2.trans s3)) (p3.from (s1.trans s2))⟩⟩⟩
    · cases h
  · cases h
theorem se_cmp {op : CmpOp} {cop : Cop} {a b : Expr} {i j : Ex} {pos : Pos} (ho : OpR X (compareOp op) (rC X.prog X.w (cmpD cop))) (ha : SE F X a i) (hb : SE F X b j) (hn : behindInMarks op b = false) : SE F X (.Compare a [op] [b] pos) (.cmp cop i j) := by
  refine (pe_cmpR ho ha hb hn).of fun σ H Q ⟨Of, ρ, r, E, h, k⟩ => ?_
  simp only [ev] at h
  split at h
  · rename_i x hx
    split at h
    · rename_i y hy
      obtain ⟨c, hc, rfl⟩ := Option.map_eq_some_iff.mp h
      refine ⟨Of, ρ, x, E, hx, fun v H1 s1 p1 => ⟨Of, ρ, y, E.same s1, hy, fun u H2 s2 p2 => ⟨Ow Of ρ σ, x.2, y.2, c, p1.1.same s2, p2.1, hc, k _ _ (s1.trans s2) (.im (.bl _))⟩⟩⟩
    · cases h
  · cases h
theorem boolOf_some {r : Option (Tag × D)} {b : Bool} (h : boolOf r = some b) : ∃ t, r = some (t, .bool b) := by
  unfold boolOf at h
  split at h
  · cases h; exact ⟨_, rfl⟩
  · cases h
theorem Post.bl {P : Program} {w : World} {H H1 : Hp} {O : Addr → Prop} {v : V} {t : Tag} {b : Bool} (h : Post P w H O H1 v (t, .bool b)) : v = .bl b := by
  have z : Rp P w H1 O (.bool b) v := h.1
  cases z
  rfl
/-- as a test -/
theorem sb_val {e : Expr} {i : Ex} (h : SE F X e i) (he : ∀ whole, isTrue e X.env whole = (do let v ← whole; standAt e.pos; holding [v] (truthy v)) := by intro _; rfl) : SB F X e i := by
  refine (pt_val h he).of fun σ H Q ⟨Of, ρ, b, E, h, k⟩ => ?_
  obtain ⟨t, h1⟩ := boolOf_some h
  exact ⟨Of, ρ, _, E, h1, fun v H' s p => ⟨b, p.bl, k _ s⟩⟩
theorem sb_cmp {op : CmpOp} {cop : Cop} {a b : Expr} {i j : Ex} {pos : Pos} (ho : OpR X (compareOp op) (rC X.prog X.w (cmpD cop))) (ha : SE F X a i) (hb : SE F X b j) (hn : behindInMarks op b = false) : SB F X (.Compare a [op] [b] pos) (.cmp cop i j) := by
  refine (pt_cmpR ho ha hb hn).of fun σ H Q ⟨Of, ρ, c, E, h, k⟩ => ?_
  obtain ⟨t, h⟩ := boolOf_some h
  simp only [ev] at h
  split at h
  · rename_i x hx
    split at h
    · rename_i y hy
      obtain ⟨c', hc, e⟩ := Option.map_eq_some_iff.mp h
      cases e
      refine ⟨Of, ρ, x, E, hx, fun v H1 s1 p1 => ⟨Of, ρ, y, E.same s1, hy, fun u H2 s2 p2 => ⟨Ow Of ρ σ, x.2, y.2, c, p1.1.same s2, p2.1, hc, ⟨c, rfl, k _ (s1.trans s2)⟩⟩⟩⟩
    · cases h
  · cases h
/-- a <= b <= c -/
theorem se_le2 {a b c : Expr} {i j l : Ex} {pos : Pos} (hu : X.A.units + 200 < cLine) (ha : SE F X a i) (hb : SE F X b j) (hc : SE F X c l) (hm : lastMarks [.LtE, .LtE] [b, c] = false := by with_unfolding_all rfl) : SE F X (.Compare a [.LtE, .LtE] [b, c] pos) (.le2 i j l) := by
  refine (pe_chain (op_leD hu) (op_leD hu) ha hb hc hm).of fun σ H Q ⟨Of, ρ, r, E, h, k⟩ => ?_
  simp only [ev] at h
  split at h
  · rename_i x hx
    split at h
    · rename_i y hy
      refine ⟨Of, ρ, x, E, hx, fun v H1 s1 p1 => ⟨Of, ρ, y, E.same s1, hy, fun u H2 s2 p2 => ?_⟩⟩
      split at h
      · rename_i hc1
        refine ⟨Ow Of ρ σ, x.2, y.2, true, p1.1.same s2, p2.1, hc1, true, rfl, ?_⟩
        split at h
        · rename_i z hz
          obtain ⟨c', hc', rfl⟩ := Option.map_eq_some_iff.mp h
          rw [if_pos rfl]
          exact ⟨Of, ρ, z, (E.same s1).same s2, hz, fun t H3 s3 p3 => ⟨Ow Of ρ σ, y.2, z.2, c', p2.1.same s3, p3.1, hc', k _ _ (s1.trans (s2.trans s3)) (.im (.bl _))⟩⟩
        · cases h
      · rename_i hc1
        cases h
        refine ⟨Ow Of ρ σ, x.2, y.2, false, p1.1.same s2, p2.1, hc1, false, rfl, ?_⟩
        rw [if_neg Bool.false_ne_true]
        exact k _ _ (s1.trans s2) (.im (.bl _))
      · cases h
    · cases h
  · cases h
theorem sb_le2 {a b c : Expr} {i j l : Ex} {pos : Pos} (hu : X.A.units + 200 < cLine) (ha : SE F X a i) (hb : SE F X b j) (hc : SE F X c l) (hm : lastMarks [.LtE, .LtE] [b, c] = false := by with_unfolding_all rfl) : SB F X (.Compare a [.LtE, .LtE] [b, c] pos) (.le2 i j l) := by
  refine (pt_chain (op_leD hu) (op_leD hu) ha hb hc hm).of fun σ H Q ⟨Of, ρ, r, E, h, k⟩ => ?_
  obtain ⟨t, h⟩ := boolOf_some h
  simp only [ev] at h
  split at h
  · rename_i x hx
    split at h
    · rename_i y hy
      refine ⟨Of, ρ, x, E, hx, fun v H1 s1 p1 => ⟨Of, ρ, y, E.same s1, hy, fun u H2 s2 p2 => ?_⟩⟩
      split at h
      · rename_i hc1
        refine ⟨Ow Of ρ σ, x.2, y.2, true, p1.1.same s2, p2.1, hc1, true, rfl, ?_⟩
        split at h
        · rename_i z hz
          obtain ⟨c', hc', e⟩ := Option.map_eq_some_iff.mp h
          cases e
          rw [if_pos rfl]
          exact ⟨Of, ρ, z, (E.same s1).same s2, hz, fun t H3 s3 p3 => ⟨Ow Of ρ σ, y.2, z.2, r, p2.1.same s3, p3.1, hc', r, rfl, k _ (s1.trans (s2.trans s3))⟩⟩
        · cases h
      · rename_i hc1
        cases h
        refine ⟨Ow Of ρ σ, x.2, y.2, false, p1.1.same s2, p2.1, hc1, false, rfl, ?_⟩
        rw [if_neg Bool.false_ne_true]
        exact ⟨false, rfl, k _ (s1.trans s2)⟩
      · cases h
    · cases h
  · cases h
end
end Rk

/-! Expressions: tests, subscripts, slices, calls. -/
set_option autoImplicit false
set_option linter.all false
set_option maxRecDepth 100000
namespace Rk
open PySem PySem.Spec PyProof.Rows L2
theorem iT {p q : Prop} (h : p) : (if true = true then p else q) := by rw [if_pos rfl]; exact h
theorem iF {p q : Prop} (h : q) : (if false = true then p else q) := by rw [if_neg Bool.false_ne_true]; exact h
section
variable {F : FT} {X : Cx} {N : List Str} {sc : Scope} {fns : List (Nat × Str)} {cs : List (Str × D)}

theorem se_one {op} {a : Expr} {i : Ex} {pos : Pos} (h : SE F X a i) : SE F X (.BoolOp op [a] pos) i := pe_one h
theorem se_and {a b : Expr} {rest : List Expr} {i j : Ex} {pos : Pos} (ha : SE F X a i) (hb : SE F X (.BoolOp .And (b :: rest) pos) j) : SE F X (.BoolOp .And (a :: b :: rest) pos) (.and i j) := by
  refine (pe_and ha hb).of fun σ H Q ⟨Of, ρ, r, E, h, k⟩ => ?_
  simp only [ev] at h
  split at h
  · rename_i hx
    obtain ⟨t, hx⟩ := boolOf_some hx
    obtain ⟨c, hc, rfl⟩ := Option.map_eq_some_iff.mp h
    obtain ⟨t2, hc⟩ := boolOf_some hc
    refine ⟨Of, ρ, _, E, hx, fun v H1 s1 p1 => ⟨true, p1.bl, ?_⟩⟩
    refine iT ?_
    exact ⟨Of, ρ, _, E.same s1, hc, fun u H2 s2 p2 => k _ _ (s1.trans s2) (by rw [p2.bl]; exact .im (.bl _))⟩
  · rename_i hx
    obtain ⟨t, hx⟩ := boolOf_some hx
    cases h
    refine ⟨Of, ρ, _, E, hx, fun v H1 s1 p1 => ⟨false, p1.bl, ?_⟩⟩
    refine iF ?_
    exact k _ _ s1 (.im (.bl _))
  · cases h
theorem se_or {a b : Expr} {rest : List Expr} {i j : Ex} {pos : Pos} (ha : SE F X a i) (hb : SE F X (.BoolOp .Or (b :: rest) pos) j) : SE F X (.BoolOp .Or (a :: b :: rest) pos) (.or i j) := by
  refine (pe_or ha hb).of fun σ H Q ⟨Of, ρ, r, E, h, k⟩ => ?_
  simp only [ev] at h
  split at h
  · rename_i hx
    obtain ⟨t, hx⟩ := boolOf_some hx
    cases h
    refine ⟨Of, ρ, _, E, hx, fun v H1 s1 p1 => ⟨true, p1.bl, ?_⟩⟩
    refine iT ?_
    exact k _ _ s1 (.im (.bl _))
  · rename_i hx
    obtain ⟨t, hx⟩ := boolOf_some hx
    obtain ⟨c, hc, rfl⟩ := Option.map_eq_some_iff.mp h
    obtain ⟨t2, hc⟩ := boolOf_some hc
    refine ⟨Of, ρ, _, E, hx, fun v H1 s1 p1 => ⟨false, p1.bl, ?_⟩⟩
    refine iF ?_
    exact ⟨Of, ρ, _, E.same s1, hc, fun u H2 s2 p2 => k _ _ (s1.trans s2) (by rw [p2.bl]; exact .im (.bl _))⟩
  · cases h
theorem se_not {a : Expr} {i : Ex} {pos : Pos} (ha : SE F X a i) : SE F X (.UnaryOp .Not a pos) (.not i) := by
  refine (pe_not ha).of fun σ H Q ⟨Of, ρ, r, E, h, k⟩ => ?_
  simp only [ev] at h
  obtain ⟨c, hc, rfl⟩ := Option.map_eq_some_iff.mp h
  obtain ⟨t2, hc⟩ := boolOf_some hc
  exact ⟨Of, ρ, _, E, hc, fun u H2 s2 p2 => ⟨c, p2.bl, k _ _ s2 (.im (.bl _))⟩⟩
/-- tests -/
abbrev SW (F : FT) (X : Cx) (e : Expr) (i : Ex) : Prop := PW X e (tT X.prog X.w F i)
theorem _root_.L2.PW.of {X : Cx} {e : Expr} {t t' : TT} (h : PW X e t) (k : ∀ σ H Q, t' σ H Q → t σ H Q) : PW X e t' := ⟨fun whole pins s σ H Q I q => h.run whole pins s σ H Q I (k σ H Q q)⟩
theorem sw_and1 {a : Expr} {i : Ex} {pos : Pos} (h : SB F X a i) : SW F X (.BoolOp .And [a] pos) i := pw_and1 h
theorem sw_or1 {a : Expr} {i : Ex} {pos : Pos} (h : SB F X a i) : SW F X (.BoolOp .Or [a] pos) i := pw_or1 h
theorem sw_and {a b : Expr} {rest : List Expr} {i j : Ex} {pos : Pos} (ha : SB F X a i) (hb : SW F X (.BoolOp .And (b :: rest) pos) j) : SW F X (.BoolOp .And (a :: b :: rest) pos) (.and i j) := by
  refine (pw_and ha hb).of fun σ H Q ⟨Of, ρ, r, E, h, k⟩ => ?_
  obtain ⟨t, h⟩ := boolOf_some h
  simp only [ev] at h
  split at h
  · rename_i hx
    obtain ⟨c, hc, e⟩ := Option.map_eq_some_iff.mp h
    cases e
    refine ⟨Of, ρ, _, E, hx, fun H1 s1 => ?_⟩
    refine iT ?_
    exact ⟨Of, ρ, _, E.same s1, hc, fun H2 s2 => k _ (s1.trans s2)⟩
  · rename_i hx
    cases h
    refine ⟨Of, ρ, _, E, hx, fun H1 s1 => ?_⟩
    refine iF ?_
    exact k _ s1
  · cases h
theorem sw_or {a b : Expr} {rest : List Expr} {i j : Ex} {pos : Pos} (ha : SB F X a i) (hb : SW F X (.BoolOp .Or (b :: rest) pos) j) : SW F X (.BoolOp .Or (a :: b :: rest) pos) (.or i j) := by
  refine (pw_or ha hb).of fun σ H Q ⟨Of, ρ, r, E, h, k⟩ => ?_
  obtain ⟨t, h⟩ := boolOf_some h
  simp only [ev] at h
  split at h
  · rename_i hx
    cases h
    refine ⟨Of, ρ, _, E, hx, fun H1 s1 => ?_⟩
    refine iT ?_
    exact k _ s1
  · rename_i hx
    obtain ⟨c, hc, e⟩ := Option.map_eq_some_iff.mp h
    cases e
    refine ⟨Of, ρ, _, E, hx, fun H1 s1 => ?_⟩
    refine iF ?_
    exact ⟨Of, ρ, _, E.same s1, hc, fun H2 s2 => k _ (s1.trans s2)⟩
  · cases h
theorem sb_w {e : Expr} {i : Ex} (h : SW F X e i) : SB F X e i := h.pt
theorem sb_not {a : Expr} {i : Ex} {pos : Pos} (ha : SB F X a i) : SB F X (.UnaryOp .Not a pos) (.not i) := by
  refine (pt_not ha).of fun σ H Q ⟨Of, ρ, r, E, h, k⟩ => ?_
  obtain ⟨t, h⟩ := boolOf_some h
  simp only [ev] at h
  obtain ⟨c, hc, e⟩ := Option.map_eq_some_iff.mp h
  cases e
  exact ⟨Of, ρ, _, E, hc, fun H2 s2 => k _ s2⟩
theorem se_ite {c a b : Expr} {l i j : Ex} {pos : Pos} (hc : SB F X c l) (ha : SE F X a i) (hb : SE F X b j) : SE F X (.IfExp c a b pos) (.ite l i j) := by
  refine (pe_ifExp hc ha hb).of fun σ H Q ⟨Of, ρ, r, E, h, k⟩ => ?_
  simp only [ev] at h
  split at h
  · rename_i hx
    refine ⟨Of, ρ, _, E, hx, fun H1 s1 => ?_⟩
    refine iT ?_
    exact ⟨Of, ρ, _, E.same s1, h, fun v H2 s2 p => k _ _ (s1.trans s2) (p.from s1)⟩
  · rename_i hx
    refine ⟨Of, ρ, _, E, hx, fun H1 s1 => ?_⟩
    refine iF ?_
    exact ⟨Of, ρ, _, E.same s1, h, fun v H2 s2 p => k _ _ (s1.trans s2) (p.from s1)⟩
  · cases h

/-! ### subscripts -/
theorem atI_map {P : Program} {w : World} {H : Hp} {O : Addr → Prop} {ds : List D} {vs : List V} (r : Rps P w H O ds vs) {i : Int} {d : D} (h : atI ds i = some d) : ∃ v, atI vs i = some v ∧ Rp P w H O d v := by
  unfold atI at h ⊢
  obtain ⟨j, h1, h2⟩ := Option.bind_eq_some_iff.mp h
  obtain ⟨v, h3, h4⟩ := r.get h2
  exact ⟨v, by rw [← r.length, h1]; exact h3, h4⟩
theorem ix_D (hu : X.A.units + 200 < cLine) : IxR X (rB X.prog X.w idxD) := by
  intro value slice pins s σ H x y v u Q I rx ry h hs
  obtain ⟨O, a, b, r, hO, ha, hb, hg, k⟩ := h
  cases a with
  | list xs =>
    cases b with
    | int i =>
      obtain ⟨pa, va, rfl, ea, sa⟩ := ha
      cases hb
      simp only [idxD] at hg
      obtain ⟨d, h1, rfl⟩ := Option.map_eq_some_iff.mp hg
      obtain ⟨z, h2, h3⟩ := atI_map sa h1
      exact ix_list value slice pins s σ H _ _ v u Q I rx ry ⟨pa, va, i, z, rfl, rfl, .inl ea, h2, k _ _ (Same.refl H) (.im h3)⟩ hs
    | _ => simp [idxD] at hg
  | tuple xs =>
    cases b with
    | int i =>
      cases ha with
      | @tup pa va _ na ea sa =>
        cases hb
        simp only [idxD] at hg
        obtain ⟨d, h1, rfl⟩ := Option.map_eq_some_iff.mp hg
        obtain ⟨z, h2, h3⟩ := atI_map sa h1
        exact ix_tup value slice pins s σ H _ _ v u Q I rx ry ⟨pa, va, i, z, rfl, rfl, SqT.of ea, h2, k _ _ (Same.refl H) (.im h3)⟩ hs
    | _ => simp [idxD] at hg
  | dict kvs =>
    simp only [idxD] at hg
    split at hg
    · rename_i hc
      simp only [Bool.and_eq_true] at hc
      obtain ⟨d, h1, rfl⟩ := Option.map_eq_some_iff.mp hg
      obtain ⟨kk, pa, rfl, hd, rfl, rk⟩ := key_at hc.1 hb
      obtain ⟨pd, es, rfl, hs', hH, re, nd⟩ := ha.dictT hc.2
      obtain ⟨xs, hx, hp⟩ := Inv.dictOf I hH re nd
      cases rx; cases ry
      have lk := re.look kk hp
      rw [h1] at lk
      obtain ⟨z, zv, e1, e2, e3⟩ := lk
      refine tail_any hx.typeIs PySem.F.slot_dict_getitem.lookup (getItem_keyed (knd := nestedKind X.prog X.w) (k := kk) (by show X.A.units + 1 + 8 < cLine; omega) (Rp.key I rk hd) ⟨xs, hx, rfl⟩ e1 ?_) hs
      exact ⟨zv, H, I.tok _, e2, k _ _ (Same.refl H) (.im e3)⟩
    · split at hg
      · rename_i hc
        simp only [Bool.and_eq_true] at hc
        obtain ⟨d, h1, rfl⟩ := Option.map_eq_some_iff.mp hg
        obtain ⟨kk, rfl, rfl⟩ := keyI_at hc.1 hb
        obtain ⟨pd, es, rfl, hH, re⟩ := ha.dictI hc.2
        cases rx
        have lk := re.look kk
        rw [h1] at lk
        obtain ⟨zv, e1, e3⟩ := lk
        refine tail_any (dict_typeIs I (DGet.k (k := kk) hH)) PySem.F.slot_dict_getitem.lookup (d_getItem (by omega) I (e1 ▸ DGet.k hH) ry fun w' s' I' e2 => ?_) hs
        exact ⟨zv, H, I', e2, k _ _ (Same.refl H) (.im e3)⟩
      · cases hg
  | _ => cases b <;> simp [idxD] at hg
theorem se_idx (G : Gx F X N sc fns cs) {a b : Expr} {i j : Ex} {pos : Pos} (ha : SE F X a i) (hb : SE F X b j) (hs : PlainIx b := by intro _ _; rfl) : SE F X (.Subscript a b pos) (.idx i j) := by
  refine (pe_ix (ix_D G.units) ha hb hs).of fun σ H Q ⟨Of, ρ, r, E, h, k⟩ => ?_
  simp only [ev] at h
  split at h
  · rename_i x hx
    split at h
    · rename_i y hy
      refine ⟨Of, ρ, x, E, hx, fun v H1 s1 p1 => ⟨Of, ρ, y, E.same s1, hy, fun u H2 s2 p2 => ⟨Ow Of ρ σ, x.2, y.2, r, fun p hp => ((E.same s1).same s2).fresh hp, p1.1.same s2, p2.1, h, fun z H3 s3 p3 => k _ _ (s1.trans (s2.trans s3)) (p3.from (s1.trans s2))⟩⟩⟩
    · cases h
  · cases h

/-! ### slices -/
def rSlD (P : Program) (w : World) : V → Option Int → Option Int → Hp → VK → Prop := fun x lo hi H Q => ∃ O a r, (∀ p, H p = none → ¬ O p) ∧ RpB P w H O a x ∧ cutD a lo hi = some r ∧
  ∀ v H', Same H H' → Post P w H O H' v r → Q v H'
theorem cut_rps {P : Program} {w : World} {H : Hp} {O : Addr → Prop} {ds : List D} {vs : List V} (r : Rps P w H O ds vs) (lo hi : Option Int) : Rps P w H O (cut ds lo hi) (cutV vs lo hi) := by
  unfold cut cutV
  rw [r.length]
  exact (r.drop _).take _
theorem cut_all {α : Type} {xs : List α} {lo hi : Option Int} (h : HT.sIx xs.length 0 lo = 0 ∧ HT.sIx xs.length xs.length hi = xs.length) : cut xs lo hi = xs := by
  unfold cut
  rw [h.1, h.2]
  simp
theorem sl_D : SlR X (rSlD X.prog X.w) := by
  intro pins s σ H x v vl vu lo hi sl Q I rx hs pl pu h
  obtain ⟨O, a, r, hO, ha, hg, k⟩ := h
  cases a with
  | list xs =>
    obtain ⟨pa, va, rfl, ea, sa⟩ := ha
    simp only [cutD, Option.some.injEq] at hg
    subst hg
    exact sl_list pins s σ H _ v vl vu lo hi sl Q I rx hs pl pu ⟨pa, va, rfl, .inl ea, fun p hp => k _ _ (same_new hp) (.newL (cut_rps sa lo hi) hp (hO p hp) (Same.refl _))⟩
  | tuple xs =>
    cases ha with
    | @tup pa va _ na ea sa =>
      simp only [cutD, Option.some.injEq] at hg
      subst hg
      refine sl_tupA pins s σ H _ v vl vu lo hi sl Q I rx hs pl pu ⟨pa, va, rfl, SqT.of ea, fun e => ?_, fun e p hp => ?_⟩
      · rw [← sa.length] at e
        rw [cut_all e] at k
        exact k _ _ (Same.refl H) (.im (.tup na ea sa))
      · exact k _ _ (same_new hp) (.im (.tup (hO p hp) upd_same ((cut_rps sa lo hi).same (same_new hp))))
  | str x =>
    cases ha
    simp only [cutD] at hg
    split at hg
    · rename_i hf
      cases hg
      refine sl_str pins s σ H _ v vl vu lo hi sl Q I rx hs pl pu ⟨x, rfl, Nat.le_of_lt (fits_le hf), ?_⟩
      have e : cutS x lo hi = ⟨(cut x.cps.toList lo hi).toArray⟩ := by
        unfold cutS cut
        have : x.cps.toList.length = x.length := by simp [Str.length]
        rw [this]
      rw [e]
      exact k _ _ (Same.refl H) (.im (.str _))
    · cases hg
  | _ => simp [cutD] at hg
theorem se_from {a b : Expr} {i j : Ex} {pos p2 : Pos} (ha : SE F X a i) (hb : SE F X b j) : SE F X (.Subscript a (.Slice (some b) none none p2) pos) (.from_ i j) := by
  refine (pe_slice sl_D ha (po_some hb) po_none).of fun σ H Q ⟨Of, ρ, r, E, h, k⟩ => ?_
  simp only [ev] at h
  split at h
  · rename_i x hx
    split at h
    · rename_i t y hy
      refine ⟨Of, ρ, x, E, hx, fun v H1 s1 p1 => ⟨Of, ρ, _, E.same s1, hy, fun u H2 s2 p2 => ?_⟩⟩
      have e : u = .int y := by
        have z : Rp X.prog X.w H2 _ (.int y) u := p2.1
        cases z; rfl
      exact ⟨y, e, Ow Of ρ σ, x.2, r, fun p hp => ((E.same s1).same s2).fresh hp, p1.1.same s2, h, fun z H3 s3 p3 => k _ _ (s1.trans (s2.trans s3)) (p3.from (s1.trans s2))⟩
    · cases h
  · cases h
theorem se_upto {a b : Expr} {i j : Ex} {pos p2 : Pos} (ha : SE F X a i) (hb : SE F X b j) : SE F X (.Subscript a (.Slice none (some b) none p2) pos) (.upto i j) := by
  refine (pe_slice sl_D ha po_none (po_some hb)).of fun σ H Q ⟨Of, ρ, r, E, h, k⟩ => ?_
  simp only [ev] at h
  split at h
  · rename_i x hx
    split at h
    · rename_i t y hy
      refine ⟨Of, ρ, x, E, hx, fun v H1 s1 p1 => ⟨Of, ρ, _, E.same s1, hy, fun u H2 s2 p2 => ?_⟩⟩
      have e : u = .int y := by
        have z : Rp X.prog X.w H2 _ (.int y) u := p2.1
        cases z; rfl
      exact ⟨y, e, Ow Of ρ σ, x.2, r, fun p hp => ((E.same s1).same s2).fresh hp, p1.1.same s2, h, fun z H3 s3 p3 => k _ _ (s1.trans (s2.trans s3)) (p3.from (s1.trans s2))⟩
    · cases h
  · cases h

/-! ### calls of the program's defs -/
/-- what is lent, by addresses -/
def lentA (rs : List (Tag × D)) (vs : List V) (a : Addr) : Prop := ∃ (i : Nat) (d : D), rs[i]? = some (.ow, d) ∧ vs[i]? = some (.ref a)
theorem lend {P : Program} {w : World} {H0 H : Hp} {O : Addr → Prop} : ∀ {rs : List (Tag × D)} {vs : List V}, Paired (fun r v => Post P w H0 O H v r) rs vs → ∀ B : Addr → Prop, (∀ a, lentA rs vs a → B a) → Rps P w H (fun a => O a ∧ ¬ B a) (rs.map (·.2)) vs
  | _, _, .nil, _, _ => .nil
  | _, _, .cons (a := r) (b := v) h t, B, hB => by
    refine .cons ?_ (lend t B fun a ⟨i, d, h1, h2⟩ => hB a ⟨i + 1, d, by simpa using h1, by simpa using h2⟩)
    obtain ⟨tg, d⟩ := r
    by_cases e : tg = .ow
    · subst e
      exact h.1.free (fun a z => z.1) fun a z q => q.2 (hB a ⟨0, d, rfl, by simp [z]⟩)
    · exact (h.2.1 e).weak fun a z => z.1
theorem call_res {P : Program} {w : World} {H H' : Hp} {O : Addr → Prop} {rs : List (Tag × D)} {r0 : Bool × D} {r : Tag × D} {v : V} (hO : ∀ p, H p = none → ¬ O p) (ht : ∀ a xs, H' a = some (.tup xs) → ¬ O a)
    (h : backOf rs (some r0) = some r) (B : Addr → Prop) (hB : lent rs = false → ∀ a, ¬ B a) (q : Rp P w H' (fun a => O a ∧ ¬ B a) r0.2 v) (hf : r0.1 = true → ∃ a, v = .ref a ∧ H a = none ∧ OwnAt P w H' (fun b => (O b ∧ ¬ B b) ∨ b = a) a r0.2) : Post P w H O H' v r := by
  simp only [backOf] at h
  split at h
  · cases h
  · rename_i hc
    cases h
    have hr : Rp P w H' O r0.2 v := by
      by_cases hl : lent rs = true
      · rw [hl] at hc
        simp only [Bool.true_and, Bool.not_eq_true', Bool.not_eq_false] at hc
        obtain ⟨b, d⟩ := r0
        by_cases hp : pur d = true
        · exact Rp.pure ht hp q
        · cases b with
          | false => simp only [apart] at hc; exact absurd hc hp
          | true =>
            cases d with
            | list xs =>
              simp only [apart] at hc
              obtain ⟨a, e, n, _⟩ := hf rfl
              subst e
              cases q with
              | lst n1 e1 s1 => exact .lst (hO a n) e1 (Rps.pure ht hc s1)
            | _ => simp only [apart] at hc; exact absurd hc hp
      · exact q.weak fun a z => ⟨z, hB (by simpa using hl) a⟩
    refine ⟨hr.b, fun _ => hr, fun e => ?_⟩
    by_cases hb : r0.1 = true
    · obtain ⟨a, e1, n1, st⟩ := hf hb
      refine ⟨a, e1, n1, ?_⟩
      by_cases hl : lent rs = true
      · rw [hl] at hc
        simp only [Bool.true_and, Bool.not_eq_true', Bool.not_eq_false] at hc
        obtain ⟨b, d⟩ := r0
        cases hb
        cases d with
        | list xs =>
          simp only [apart] at hc
          obtain ⟨vs, e2, q2⟩ := st
          refine ⟨vs, e2, Rps.pure (fun b zs e z => ?_) hc q2⟩
          rcases z with z | z
          · exact ht b zs e z
          · rw [z, e2] at e; cases e
        | dict xs => simp [apart, pur] at hc
        | _ => exact st.elim
      · exact st.go (fun _ e => e) (fun _ _ e _ => e) fun b _ _ n z => n (z.elim (fun z => .inl ⟨z, hB (by simpa using hl) b⟩) .inr)
    · have e2 : (if r0.1 = true then Tag.fr else Tag.im) = .im := if_neg hb
      have e3 : (if r0.1 = true then Tag.fr else Tag.im) = .fr := e
      rw [e2] at e3
      cases e3
theorem lent_none {rs : List (Tag × D)} {vs : List V} (h : lent rs = false) (a : Addr) : ¬ lentA rs vs a := fun ⟨i, d, h1, _⟩ => by
  have m := List.mem_of_getElem? h1
  have : lent rs = true := List.any_eq_true.mpr ⟨_, m, by simp⟩
  rw [h] at this
  cases this
theorem se_call (G : Gx F X N sc fns cs) {x : Str} {f : Nat} {e : Expr} {es : List Expr} {is : List Ex} {p pos : Pos} (ha : SL F X (e :: es) is) (hf : fns.lookup f = some x := by rfl) (hg : sc.names.lookup x = some .globalImplicit := by rfl)
    (hdb : (x == ("__debug__" : Str)) = false := by decide) (he : starEach (e :: es) X.env = (false, eval e X.env) :: starEach es X.env := by rfl) (hpl : (backTo pos (starEach es X.env)).any (·.1) = false := by rfl) :
    SE F X (.Call (.Name x p) (e :: es) [] pos) (.call f is) := by
  obtain ⟨fa, fd, ps, k, ok, hr, hm, hk, hb⟩ := G.call f x hf
  refine (pe_call (E := fun _ _ _ => False) ok hr (show X.env.kindOf x = some .globalImplicit by unfold Env.kindOf; rw [G.hsc]; exact hg) hm hk hb .nil pass0 ha hdb he hpl).of fun σ H Q ⟨Of, ρ, r, E, h, kq⟩ => ?_
  simp only [ev] at h
  split at h
  · rename_i rs hrs
    refine ⟨Of, ρ, rs, E, hrs, fun vs H1 s1 q1 => ?_⟩
    cases hF : F f (rs.map (·.2)) with
    | none => rw [hF] at h; cases h
    | some r0 =>
      rw [hF] at h
      rw [List.append_nil]
      have E1 := E.same s1
      refine ⟨fun a => Ow Of ρ σ a ∧ ¬ lentA rs vs a, _, r0, fun a z => ?_, lend q1 _ fun a z => z, hF, fun v H2 s2 q2 f2 => ?_⟩
      · obtain ⟨o, ho⟩ := E1.alive z.1
        refine ⟨o, ho, fun xs e => ?_⟩
        subst e
        exact E1.tups a xs ho z.1
      · exact kq _ _ (s1.trans s2) ((call_res (fun p hp => E1.fresh hp) (fun a xs e => (E1.same s2).tups a xs e) h _ (fun hl a => lent_none hl a) q2 f2).from s1)
  · cases h
end
end Rk

/-! The insertion sort is the sort. -/
set_option autoImplicit false
set_option linter.all false
namespace Rk
open PySem PySem.W PyProof.Rows

abbrev leD : D → D → Bool := dataLe false (fun d : D => d)
theorem leD_eq (a b : D) : leD a b = !dataLt b a := rfl
theorem leD_total : TotalLe leD := sortLe_total _ _ _
theorem insD_mem {x y : D} : ∀ {l : List D}, y ∈ insD x l ↔ y = x ∨ y ∈ l
  | [] => by simp [insD]
  | z :: r => by
    unfold insD
    split
    · rw [List.mem_cons, insD_mem (l := r), List.mem_cons]
      constructor
      · rintro (h | h | h)
        · exact .inr (.inl h)
        · exact .inl h
        · exact .inr (.inr h)
      · rintro (h | h | h)
        · exact .inr (.inl h)
        · exact .inl h
        · exact .inr (.inr h)
    · simp
theorem insD_sorted {x : D} : ∀ {l : List D}, l.Pairwise (fun a b => leD a b = true) → (insD x l).Pairwise (fun a b => leD a b = true)
  | [], _ => by simp [insD]
  | z :: r, h => by
    rw [List.pairwise_cons] at h
    unfold insD
    split
    · rename_i hz
      rw [List.pairwise_cons]
      refine ⟨fun y hy => ?_, insD_sorted h.2⟩
      rcases insD_mem.mp hy with e | e
      · subst e
        rcases leD_total.total z y with q | q
        · exact q
        · rw [leD_eq, hz] at q
          cases q
      · exact h.1 y e
    · rename_i hz
      have hxz : leD x z = true := by rw [leD_eq]; simpa using hz
      rw [List.pairwise_cons, List.pairwise_cons]
      refine ⟨fun y hy => ?_, h.1, h.2⟩
      rcases List.mem_cons.mp hy with e | e
      · rw [e]; exact hxz
      · exact leD_total.trans _ _ _ hxz (h.1 y e)
theorem insD_filter {x c : D} : ∀ {l : List D}, (insD x l).filter (sameRank leD c) = (x :: l).filter (sameRank leD c)
  | [] => rfl
  | z :: r => by
    unfold insD
    split
    · rename_i hz
      rw [List.filter_cons, insD_filter (l := r)]
      by_cases hx : sameRank leD c x = true
      · have hnz : ¬ sameRank leD c z = true := fun q => by
          unfold sameRank at hx q
          rw [Bool.and_eq_true] at hx q
          have : leD x z = true := leD_total.trans _ _ _ hx.2 q.1
          rw [leD_eq, hz] at this
          cases this
        rw [if_neg hnz]
        simp [List.filter_cons, hx, hnz]
      · simp [List.filter_cons, hx]
    · rfl
theorem isort_sorted : ∀ l : List D, (isort l).Pairwise (fun a b => leD a b = true)
  | [] => .nil
  | x :: r => insD_sorted (isort_sorted r)
theorem isort_filter (c : D) : ∀ l : List D, (isort l).filter (sameRank leD c) = l.filter (sameRank leD c)
  | [] => rfl
  | x :: r => by
    show (insD x (isort r)).filter _ = _
    rw [insD_filter, List.filter_cons, List.filter_cons, isort_filter c r]
theorem isort_eq (l : List D) : isort l = l.mergeSort leD := sort_unique leD_total (isort_sorted l) fun c => isort_filter c l
theorem isort_perm (l : List D) : (isort l).Perm l := by rw [isort_eq]; exact List.mergeSort_perm l leD
theorem isort_length (l : List D) : (isort l).length = l.length := (isort_perm l).length_eq
theorem isort_mem {l : List D} {d : D} : d ∈ isort l ↔ d ∈ l := (isort_perm l).mem_iff
/-- sorting pairs by their first -/
theorem sort_pairs {β : Type} (ps : List (D × β)) : (ps.mergeSort (dataLe false (·.1))).map (·.1) = isort (ps.map (·.1)) := by
  rw [isort_eq]
  exact sort_maps (r := dataLe false fun p : D × β => p.1) (s := leD) (fun p : D × β => p.1) fun a _ b _ => rfl
end Rk

/-! Built-in functions. -/
set_option autoImplicit false
set_option linter.all false
set_option maxRecDepth 100000
namespace Rk
open PySem PySem.Spec PyProof.Rows L2

/-- a built-in by data -/
def rBl (P : Program) (w : World) (b : Bl) : List V → Hp → VK → Prop := fun xs H Q => ∃ O ds r, (∀ p, H p = none → ¬ O p) ∧ Paired (fun d v => RpB P w H O d v) ds xs ∧ bltD b ds = some r ∧
  ∀ v H', Same H H' → Post P w H O H' v r → Q v H'
theorem paired_b {P : Program} {w : World} {H0 H : Hp} {O : Addr → Prop} : ∀ {rs : List (Tag × D)} {vs : List V}, Paired (fun r v => Post P w H0 O H v r) rs vs → Paired (fun d v => RpB P w H O d v) (rs.map (·.2)) vs
  | _, _, .nil => .nil
  | _, _, .cons h t => .cons h.1 (paired_b t)

section
variable {F : FT} {X : Cx} {N : List Str} {sc : Scope} {fns : List (Nat × Str)} {cs : List (Str × D)}
theorem blt_of {b : Bl} {is : List Ex} {σ : L2.St} {H : Hp} {Q : VK} (h : tI X.prog X.w F (.blt b is) σ H Q) : tL X.prog X.w F is σ H fun xs H1 => rBl X.prog X.w b xs H1 Q := by
  obtain ⟨Of, ρ, r, E, h, k⟩ := h
  simp only [ev] at h
  split at h
  · rename_i rs hrs
    exact ⟨Of, ρ, rs, E, hrs, fun vs H1 s1 q1 => ⟨Ow Of ρ σ, _, r, fun p hp => (E.same s1).fresh hp, paired_b q1, h, fun v H2 s2 p2 => k _ _ (s1.trans s2) (p2.from s1)⟩⟩
  · cases h
theorem se_bF (G : Gx F X N sc fns cs) {x : Str} {id : String} {b : Bl} {e : Expr} {es : List Expr} {is : List Ex} {p pos : Pos} (hc : CallR X (.builtin id) (rBl X.prog X.w b)) (ha : SL F X (e :: es) is) (hm : x ∈ bltNames) (hv : bootBuiltins x = some (.builtin id)) (hg : sc.names.lookup x = some .globalImplicit := by rfl)
    (hn : x ≠ "__name__" := by decide) (hdb : (x == ("__debug__" : Str)) = false := by decide) (he : starEach (e :: es) X.env = (false, eval e X.env) :: starEach es X.env := by rfl) (hpl : (backTo pos (starEach es X.env)).any (·.1) = false := by rfl) :
    SE F X (.Call (.Name x p) (e :: es) [] pos) (.blt b is) :=
  (pe_callB hc (show X.env.kindOf x = some .globalImplicit by unfold Env.kindOf; rw [G.hsc]; exact hg) (G.blt x hm) hv ha hn hdb he hpl).of fun σ H Q h => blt_of h
theorem se_bT (G : Gx F X N sc fns cs) {x : Str} {T : String} {b : Bl} {e : Expr} {es : List Expr} {is : List Ex} {p pos : Pos} (hc : CallR X (.type T) (rBl X.prog X.w b)) (ha : SL F X (e :: es) is) (hm : x ∈ bltNames) (hv : bootBuiltins x = some (.type T)) (hg : sc.names.lookup x = some .globalImplicit := by rfl)
    (hn : x ≠ "__name__" := by decide) (hdb : (x == ("__debug__" : Str)) = false := by decide) (he : starEach (e :: es) X.env = (false, eval e X.env) :: starEach es X.env := by rfl) (hpl : (backTo pos (starEach es X.env)).any (·.1) = false := by rfl) :
    SE F X (.Call (.Name x p) (e :: es) [] pos) (.blt b is) :=
  (pe_callTy hc (show X.env.kindOf x = some .globalImplicit by unfold Env.kindOf; rw [G.hsc]; exact hg) (G.blt x hm) hv ha hn hdb he hpl).of fun σ H Q h => blt_of h

theorem pair1 {α β : Type} {R : α → β → Prop} {a : α} {ys : List β} (h : Paired R [a] ys) : ∃ y, ys = [y] ∧ R a y := by
  cases h with
  | cons h t => cases t; exact ⟨_, rfl, h⟩
theorem pair2 {α β : Type} {R : α → β → Prop} {a b : α} {ys : List β} (h : Paired R [a, b] ys) : ∃ y z, ys = [y, z] ∧ R a y ∧ R b z := by
  cases h with
  | cons h t => obtain ⟨z, rfl, q⟩ := pair1 t; exact ⟨_, z, rfl, h, q⟩

/-! ### len -/
theorem cr_len : CallR X (.builtin "len") (rBl X.prog X.w .len) := by
  intro pins s σ H xs us Q I r h
  obtain ⟨O, ds, res, hO, hp, hb, k⟩ := h
  obtain ⟨d, rfl⟩ : ∃ d, ds = [d] := by
    cases ds with
    | nil => simp [bltD] at hb
    | cons a t => cases t with
      | nil => exact ⟨_, rfl⟩
      | cons _ _ => simp [bltD] at hb
  obtain ⟨v, rfl, hd⟩ := pair1 hp
  simp only [bltD] at hb
  obtain ⟨n, hn, rfl⟩ := Option.map_eq_some_iff.mp hb
  cases d with
  | list ys =>
    obtain ⟨a, vs, rfl, e, q⟩ := hd
    simp only [lenD, Option.some.injEq] at hn
    subst hn
    exact call_len_seq pins s σ H _ us Q I r ⟨a, vs, rfl, .inl (.inl e), by rw [← q.length]; exact k _ _ (Same.refl H) (.im (.int _))⟩
  | tuple ys =>
    cases hd with
    | @tup a vs _ na e q =>
      simp only [lenD, Option.some.injEq] at hn
      subst hn
      exact call_len_seq pins s σ H _ us Q I r ⟨a, vs, rfl, .inr (SqT.of e), by rw [← q.length]; exact k _ _ (Same.refl H) (.im (.int _))⟩
  | str z =>
    cases hd
    simp only [lenD] at hn
    split at hn
    · rename_i hf
      cases hn
      exact call_len_str pins s σ H _ us Q I r ⟨z, rfl, Nat.le_of_lt (fits_le hf), k _ _ (Same.refl H) (.im (.int _))⟩
    · cases hn
  | dict kvs =>
    simp only [lenD] at hn
    split at hn
    · rename_i hc
      cases hn
      simp only [Bool.and_eq_true] at hc
      obtain ⟨pd, es, rfl, hs', hH, re, nd⟩ := hd.dictT hc.1
      obtain ⟨xs, hx, hp'⟩ := Inv.dictOf I hH re nd
      have hz := fits_le hc.2
      rw [sizeLine_eq] at hz
      rw [Vals.ref1 r]
      have l1 : (pairsH xs).length = kvs.length := by
        rw [pairsH_length]
        have e1 := Paired.length hp'
        have e2 : kvs.length = es.length := rpe_len re
        omega
      refine call_len_slot (n := ((pairsH xs).length : Int)) hx.typeIs PySem.F.slot_dict_len (fun Q' hq => len_keyed hs' ⟨xs, hx, rfl⟩ hq) (by omega) (by omega) ?_
      rw [l1]
      exact ⟨.int _, H, (I.tok _).tok _, ⟨_, rfl⟩, k _ _ (Same.refl H) (.im (.int _))⟩
    · cases hn
  | _ => simp [lenD] at hn
where
  rpe_len {P : Program} {w : World} {H : Hp} {O : Addr → Prop} : ∀ {kvs : List (D × D)} {es : List (NestedKey × Addr × V)}, Rpe P w H O kvs es → kvs.length = es.length
  | _, _, .nil => rfl
  | _, _, .cons _ _ _ t => by simp [rpe_len t]

/-! ### list, tuple, all, any, max, min, int -/
theorem cr_list : CallR X (.type "list") (rBl X.prog X.w .list) := by
  intro pins s σ H xs us Q I r h
  obtain ⟨O, ds, res, hO, hp, hb, k⟩ := h
  cases ds with
  | nil => simp [bltD] at hb
  | cons d t => cases t with
    | cons _ _ => simp [bltD] at hb
    | nil =>
      obtain ⟨v, rfl, hd⟩ := pair1 hp
      cases d with
      | list ys =>
        obtain ⟨a, vs, rfl, e, q⟩ := hd
        simp only [bltD, Option.some.injEq] at hb
        subst hb
        exact call_list_of pins s σ H _ us Q I r ⟨a, vs, rfl, .inl (.inl e), fun l hl => k _ _ (same_new hl) (.newL q hl (hO l hl) (Same.refl _))⟩
      | tuple ys =>
        cases hd with
        | @tup a vs _ na e q =>
          simp only [bltD, Option.some.injEq] at hb
          subst hb
          exact call_list_of pins s σ H _ us Q I r ⟨a, vs, rfl, .inr (SqT.of e), fun l hl => k _ _ (same_new hl) (.newL q hl (hO l hl) (Same.refl _))⟩
      | _ => simp [bltD] at hb
theorem cr_tuple : CallR X (.type "tuple") (rBl X.prog X.w .tuple) := by
  intro pins s σ H xs us Q I r h
  obtain ⟨O, ds, res, hO, hp, hb, k⟩ := h
  cases ds with
  | nil => simp [bltD] at hb
  | cons d t => cases t with
    | cons _ _ => simp [bltD] at hb
    | nil =>
      obtain ⟨v, rfl, hd⟩ := pair1 hp
      cases d with
      | list ys =>
        obtain ⟨a, vs, rfl, e, q⟩ := hd
        simp only [bltD, Option.some.injEq] at hb
        subst hb
        exact call_tuple_of pins s σ H _ us Q I r ⟨a, vs, rfl, .inl ⟨.inl e, fun l hl => k _ _ (same_new hl) (.im (.tup (hO l hl) upd_same (q.same (same_new hl))))⟩⟩
      | tuple ys =>
        cases hd with
        | @tup a vs _ na e q =>
          simp only [bltD, Option.some.injEq] at hb
          subst hb
          exact call_tuple_of pins s σ H _ us Q I r ⟨a, vs, rfl, .inr ⟨SqT.of e, k _ _ (Same.refl H) (.im (.tup na e q))⟩⟩
      | _ => simp [bltD] at hb
theorem bools_rps {P : Program} {w : World} {H : Hp} {O : Addr → Prop} : ∀ {ds : List D} {vs : List V} {bs : List Bool}, boolsOf ds = some bs → Rps P w H O ds vs → vs = bs.map V.bl
  | [], _, _, h, r => by simp only [boolsOf, Option.some.injEq] at h; subst h; cases r; rfl
  | d :: ds, _, bs, h, r => by
    cases d with
    | bool b =>
      simp only [boolsOf] at h
      obtain ⟨bs', h1, rfl⟩ := Option.map_eq_some_iff.mp h
      cases r with
      | cons r1 r2 =>
        cases r1
        rw [List.map_cons, ← bools_rps h1 r2]
    | _ => simp [boolsOf] at h
theorem cr_allD (hc : X.calm = true) : CallR X (.builtin "all") (rBl X.prog X.w .all) := by
  intro pins s σ H xs us Q I r h
  obtain ⟨O, ds, res, hO, hp, hb, k⟩ := h
  cases ds with
  | nil => simp [bltD] at hb
  | cons d t => cases t with
    | cons _ _ => cases d <;> simp [bltD] at hb
    | nil =>
      obtain ⟨v, rfl, hd⟩ := pair1 hp
      cases d with
      | list ys =>
        obtain ⟨a, vs, rfl, e, q⟩ := hd
        simp only [bltD] at hb
        obtain ⟨bs, h1, rfl⟩ := Option.map_eq_some_iff.mp hb
        exact cr_all hc pins s σ H _ us Q I r ⟨a, bs, rfl, .inl (by rw [← bools_rps h1 q]; exact e), k _ _ (Same.refl H) (.im (.bl _))⟩
      | _ => simp [bltD] at hb
theorem cr_anyD (hc : X.calm = true) : CallR X (.builtin "any") (rBl X.prog X.w .any) := by
  intro pins s σ H xs us Q I r h
  obtain ⟨O, ds, res, hO, hp, hb, k⟩ := h
  cases ds with
  | nil => simp [bltD] at hb
  | cons d t => cases t with
    | cons _ _ => cases d <;> simp [bltD] at hb
    | nil =>
      obtain ⟨v, rfl, hd⟩ := pair1 hp
      cases d with
      | list ys =>
        obtain ⟨a, vs, rfl, e, q⟩ := hd
        simp only [bltD] at hb
        obtain ⟨bs, h1, rfl⟩ := Option.map_eq_some_iff.mp hb
        exact cr_any hc pins s σ H _ us Q I r ⟨a, bs, rfl, .inl (by rw [← bools_rps h1 q]; exact e), k _ _ (Same.refl H) (.im (.bl _))⟩
      | _ => simp [bltD] at hb
theorem two_ints {b : Bl} {f : Int → Int → D} {ds : List D} {r : Tag × D} (h : bltD b ds = some r) (hb : b = .max2 ∨ b = .min2) : ∃ i j, ds = [.int i, .int j] := by
  rcases hb with rfl | rfl
  all_goals
    cases ds with
    | nil => simp [bltD] at h
    | cons d t => cases t with
      | nil => cases d <;> simp [bltD] at h
      | cons e u => cases u with
        | nil => cases d <;> cases e <;> simp [bltD] at h; exact ⟨_, _, rfl⟩
        | cons _ _ => cases d <;> cases e <;> simp [bltD] at h
theorem cr_max2 (hc : X.calm = true) : CallR X (.builtin "max") (rBl X.prog X.w .max2) := by
  intro pins s σ H xs us Q I r h
  obtain ⟨O, ds, res, hO, hp, hb, k⟩ := h
  obtain ⟨i, j, rfl⟩ := two_ints (f := fun _ _ => .none) hb (.inl rfl)
  obtain ⟨y, z, rfl, h1, h2⟩ := pair2 hp
  cases h1; cases h2
  simp only [bltD, Option.some.injEq] at hb
  subst hb
  exact call_max2 hc pins s σ H _ us Q I r ⟨i, j, rfl, k _ _ (Same.refl H) (.im (.int _))⟩
theorem cr_min2 (hc : X.calm = true) : CallR X (.builtin "min") (rBl X.prog X.w .min2) := by
  intro pins s σ H xs us Q I r h
  obtain ⟨O, ds, res, hO, hp, hb, k⟩ := h
  obtain ⟨i, j, rfl⟩ := two_ints (f := fun _ _ => .none) hb (.inr rfl)
  obtain ⟨y, z, rfl, h1, h2⟩ := pair2 hp
  cases h1; cases h2
  simp only [bltD, Option.some.injEq] at hb
  subst hb
  exact call_min2 hc pins s σ H _ us Q I r ⟨i, j, rfl, k _ _ (Same.refl H) (.im (.int _))⟩
theorem cr_int : CallR X (.type "int") (rBl X.prog X.w .int) := by
  intro pins s σ H xs us Q I r h
  obtain ⟨O, ds, res, hO, hp, hb, k⟩ := h
  cases ds with
  | nil => simp [bltD] at hb
  | cons d t => cases t with
    | cons _ _ => cases d <;> simp [bltD] at hb
    | nil =>
      obtain ⟨v, rfl, hd⟩ := pair1 hp
      cases d with
      | int i =>
        cases hd
        simp only [bltD, Option.some.injEq] at hb
        subst hb
        obtain ⟨u, rfl, t, rfl⟩ := vals1 r
        exact call_int_int ⟨.int i, H, I, ⟨_, rfl⟩, k _ _ (Same.refl H) (.im (.int _))⟩
      | _ => simp [bltD] at hb

/-! ### sorted, of a list -/
theorem each_rp {P : Program} {w : World} {H : Hp} {O : Addr → Prop} : ∀ {ds : List D} {vs : List V} {us : List Value}, Rps P w H O ds vs → Vals vs us → PySem.W.EachIs (fun u (p : D × V) => RelV p.2 u ∧ Rp P w H O p.1 p.2) us (ds.zip vs)
  | _, _, _, .nil, .nil => .nil
  | _, _, _, .cons a b, .cons c d => .cons ⟨c, a⟩ (each_rp b d)
theorem rps_zip {P : Program} {w : World} {H : Hp} {O : Addr → Prop} : ∀ {ds : List D} {vs : List V}, Rps P w H O ds vs → (ds.zip vs).map (·.1) = ds
  | _, _, .nil => rfl
  | _, _, .cons _ t => by rw [List.zip_cons_cons, List.map_cons, rps_zip t]
theorem each_out {P : Program} {w : World} {H : Hp} {O : Addr → Prop} : ∀ {us : List Value} {ps : List (D × V)}, PySem.W.EachIs (fun u (p : D × V) => RelV p.2 u ∧ Rp P w H O p.1 p.2) us ps → Vals (ps.map (·.2)) us ∧ Rps P w H O (ps.map (·.1)) (ps.map (·.2))
  | _, _, .nil => ⟨.nil, .nil⟩
  | _, _, .cons h t => ⟨.cons h.1 (each_out t).1, .cons h.2 (each_out t).2⟩
theorem sortable_parts {ds : List D} (h : sortable ds = true) : PySem.W.AllAlike ds ∧ PySem.W.Sortable ds ∧ (∀ d ∈ ds, d.depth ≤ 100) ∧ ds.length < sizeLine ∧ PyData.plainAll ds = true := by
  simp only [sortable, Bool.and_eq_true, List.all_eq_true, Bool.or_eq_true, decide_eq_true_eq] at h
  refine ⟨fun d hd d' hd' => h.1.1.1.1 d hd d' hd', ?_, h.1.1.2, fits_le h.1.2, h.2⟩
  rcases h.1.1.1.2 with q | q
  · refine .inl fun d hd => ?_
    have z := q d hd
    cases d with
    | tuple xs => cases xs with
      | nil => simp [hdOk] at z
      | cons x r => exact ⟨x, r, rfl⟩
    | _ => simp [hdOk] at z
  · refine .inr fun d hd => ?_
    have z := q d hd
    cases d <;> simp [notNT] at z <;> exact ⟨(fun e => by cases e), fun xs e => by cases e⟩
/-- sorted of what is a list of values -/
theorem sort_run {pins : List (Addr × Obj)} {s : Shared} {σ : L2.St} {H : Hp} {Q : VK} {O : Addr → Prop} {a : Addr} {its : List Value} {vs : List V} {ds : List D} (hu : X.A.units + 200 < cLine) (I : Inv X pins σ H s) (hl : s.heap.IsList a its.toArray)
    (q : Rps X.prog X.w H O ds vs) (rv : Vals vs its) (hs : sortable ds = true) (hO : ∀ p, H p = none → ¬ O p) (k : ∀ v H', Same H H' → Post X.prog X.w H O H' v (.fr, .list (isort ds)) → Q v H') :
    wpAny (model X.prog X.w) X.A (call (.builtin "sorted") [.ref a]) (EP X pins σ Q) X.xe s := by
  obtain ⟨h1, h2, h3, h4, h5⟩ := sortable_parts hs
  have e0 := rps_zip q
  have ee := each_rp q rv
  obtain ⟨as, hr⟩ := Rps.reads I h5 q rv
  have er : PySem.W.EachIs (fun v (b : D × V) => ∃ as, Reads s.heap v b.1 as) its (ds.zip vs) := PySem.W.readsAll_each (fun p : D × V => p.1) (by rw [e0]; exact hr)
  have hlen : (ds.zip vs).length = ds.length := by
    rw [← List.length_map (f := (·.1)), e0]
  refine PySem.W.sorted_data (bs := ds.zip vs) (enc := fun p : D × V => p.1) hl ee er (by rw [e0]; exact h1) (by rw [e0]; exact h2) (by rw [hlen]; exact Nat.le_of_lt h4) (fun b hb => ?_) fun out hlo ho => ?_
  · have : b.1 ∈ ds := by rw [← e0]; exact List.mem_map.mpr ⟨b, hb, rfl⟩
    have := h3 _ this
    omega
  · obtain ⟨o1, o2⟩ := each_out ho
    rw [sort_pairs, e0] at o2
    obtain ⟨ep, he'⟩ := PyProof.Rows.sortedAll_at s.heap its out.toArray
    have hp : H (s.heap.objs.size + 1) = none := I.hok.fresh (Nat.le_succ _)
    refine ⟨.ref _, upd H (s.heap.objs.size + 1) (.lst _), I.laid (t' := s.toks) (fun _ _ => PyProof.Rows.sortedAll_old) (Nat.le_succ _) ⟨?_, out, ep, o1, he'⟩, rfl, k _ _ (same_new hp) (.newL o2 hp (hO _ hp) (Same.refl _))⟩
    rw [← o2.length, isort_length]
    exact Nat.le_of_lt h4
theorem cr_sortL (hu : X.A.units + 200 < cLine) {pins : List (Addr × Obj)} {s : Shared} {σ : L2.St} {H : Hp} {us : List Value} {Q : VK} {O : Addr → Prop} {ys : List D} {v : V} (I : Inv X pins σ H s) (r : Vals [v] us) (hd : RpB X.prog X.w H O (.list ys) v)
    (hs : sortable ys = true) (hO : ∀ p, H p = none → ¬ O p) (k : ∀ v H', Same H H' → Post X.prog X.w H O H' v (.fr, .list (isort ys)) → Q v H') : wpAny (model X.prog X.w) X.A (call (.builtin "sorted") us) (EP X pins σ Q) X.xe s := by
  obtain ⟨a, vs, rfl, e, q⟩ := hd
  obtain ⟨its, rv, hl, _⟩ := I.list (.inl e)
  rw [Vals.ref1 r]
  exact sort_run hu I hl.isList q rv hs hO k

/-! ### isinstance -/
/-- isinstance(e, T) with a written class -/
theorem se_isi (G : Gx F X N sc fns cs) {b : Bl} {T : Str} {t : String} {e : Expr} {i : Ex} {p p2 pos : Pos} (rule : ∀ (d : D) (u : Value) (as : List Addr) (s : Shared) (Q : Value → Shared → Prop) (E : Value → Shared → Prop), Reads s.heap u d as → (∀ r, bltD b [d] = some r → ∃ k, r = (.im, .bool k) ∧ ((∀ tk, s.toks ≤ tk → Q (.bool k) { s with toks := tk }) → wpAny (model X.prog X.w) X.A (call (.builtin "isinstance") [u, .type t]) Q E s)))
    (hb : ∀ d r, bltD b [d] = some r → d.plain = true) (he : SE F X e i) (hT : T ∈ bltNames) (hv : bootBuiltins T = some (.type t)) (hg : sc.names.lookup ("isinstance" : Str) = some .globalImplicit := by rfl) (hg2 : sc.names.lookup T = some .globalImplicit := by rfl)
    (hn : T ≠ "__name__" := by decide) (hdb : (T == ("__debug__" : Str)) = false := by decide) (hs : starEach [e, .Name T p2] X.env = (false, eval e X.env) :: starEach [.Name T p2] X.env := by rfl) (hpl : (backTo pos (starEach [.Name T p2] X.env)).any (·.1) = false := by rfl) :
    SE F X (.Call (.Name "isinstance" p) [e, .Name T p2] [] pos) (.blt b [i]) := by
  have hty : PE X (.Name T p2) (tC (.ty t)) := pe_bltn (v := .ty t) (show X.env.kindOf T = some .globalImplicit by unfold Env.kindOf; rw [G.hsc]; exact hg2) (G.blt T hT) hv rfl hn hdb
  have hc : CallR X (.builtin "isinstance") (fun xs H Q => ∃ v, xs = [v, .ty t] ∧ rBl X.prog X.w b [v] H Q) := by
    intro pins s σ H xs us Q I r h
    obtain ⟨v, rfl, O, ds, res, hO, hp, hb', k⟩ := h
    cases hp with
    | @cons d _ ds' _ h1 h2 =>
      cases h2
      obtain ⟨u1, u2, rfl, r1, r2⟩ := Vals.two r
      obtain rfl : u2 = Value.type t := r2
      obtain ⟨as, rd⟩ := h1.reads I (hb d res hb') r1
      obtain ⟨kk, rfl, go⟩ := rule d u1 as s _ X.xe rd res hb'
      exact go fun tk _ => ⟨.bl kk, H, I.tok _, rfl, k _ _ (Same.refl H) (.im (.bl _))⟩
  refine (pe_callB hc (show X.env.kindOf ("isinstance" : Str) = some .globalImplicit by unfold Env.kindOf; rw [G.hsc]; exact hg) (G.blt _ (by decide)) (by decide +kernel) (pa_cons he (pa_cons hty pa_nil) hs) (by decide) (by decide) hs hpl).of fun σ H Q h => ?_
  obtain ⟨Of, ρ, rs, E, hrs, kk⟩ := blt_of h
  simp only [evL] at hrs
  split at hrs
  · rename_i x hx
    simp only [Option.map_some, Option.some.injEq] at hrs
    subst hrs
    exact ⟨Of, ρ, x, E, hx, fun v H1 s1 p1 => ⟨v, rfl, kk [v] H1 s1 (.cons p1 .nil)⟩⟩
  · cases hrs
theorem isi_rule {b : Bl} {f : D → Bool} {t : String} (hb : ∀ d, bltD b [d] = if d.plain then some (.im, .bool (f d)) else none)
    (rule : ∀ (d : D) (u : Value) (as : List Addr) (s : Shared) (Q : Value → Shared → Prop) (E : Value → Shared → Prop), Reads s.heap u d as → (∀ tk, s.toks ≤ tk → Q (.bool (f d)) { s with toks := tk }) → wpAny (model X.prog X.w) X.A (call (.builtin "isinstance") [u, .type t]) Q E s) :
    ∀ (d : D) (u : Value) (as : List Addr) (s : Shared) (Q : Value → Shared → Prop) (E : Value → Shared → Prop), Reads s.heap u d as → (∀ r, bltD b [d] = some r → ∃ k, r = (.im, .bool k) ∧ ((∀ tk, s.toks ≤ tk → Q (.bool k) { s with toks := tk }) → wpAny (model X.prog X.w) X.A (call (.builtin "isinstance") [u, .type t]) Q E s)) := by
  intro d u as s Q E rd r h
  rw [hb] at h
  split at h
  · cases h
    exact ⟨_, rfl, fun q => rule d u as s Q E rd q⟩
  · cases h
theorem isi_plain {b : Bl} {f : D → Bool} (hb : ∀ d, bltD b [d] = if d.plain then some (.im, .bool (f d)) else none) : ∀ d r, bltD b [d] = some r → d.plain = true := by
  intro d r h
  rw [hb] at h
  split at h
  · assumption
  · cases h
theorem se_isInt (G : Gx F X N sc fns cs) {e : Expr} {i : Ex} {p p2 pos : Pos} (he : SE F X e i) (hg : sc.names.lookup ("isinstance" : Str) = some .globalImplicit := by rfl) (hg2 : sc.names.lookup ("int" : Str) = some .globalImplicit := by rfl)
    (hs : starEach [e, .Name "int" p2] X.env = (false, eval e X.env) :: starEach [.Name "int" p2] X.env := by rfl) : SE F X (.Call (.Name "isinstance" p) [e, .Name "int" p2] [] pos) (.blt .isInt [i]) :=
  se_isi G (t := "int") (isi_rule (fun _ => rfl) fun d u as s Q E rd q => PySem.W.isinstance_int_data rd q) (isi_plain fun _ => rfl) he (by decide) (by decide +kernel) hg hg2 (by decide) (by decide) hs rfl
theorem se_isBool (G : Gx F X N sc fns cs) {e : Expr} {i : Ex} {p p2 pos : Pos} (he : SE F X e i) (hg : sc.names.lookup ("isinstance" : Str) = some .globalImplicit := by rfl) (hg2 : sc.names.lookup ("bool" : Str) = some .globalImplicit := by rfl)
    (hs : starEach [e, .Name "bool" p2] X.env = (false, eval e X.env) :: starEach [.Name "bool" p2] X.env := by rfl) : SE F X (.Call (.Name "isinstance" p) [e, .Name "bool" p2] [] pos) (.blt .isBool [i]) :=
  se_isi G (t := "bool") (isi_rule (fun _ => rfl) fun d u as s Q E rd q => PySem.W.isinstance_bool_data rd q) (isi_plain fun _ => rfl) he (by decide) (by decide +kernel) hg hg2 (by decide) (by decide) hs rfl
theorem se_isStr (G : Gx F X N sc fns cs) {e : Expr} {i : Ex} {p p2 pos : Pos} (he : SE F X e i) (hg : sc.names.lookup ("isinstance" : Str) = some .globalImplicit := by rfl) (hg2 : sc.names.lookup ("str" : Str) = some .globalImplicit := by rfl)
    (hs : starEach [e, .Name "str" p2] X.env = (false, eval e X.env) :: starEach [.Name "str" p2] X.env := by rfl) : SE F X (.Call (.Name "isinstance" p) [e, .Name "str" p2] [] pos) (.blt .isStr [i]) :=
  se_isi G (t := "str") (isi_rule (fun _ => rfl) fun d u as s Q E rd q => PySem.W.isinstance_str_data rd q) (isi_plain fun _ => rfl) he (by decide) (by decide +kernel) hg hg2 (by decide) (by decide) hs rfl
theorem se_isTuple (G : Gx F X N sc fns cs) {e : Expr} {i : Ex} {p p2 pos : Pos} (he : SE F X e i) (hg : sc.names.lookup ("isinstance" : Str) = some .globalImplicit := by rfl) (hg2 : sc.names.lookup ("tuple" : Str) = some .globalImplicit := by rfl)
    (hs : starEach [e, .Name "tuple" p2] X.env = (false, eval e X.env) :: starEach [.Name "tuple" p2] X.env := by rfl) : SE F X (.Call (.Name "isinstance" p) [e, .Name "tuple" p2] [] pos) (.blt .isTuple [i]) :=
  se_isi G (t := "tuple") (isi_rule (fun _ => rfl) fun d u as s Q E rd q => PySem.W.isinstance_tuple_data rd q) (isi_plain fun _ => rfl) he (by decide) (by decide +kernel) hg hg2 (by decide) (by decide) hs rfl
theorem se_isList (G : Gx F X N sc fns cs) {e : Expr} {i : Ex} {p p2 pos : Pos} (he : SE F X e i) (hg : sc.names.lookup ("isinstance" : Str) = some .globalImplicit := by rfl) (hg2 : sc.names.lookup ("list" : Str) = some .globalImplicit := by rfl)
    (hs : starEach [e, .Name "list" p2] X.env = (false, eval e X.env) :: starEach [.Name "list" p2] X.env := by rfl) : SE F X (.Call (.Name "isinstance" p) [e, .Name "list" p2] [] pos) (.blt .isList [i]) :=
  se_isi G (t := "list") (isi_rule (fun _ => rfl) fun d u as s Q E rd q => PySem.W.isinstance_list_data rd q) (isi_plain fun _ => rfl) he (by decide) (by decide +kernel) hg hg2 (by decide) (by decide) hs rfl

/-! ### join -/
theorem strs_rps {P : Program} {w : World} {H : Hp} {O : Addr → Prop} : ∀ {ds : List D} {vs : List V} {bs : List Str}, strsOf ds = some bs → Rps P w H O ds vs → vs = bs.map V.str
  | [], _, _, h, r => by simp only [strsOf, Option.some.injEq] at h; subst h; cases r; rfl
  | d :: ds, _, bs, h, r => by
    cases d with
    | str b =>
      simp only [strsOf] at h
      obtain ⟨bs', h1, rfl⟩ := Option.map_eq_some_iff.mp h
      cases r with
      | cons r1 r2 =>
        cases r1
        rw [List.map_cons, ← strs_rps h1 r2]
    | _ => simp [strsOf] at h
theorem se_join {o e : Expr} {i j : Ex} {apos pos : Pos} (ho : SE F X o i) (he : SE F X e j) (hs : starEach [e] X.env = [(false, eval e X.env)] := by rfl) (hbase : attributeBase o "join" X.env (eval o X.env) = eval o X.env := by rfl) (hline : (apos.endLine == pos.line) = true := by rfl) :
    SE F X (.Call (.Attribute o "join" apos) [e] [] pos) (.blt .join [i, j]) := by
  refine (pe_join ho he hs hbase hline).of fun σ H Q h => ?_
  obtain ⟨Of, ρ, r, E, h, k⟩ := h
  simp only [ev, evL] at h
  split at h
  · rename_i rs hrs
    split at hrs
    · rename_i x hx
      obtain ⟨rs', h1, rfl⟩ := Option.map_eq_some_iff.mp hrs
      split at h1
      · rename_i y hy
        simp only [Option.map_some, Option.some.injEq] at h1
        subst h1
        simp only [List.map_cons, List.map_nil] at h
        obtain ⟨tx, dx⟩ := x
        obtain ⟨ty, dy⟩ := y
        cases dx with
        | str a =>
          cases dy with
          | list ys =>
            simp only [bltD] at h
            obtain ⟨zs, h2, h3⟩ := Option.bind_eq_some_iff.mp h
            split at h3
            · rename_i hf
              cases h3
              refine ⟨Of, ρ, _, E, hx, fun v H1 s1 p1 => ?_⟩
              have ev1 : v = .str a := by
                have z : Rp X.prog X.w H1 _ (.str a) v := p1.1
                cases z; rfl
              refine ⟨⟨a, ev1⟩, Of, ρ, _, E.same s1, hy, fun u H2 s2 p2 => ?_⟩
              obtain ⟨pa, va, rfl, ea, sa⟩ := p2.1
              refine ⟨a, pa, zs, ev1, rfl, .inl (.inl (by rw [← strs_rps h2 sa]; exact ea)), ?_, ?_⟩
              · simp only [fitsN, decide_eq_true_eq] at hf
                exact Nat.le_trans hf (by decide)
              · rw [TL.join_eq]
                exact k _ _ (s1.trans s2) (.im (.str _))
            · cases h3
          | _ => simp [bltD] at h
        | _ => simp [bltD] at h
      · cases h1
    · cases hrs
  · cases h
end
end Rk

/-! Sources of walks: lists, tuples, texts; enumerate and zip over them. -/
set_option autoImplicit false
set_option linter.all false
set_option maxRecDepth 100000
namespace Rk
open PySem PySem.Spec PyProof.Rows L2

inductive Sk where
  | list (a : Addr)
  | tup (a : Addr)
  | str (x : Str) (t : Tok)
def Sk.val : Sk → Value
  | .list a => .ref a
  | .tup a => .ref a
  | .str x t => .str x t
def signs (x : Str) : List V := x.cps.toList.map fun c => .str ⟨#[c]⟩
def Sk.is (H : Hp) : Sk → List V → Prop
  | .list a, xs => Rd H a (.lst xs)
  | .tup a, xs => H a = some (.tup xs)
  | .str x _, xs => xs = signs x
def Sk.it (h : Heap) (it : Addr) (i : Nat) : Sk → Prop
  | .list a => h.IsListIter it a i
  | .tup a => h.IsTupleIter it a i
  | .str x t => h.IsStrIter it (strIterType x) x t i
def Sk.fp : Sk → List Addr
  | .list a => [a]
  | .tup a => [a]
  | .str _ _ => []
theorem draws_to {prog : Program} {w : World} {A : Around} {it : Addr} {fp : List Addr} {n : Nat} {P : Nat → Value → Prop} {St St' : Nat → Heap → Prop} (D : Draws prog w A it fp n P St) (e : ∀ i h, St' i h ↔ St i h) : Draws prog w A it fp n P St' := by
  have : St' = St := funext fun i => funext fun h => propext (e i h)
  rw [this]
  exact D

theorem vals_back : ∀ {xs : List V} {us : List Value} {i : Nat} {u : Value}, Vals xs us → us[i]? = some u → ∃ x, xs[i]? = some x ∧ RelV x u
  | _, _, _, _, .nil, e => by simp at e
  | _, _, 0, _, .cons r _, e => by simp at e; subst e; exact ⟨_, rfl, r⟩
  | _, _, i + 1, u, .cons _ t, e => by
    obtain ⟨x, h1, h2⟩ := vals_back (i := i) (u := u) t (by simpa using e)
    exact ⟨x, by simpa using h1, h2⟩
section
variable {X : Cx} {pins : List (Addr × Obj)} {σ : L2.St} {H : Hp} {s : Shared}
theorem Rd.inj {a : Addr} {xs ys : List V} (h : Rd H a (.lst xs)) (h' : Rd H a (.lst ys)) : xs = ys := by
  rcases h with h | ⟨o, h⟩ <;> rcases h' with h' | ⟨o', h'⟩ <;> rw [h] at h' <;> cases h' <;> rfl
theorem Sk.inj {k : Sk} {xs ys : List V} (h : k.is H xs) (h' : k.is H ys) : xs = ys := by
  cases k with
  | list a => exact Rd.inj h h'
  | tup a =>
    have h1 : H a = some (.tup xs) := h
    have h2 : H a = some (.tup ys) := h'
    rw [h1] at h2; cases h2; rfl
  | str x t =>
    have h1 : xs = signs x := h
    have h2 : ys = signs x := h'
    rw [h1, h2]
theorem Sk.old (I : Inv X pins σ H s) {k : Sk} {xs : List V} (h : k.is H xs) : ∀ b ∈ k.fp, b < s.heap.objs.size := by
  intro b hb
  cases k with
  | list a =>
    obtain ⟨o, e⟩ := rd_some (show Rd H a (.lst xs) from h)
    have : b = a := by simpa [Sk.fp] using hb
    rw [this]; exact I.hok.lt e
  | tup a =>
    have : b = a := by simpa [Sk.fp] using hb
    rw [this]; exact I.hok.lt (show H a = some (.tup xs) from h)
  | str x t => simp [Sk.fp] at hb
theorem Sk.live {k : Sk} {xs : List V} (h : k.is H xs) : ∀ b ∈ k.fp, ∃ o, H b = some o := by
  intro b hb
  cases k with
  | list a =>
    have : b = a := by simpa [Sk.fp] using hb
    rw [this]; exact rd_some (show Rd H a (.lst xs) from h)
  | tup a =>
    have : b = a := by simpa [Sk.fp] using hb
    rw [this]; exact ⟨_, (show H a = some (.tup xs) from h)⟩
  | str x t => simp [Sk.fp] at hb
/-- what an iterator over the source draws -/
theorem Sk.draw (I : Inv X pins σ H s) {k : Sk} {xs : List V} (h : k.is H xs) {A : Around} (hh : A.handled = none) {it : Addr} (hn : it ∉ k.fp) :
    ∃ (Pp : Nat → Value → Prop) (Src : Heap → Prop), Src s.heap ∧ Draws X.prog X.w A it (it :: k.fp) xs.length Pp (fun i h => k.it h it i ∧ Src h) ∧ ∀ i v, Pp i v → ∃ x, xs[i]? = some x ∧ RelV x v := by
  cases k with
  | list a =>
    obtain ⟨its, rv, hl, _⟩ := I.list (.inl (show Rd H a (.lst xs) from h))
    have e : xs.length = its.toArray.size := by rw [List.size_toArray]; exact rv.length
    rw [e]
    refine ⟨_, fun h => h.IsList a its.toArray, hl.isList, Draws.list hh it a (fun z => hn (by rw [z]; simp [Sk.fp])) its.toArray, fun i v hv => ?_⟩
    have hv' : its[i]? = some v := by simpa using hv
    exact vals_back rv hv'
  | tup a =>
    obtain ⟨its, rv, ht, _⟩ := I.tuple (SqT.of (K := X.K) (show H a = some (.tup xs) from h))
    have e : xs.length = its.toArray.size := by rw [List.size_toArray]; exact rv.length
    rw [e]
    refine ⟨_, fun h => h.IsTuple a its.toArray, ht, Draws.tuple hh it a (fun z => hn (by rw [z]; simp [Sk.fp])) its.toArray, fun i v hv => ?_⟩
    have hv' : its[i]? = some v := by simpa using hv
    exact vals_back rv hv'
  | str x t =>
    have h1 : xs = signs x := h
    subst h1
    have e : (signs x).length = x.cps.size := by simp [signs]
    rw [e]
    refine ⟨_, fun _ => True, trivial, draws_to (Draws.text hh it x t) fun i h => ⟨fun z => z.1, fun z => ⟨z, trivial⟩⟩, fun i v ⟨c, u, hc, ev⟩ => ⟨.str ⟨#[c]⟩, ?_, u, ev⟩⟩
    have hc' : x.cps.toList[i]? = some c := by simpa using hc
    simp only [signs, List.getElem?_map, hc', Option.map_some]
/-- how a walk over it begins -/
theorem Sk.begin (I : Inv X pins σ H s) {k : Sk} {xs : List V} (h : k.is H xs) : ∃ (o : Obj) (Hc : Heap → Prop), Begins k.val o Hc ∧ Hc s.heap ∧ ∀ h it, h.get? it = some o → k.it h it 0 := by
  cases k with
  | list a =>
    obtain ⟨its, rv, hl, _⟩ := I.list (.inl (show Rd H a (.lst xs) from h))
    exact ⟨_, _, begins_list a its.toArray, hl.isList, fun h it e => ⟨_, e, rfl, rfl⟩⟩
  | tup a =>
    obtain ⟨its, rv, ht, _⟩ := I.tuple (SqT.of (K := X.K) (show H a = some (.tup xs) from h))
    exact ⟨_, _, begins_tuple a its.toArray, ht, fun h it e => ⟨_, e, rfl, rfl⟩⟩
  | str x t => exact ⟨_, _, begins_text x t, trivial, fun h it e => ⟨_, e, rfl, rfl⟩⟩
theorem Sk.obj {h : Heap} {it : Addr} {i : Nat} {k : Sk} (st : k.it h it i) : ∃ o, h.get? it = some o ∧ ∀ v, o.data ≠ .cell v := by
  cases k with
  | list a => obtain ⟨o, e, c, d⟩ := st; exact ⟨o, e, fun v z => by rw [d] at z; cases z⟩
  | tup a => obtain ⟨o, e, c, d⟩ := st; exact ⟨o, e, fun v z => by rw [d] at z; cases z⟩
  | str x t => obtain ⟨o, e, c, d⟩ := st; exact ⟨o, e, fun v z => by rw [d] at z; cases z⟩
theorem Sk.at' {h h' : Heap} {it : Addr} {i : Nat} {k : Sk} (st : k.it h it i) (kp : ∀ o, h.get? it = some o → h'.get? it = some o) : k.it h' it i := by
  cases k with
  | list a => obtain ⟨o, e, c, d⟩ := st; exact ⟨o, kp o e, c, d⟩
  | tup a => obtain ⟨o, e, c, d⟩ := st; exact ⟨o, kp o e, c, d⟩
  | str x t => obtain ⟨o, e, c, d⟩ := st; exact ⟨o, kp o e, c, d⟩
end

/-! ### enumerate(v) -/
set_option maxHeartbeats 2000000 in
theorem enum_new1 {v : Value} {o : Obj} {Hc : Heap → Prop} (B : Begins v o Hc) :
    Meets (Builtin.«enumerate.__new__» ⟨[.type "enumerate", v], []⟩) (fun _ R s => Hc s.heap ∧
      R (.ok (.ret (.ref (s.heap.push o).objs.size))) { s with heap := (s.heap.push o).push { cls := .type "enumerate", data := .fields #[.none, .bool false, .ref s.heap.objs.size, rawInt 0, .none, .none] } }) :=
  .of_wp fun prog w A R s h => by
    obtain ⟨hp, g, d, tk, os⟩ := s
    obtain ⟨h1, h⟩ := h
    have hsub := sub_enumerate
    have q1 : ∀ {A' : Around} {E : Value → Shared → Prop} {Q : Value → Shared → Prop}, Q (.ref hp.objs.size) ⟨hp.push o, g, d, tk, os⟩ → wpAny (model prog w) A' (pyIter v) Q E ⟨hp, g, d, tk, os⟩ := fun q => B.iter prog w _ _ ⟨hp, g, d, tk, os⟩ _ h1 q
    wp_walk using q1
    refine wpAny_stack_any fun st => wpAny_pure ?_
    split
    · rename_i c _ _ _ _ _
      cases (c == Value.type "enumerate")
      all_goals
        wp_walk using q1
        exact ⟨_, rfl, h⟩
    · wp_walk using q1
      exact ⟨_, rfl, h⟩
theorem enum_begin1 {prog : Program} {w : World} {A : Around} {E : Value → Shared → Prop} {s : Shared} {v : Value} {o : Obj} {Hc : Heap → Prop} {Q : Value → Shared → Prop} (B : Begins v o Hc) (h1 : Hc s.heap)
    (h : ∀ h', IsEnum h' (s.heap.objs.size + 1) s.heap.objs.size 0 .none → h'.get? s.heap.objs.size = some o → (∀ b o, s.heap.get? b = some o → h'.get? b = some o) → Q (.ref (s.heap.objs.size + 1)) { s with heap := h' }) :
    wpAny (model prog w) A (call (.type "enumerate") [v]) Q E s := by
  refine callType_new F.called_enumerate (by decide) (F.typeCall_enumerate_1 _) (F.newCall_enumerate_1 _) (fun obj => F.args_object_init_2 obj _) F.entry_enumerate_new (enum_new1 B) ⟨h1, ?_⟩
  have hz : (s.heap.push o).objs.size = s.heap.objs.size + 1 := Heap.size_push ..
  show _ ∧ _
  rw [hz]
  have he : IsEnum ((s.heap.push o).push { cls := .type "enumerate", data := .fields #[.none, .bool false, .ref s.heap.objs.size, rawInt 0, .none, .none] }) (s.heap.objs.size + 1) s.heap.objs.size 0 .none := by
    have q := Heap.get?_push_size (s.heap.push o) (o := { cls := .type "enumerate", data := .fields #[.none, .bool false, .ref s.heap.objs.size, rawInt 0, .none, .none] }) rfl
    rw [hz] at q
    exact q
  exact ⟨⟨_, he, rfl⟩, h _ he (Heap.get?_push_of_some _ (Heap.get?_push_size _ B.free)) fun b o x => Heap.get?_push_of_some _ (Heap.get?_push_of_some _ x)⟩

/-- the walk of enumerate -/
def ItE (k : Sk) : It :=
  ⟨fun i H => ∃ xs x, k.is H xs ∧ xs[i]? = some x, fun i H v H' => ∃ T x, v = .ref T ∧ H T = none ∧ H' = upd H T (.tup [.int (i : Nat), x]) ∧ ∀ xs, k.is H xs → xs[i]? = some x, fun i H => ∃ xs, k.is H xs ∧ xs.length = i⟩
theorem isTup_ok {P : Program} {w : World} {H : Hp} {h : Heap} {T : Addr} {xs : List V} {us : List Value} (ht : h.IsTuple T us.toArray) (r : Vals xs us) (hz : xs.length ≤ sizeLine) : ObjOk P w H h T (.tup xs) := ⟨hz, us, r, ht⟩
theorem turnE {P : Program} {w : World} {K : PySem.W.Frag} {elts : List Expr} {kk : Nat} {tpos : Pos} (k : Sk) (e it : Addr) (hne : e ≠ it) :
    Turn P w K (.Tuple elts kk tpos) (ItE k) [e, it] e (fun i h => (∃ old, IsEnum h e it (0 + ((i : Nat) : Int)) old) ∧ k.it h it i) where
  mem := by simp
  obj := fun i h st b hb => by
    obtain ⟨⟨old, he⟩, st⟩ := st
    have e' : b = e ∨ b = it := by simpa using hb
    rcases e' with z | z
    · rw [z]; exact ⟨_, he, fun v q => nomatch q⟩
    · rw [z]; exact Sk.obj st
  keep := fun i h h' st kp => let ⟨⟨old, he⟩, hi⟩ := st; ⟨⟨old, kp e (by simp) _ he⟩, Sk.at' hi fun o q => kp it (by simp) o q⟩
  item := by
    intro X hP hw hK hc i pins s σ H E I hf st hg
    subst hP hw hK
    obtain ⟨xs, x, hq, hx⟩ := hg
    have fresh : ∀ b ∈ k.fp, ∀ c ∈ [e, it], c ≠ b := fun b hb c hc' z => by
      obtain ⟨o, ho⟩ := Sk.live hq b hb
      have q := (hf c hc').1
      rw [z, ho] at q; cases q
    obtain ⟨Pp, Src, hS, Dr, hP⟩ := Sk.draw I hq (A := X.A.in1) (I.ok.hd hc) (it := it) (fun z => fresh it z it (by simp) rfl)
    have hi : i < xs.length := (List.getElem?_eq_some_iff.mp hx).1
    have G := GoesN.enumFrom (elts := elts) (x1 := kk) (pos := tpos) 0 Dr e hne (fun z => by
      rcases List.mem_cons.mp z with z | z
      · exact hne z
      · exact fresh e z e (by simp) rfl) (by simp)
    refine G.goes i s (fun u s2 => ∃ x H', Inv X pins σ H' s2 ∧ RelV x u ∧ (ItE k).yld i H x H' ∧ ((∃ old, IsEnum s2.heap e it (0 + ((i + 1 : Nat) : Int)) old) ∧ k.it s2.heap it (i + 1)) ∧ ∀ b ∈ [e, it], H' b = none) E hi ⟨st.1, st.2, hS⟩ fun v h' tk hY st' hk _ => ?_
    obtain ⟨T, t, y, rfl, hT, hp, htup⟩ := hY
    obtain ⟨x', hx', rx⟩ := hP i y hp
    rw [hx] at hx'; cases hx'
    have new : ObjOk X.prog X.w (upd H T (.tup [.int (i : Nat), x])) h' T (.tup [.int (i : Nat), x]) :=
      isTup_ok (us := [.int (0 + (i : Int)) t, y]) htup (.cons ⟨t, by rw [Int.zero_add]⟩ (.cons rx .nil)) (by show 2 ≤ sizeLine; decide)
    have I1 := I.turnedNew (t' := tk) (ch := [e, it]) hk hf hT new
    have hTn : H T = none := I.hok.fresh hT
    refine ⟨.ref T, _, I1, rfl, ⟨T, x, rfl, hTn, rfl, fun ys hy => by rw [Sk.inj hy hq]; exact hx⟩, ⟨st'.1, st'.2.1⟩, fun b hb => ?_⟩
    have hbT : b ≠ T := fun z => by
      obtain ⟨o, ho⟩ : ∃ o, s.heap.get? b = some o := by
        have e' : b = e ∨ b = it := by simpa using hb
        rcases e' with z | z
        · obtain ⟨⟨old, he⟩, _⟩ := st; rw [z]; exact ⟨_, he⟩
        · obtain ⟨o, ho, _⟩ := Sk.obj st.2; rw [z]; exact ⟨_, ho⟩
      have := Heap.lt_size ho
      rw [z] at this
      exact absurd this (Nat.not_lt.mpr hT)
    rw [upd_ne hbT]
    exact (hf b hb).1
  done := by
    intro X hP hw hK hc i pins s σ H E I hf st hg
    subst hP hw hK
    obtain ⟨xs, hq, hx⟩ := hg
    have fresh : ∀ b ∈ k.fp, ∀ c ∈ [e, it], c ≠ b := fun b hb c hc' z => by
      obtain ⟨o, ho⟩ := Sk.live hq b hb
      have q := (hf c hc').1
      rw [z, ho] at q; cases q
    obtain ⟨Pp, Src, hS, Dr, hP⟩ := Sk.draw I hq (A := X.A.in1) (I.ok.hd hc) (it := it) (fun z => fresh it z it (by simp) rfl)
    have G := GoesN.enumFrom (elts := elts) (x1 := kk) (pos := tpos) 0 Dr e hne (fun z => by
      rcases List.mem_cons.mp z with z | z
      · exact hne z
      · exact fresh e z e (by simp) rfl) (by simp)
    subst hx
    refine G.stops s (fun s1 => Inv X pins σ H s1) E ⟨st.1, st.2, hS⟩ fun h' tk hk _ => ?_
    refine I.step (g' := s.gens) (d' := s.drawn) (ch := [e, it]) (fun b hb => ?_) (fun b o _ _ hc e _ => hk b o hc e) (fun b o _ _ hc e _ => ⟨o.slots, hk b o hc e⟩) (fun _ _ _ _ n => n) (fun b o hc e => ⟨o, hk b o hc e⟩) (fun _ _ e => e) (fun _ _ _ e => e) (fun b ps e => ⟨#[], by rw [e]; simp⟩) (fun m hm => ?_) (fun b u e => ?_) I.bare
    · obtain ⟨f0, f1, f2, f3, f4, f5⟩ := hf b hb
      exact ⟨f3, f1, f4, f5⟩
    · obtain ⟨o, es, ep, ho, r⟩ := hm
      exact ⟨o, es, ep, hk _ o (fun z => (hf _ z).2.1 rfl) ho, r⟩
    · refine (I.hok b u e).stay (fun c v hc q => hk c v (fun z => ?_) q) (fun _ q => q) fun _ _ q => q
      have n := (hf c z).1
      rcases hc with z | z
      · rw [z, e] at n; cases n
      · rw [z] at n; cases n
  self := fun A i s Q E st h => let ⟨⟨_, he⟩, _⟩ := st; wpAny_pyIter_enum he h

/-! ### zip(v, u) -/
def ItZ (k l : Sk) : It :=
  ⟨fun i H => ∃ xs ys x y, k.is H xs ∧ l.is H ys ∧ xs[i]? = some x ∧ ys[i]? = some y,
    fun i H v H' => ∃ T x y, v = .ref T ∧ H T = none ∧ H' = upd H T (.tup [x, y]) ∧ (∀ xs, k.is H xs → xs[i]? = some x) ∧ ∀ ys, l.is H ys → ys[i]? = some y,
    fun i H => ∃ xs ys, k.is H xs ∧ l.is H ys ∧ min xs.length ys.length = i⟩
/-- the cells of a zip -/
structure Zap (z TI TO i1 i2 : Addr) : Prop where
  a1 : TI ≠ z
  a2 : TO ≠ z
  a3 : TI ≠ TO
  a4 : TI ≠ i1
  a5 : TI ≠ i2
  a6 : z ≠ i1
  a7 : z ≠ i2
  a8 : TO ≠ i1
  a9 : TO ≠ i2
  b1 : i1 ≠ i2
theorem Zap.sep {z TI TO i1 i2 : Addr} (Z : Zap z TI TO i1 i2) {f1 f2 : List Addr} (h1 : ∀ b ∈ f1, ∀ c ∈ [z, TI, TO, i1, i2], c ≠ b) (h2 : ∀ b ∈ f2, ∀ c ∈ [z, TI, TO, i1, i2], c ≠ b) : ZipSep2 z TI TO i1 i2 (i1 :: f1) (i2 :: f2) :=
  ⟨Z.a1, Z.a2, Z.a3, Z.a4, by simp, fun q => (List.mem_cons.mp q).elim Z.a6 fun q => h1 z q z (by simp) rfl, fun q => (List.mem_cons.mp q).elim Z.a8 fun q => h1 TO q TO (by simp) rfl, Z.a5, by simp,
    fun q => (List.mem_cons.mp q).elim Z.a7 fun q => h2 z q z (by simp) rfl, fun q => (List.mem_cons.mp q).elim Z.a9 fun q => h2 TO q TO (by simp) rfl, fun q => (List.mem_cons.mp q).elim Z.b1 fun q => h2 i1 q i1 (by simp) rfl,
    fun q => (List.mem_cons.mp q).elim Z.b1.symm fun q => h1 i2 q i2 (by simp) rfl⟩
/-- an iterator's cells have turned, nothing else -/
theorem Inv.cells {X : Cx} {pins : List (Addr × Obj)} {σ : L2.St} {H : Hp} {s : Shared} {ch : List Addr} {h' : Heap} {tk : Nat} (I : Inv X pins σ H s) (hf : ∀ b ∈ ch, FpOk X pins H b) (hk : ∀ b o, b ∉ ch → s.heap.get? b = some o → h'.get? b = some o) : Inv X pins σ H { s with heap := h', toks := tk } := by
  refine I.step (g' := s.gens) (d' := s.drawn) (ch := ch) (fun b hb => ?_) (fun b o _ _ hc e _ => hk b o hc e) (fun b o _ _ hc e _ => ⟨o.slots, hk b o hc e⟩) (fun _ _ _ _ n => n) (fun b o hc e => ⟨o, hk b o hc e⟩) (fun _ _ e => e) (fun _ _ _ e => e) (fun b ps e => ⟨#[], by rw [e]; simp⟩) (fun m hm => ?_) (fun b u e => ?_) I.bare
  · obtain ⟨f0, f1, f2, f3, f4, f5⟩ := hf b hb
    exact ⟨f3, f1, f4, f5⟩
  · obtain ⟨o, es, ep, ho, r⟩ := hm
    exact ⟨o, es, ep, hk _ o (fun z => (hf _ z).2.1 rfl) ho, r⟩
  · refine (I.hok b u e).stay (fun c v hc q => hk c v (fun z => ?_) q) (fun _ q => q) fun _ _ q => q
    have n := (hf c z).1
    rcases hc with z | z
    · rw [z, e] at n; cases n
    · rw [z] at n; cases n
theorem turnZ {P : Program} {w : World} {K : PySem.W.Frag} {elts : List Expr} {kk : Nat} {tpos : Pos} (k l : Sk) {z TI TO i1 i2 : Addr} (Z : Zap z TI TO i1 i2) :
    Turn P w K (.Tuple elts kk tpos) (ItZ k l) [z, TI, TO, i1, i2] z (fun i h => IsZip h z TI TO .none ∧ IsTupOf2 h TI (.ref i1) (.ref i2) ∧ (∃ a1 a2, IsTupOf2 h TO a1 a2) ∧ k.it h i1 i ∧ l.it h i2 i) where
  mem := by simp
  obj := fun i h st b hb => by
    obtain ⟨h1, h2, ⟨_, _, h3⟩, h4, h5⟩ := st
    have e' : b = z ∨ b = TI ∨ b = TO ∨ b = i1 ∨ b = i2 := by simpa using hb
    rcases e' with q | q | q | q | q
    · rw [q]; exact ⟨_, h1, fun v q => nomatch q⟩
    · rw [q]; exact ⟨_, h2, fun v q => nomatch q⟩
    · rw [q]; exact ⟨_, h3, fun v q => nomatch q⟩
    · rw [q]; exact Sk.obj h4
    · rw [q]; exact Sk.obj h5
  keep := fun i h h' st kp => let ⟨h1, h2, ⟨x, y, h3⟩, h4, h5⟩ := st; ⟨kp z (by simp) _ h1, kp TI (by simp) _ h2, ⟨x, y, kp TO (by simp) _ h3⟩, Sk.at' h4 fun o q => kp i1 (by simp) o q, Sk.at' h5 fun o q => kp i2 (by simp) o q⟩
  item := by
    intro X hP hw hK hc i pins s σ H E I hf st hg
    subst hP hw hK
    obtain ⟨xs, ys, x, y, hq, hq2, hx, hy⟩ := hg
    have fresh : ∀ {k : Sk} {xs : List V}, k.is H xs → ∀ b ∈ k.fp, ∀ c ∈ [z, TI, TO, i1, i2], c ≠ b := fun hq b hb c hc' e => by
      obtain ⟨o, ho⟩ := Sk.live hq b hb
      have q := (hf c hc').1
      rw [e, ho] at q; cases q
    obtain ⟨Pp, Src, hS, Dr, hP⟩ := Sk.draw I hq (A := X.A.in1) (I.ok.hd hc) (it := i1) (fun e => fresh hq i1 e i1 (by simp) rfl)
    obtain ⟨Pp2, Src2, hS2, Dr2, hP2⟩ := Sk.draw I hq2 (A := X.A.in1) (I.ok.hd hc) (it := i2) (fun e => fresh hq2 i2 e i2 (by simp) rfl)
    have hi : i < xs.length := (List.getElem?_eq_some_iff.mp hx).1
    have hi2 : i < ys.length := (List.getElem?_eq_some_iff.mp hy).1
    have G := GoesN.zip2 (elts := elts) (x1 := kk) (pos := tpos) (Z.sep (fresh hq) (fresh hq2)) Dr Dr2
    refine G.goes i s (fun u s2 => ∃ x H', Inv X pins σ H' s2 ∧ RelV x u ∧ (ItZ k l).yld i H x H' ∧ (IsZip s2.heap z TI TO .none ∧ IsTupOf2 s2.heap TI (.ref i1) (.ref i2) ∧ (∃ a1 a2, IsTupOf2 s2.heap TO a1 a2) ∧ k.it s2.heap i1 (i + 1) ∧ l.it s2.heap i2 (i + 1)) ∧ ∀ b ∈ [z, TI, TO, i1, i2], H' b = none) E (by omega) ⟨st.1, st.2.1, st.2.2.1, ⟨st.2.2.2.1, hS⟩, st.2.2.2.2, hS2⟩ fun v h' tk hY st' hk _ => ?_
    obtain ⟨T, a, b, rfl, hT, hp, hp2, htup⟩ := hY
    obtain ⟨x', hx', rx⟩ := hP i a hp
    obtain ⟨y', hy', ry⟩ := hP2 i b hp2
    rw [hx] at hx'; cases hx'
    rw [hy] at hy'; cases hy'
    have new : ObjOk X.prog X.w (upd H T (.tup [x, y])) h' T (.tup [x, y]) := isTup_ok (us := [a, b]) htup (.cons rx (.cons ry .nil)) (by show 2 ≤ sizeLine; decide)
    have I1 := I.turnedNew (t' := tk) (ch := [z, TI, TO, i1, i2]) (fun b o hb e => hk b o (fun q => hb (by
      have e' : b = z ∨ b = TO ∨ b = i1 ∨ b = i2 := by simpa using q
      rcases e' with q | q | q | q <;> simp [q])) e) hf hT new
    have hTn : H T = none := I.hok.fresh hT
    refine ⟨.ref T, _, I1, rfl, ⟨T, x, y, rfl, hTn, rfl, fun ys hy => by rw [Sk.inj hy hq]; exact hx, fun ys hy' => by rw [Sk.inj hy' hq2]; exact hy⟩, ⟨st'.1, st'.2.1, st'.2.2.1, st'.2.2.2.1.1, st'.2.2.2.2.1⟩, fun b hb => ?_⟩
    have hbT : b ≠ T := fun e => by
      obtain ⟨o, ho⟩ : ∃ o, s.heap.get? b = some o := by
        obtain ⟨h1, h2, ⟨_, _, h3⟩, h4, h5⟩ := st
        have e' : b = z ∨ b = TI ∨ b = TO ∨ b = i1 ∨ b = i2 := by simpa using hb
        rcases e' with q | q | q | q | q
        · rw [q]; exact ⟨_, h1⟩
        · rw [q]; exact ⟨_, h2⟩
        · rw [q]; exact ⟨_, h3⟩
        · obtain ⟨o, ho, _⟩ := Sk.obj h4; rw [q]; exact ⟨_, ho⟩
        · obtain ⟨o, ho, _⟩ := Sk.obj h5; rw [q]; exact ⟨_, ho⟩
      have := Heap.lt_size ho
      rw [e] at this
      exact absurd this (Nat.not_lt.mpr hT)
    rw [upd_ne hbT]
    exact (hf b hb).1
  done := by
    intro X hP hw hK hc i pins s σ H E I hf st hg
    subst hP hw hK
    obtain ⟨xs, ys, hq, hq2, hx⟩ := hg
    have fresh : ∀ {k : Sk} {xs : List V}, k.is H xs → ∀ b ∈ k.fp, ∀ c ∈ [z, TI, TO, i1, i2], c ≠ b := fun hq b hb c hc' e => by
      obtain ⟨o, ho⟩ := Sk.live hq b hb
      have q := (hf c hc').1
      rw [e, ho] at q; cases q
    obtain ⟨Pp, Src, hS, Dr, hP⟩ := Sk.draw I hq (A := X.A.in1) (I.ok.hd hc) (it := i1) (fun e => fresh hq i1 e i1 (by simp) rfl)
    obtain ⟨Pp2, Src2, hS2, Dr2, hP2⟩ := Sk.draw I hq2 (A := X.A.in1) (I.ok.hd hc) (it := i2) (fun e => fresh hq2 i2 e i2 (by simp) rfl)
    have G := GoesN.zip2 (elts := elts) (x1 := kk) (pos := tpos) (Z.sep (fresh hq) (fresh hq2)) Dr Dr2
    subst hx
    refine G.stops s (fun s1 => Inv X pins σ H s1) E ⟨st.1, st.2.1, st.2.2.1, ⟨st.2.2.2.1, hS⟩, st.2.2.2.2, hS2⟩ fun h' tk hk _ => Inv.cells I hf fun b o hb e => hk b o (fun q => hb (by
      have e' : b = z ∨ b = TO ∨ b = i1 ∨ b = i2 := by simpa using q
      rcases e' with q | q | q | q <;> simp [q])) e
  self := fun A i s Q E st h => wpAny_pyIter_zip st.1 h

/-! ### a dict's keys -/
def ItD (P : Program) (w : World) (a : Addr) (ep : Nat) (es : List (NestedKey × Addr × V)) : It :=
  ⟨fun i H => H a = some (dHO P w a ep es) ∧ i < es.length, fun i H x H' => H' = H ∧ ∀ e, es[i]? = some e → x = .ref e.2.1, fun i H => H a = some (dHO P w a ep es) ∧ es.length = i⟩
theorem paired_at {R : NestedKey × Addr × V → NestedKey × Addr × Value → Prop} : ∀ {es : List (NestedKey × Addr × V)} {xs : List (NestedKey × Addr × Value)} {i : Nat} {x}, Paired R es xs → xs[i]? = some x → ∃ e, es[i]? = some e ∧ R e x
  | _, _, _, _, .nil, e => by simp at e
  | _, _, 0, _, .cons r _, e => by simp at e; subst e; exact ⟨_, rfl, r⟩
  | _, _, i + 1, u, .cons _ t, e => by
    obtain ⟨x, h1, h2⟩ := paired_at (i := i) (x := u) t (by simpa using e)
    exact ⟨x, by simpa using h1, h2⟩
theorem turnD {P : Program} {w : World} {K : PySem.W.Frag} {tg : Expr} (a it : Addr) (ep : Nat) (es : List (NestedKey × Addr × V)) : Turn P w K tg (ItD P w a ep es) [it] it (fun i h => h.IsKeyIter it a i es.length ep) where
  mem := by simp
  obj := fun i h st b hb => by
    have e : b = it := by simpa using hb
    subst e
    obtain ⟨o, e, c, d⟩ := st
    exact ⟨o, e, fun v z => by rw [d] at z; cases z⟩
  keep := fun i h h' st kp => let ⟨o, e, c, d⟩ := st; ⟨o, kp it (by simp) o e, c, d⟩
  item := by
    intro X hP hw hK hc i pins s σ H E I hf st hg
    subst hP hw hK
    obtain ⟨hH, hi⟩ := hg
    obtain ⟨⟨o, ents, xs, h1, h2, h3, h4, h5⟩, _, _⟩ := (show ObjOk X.prog X.w H s.heap a (dHO X.prog X.w a ep es) from I.hok a _ hH)
    have hne : a ≠ it := fun e => by
      have q := (hf it (by simp)).1
      rw [← e, hH] at q; cases q
    have hsz : ents.size = es.length := by
      rw [← Array.length_toList, h4, List.length_map]
      exact (Paired.length h5).symm
    have G := (Goes.rawKeys (prog := X.prog) (w := X.w) (A := X.A) (target := tg) (I.ok.hd hc) it a hne ents ep)
    refine G.goes i s (fun u s2 => ∃ x H', Inv X pins σ H' s2 ∧ RelV x u ∧ (ItD X.prog X.w a ep es).yld i H x H' ∧ s2.heap.IsKeyIter it a (i + 1) es.length ep ∧ ∀ b ∈ [it], H' b = none) E (by omega) ⟨by rw [hsz]; exact st, o, h1, h2, h3⟩ fun v h' tk hY st' hk _ => ?_
    obtain ⟨hi', rfl⟩ := hY
    have hxl : i < xs.length := by
      have := Paired.length h5
      omega
    have hx : xs[i]? = some (xs[i]'hxl) := List.getElem?_eq_getElem hxl
    obtain ⟨e, he, e1, e2, e3⟩ := paired_at h5 hx
    have hkey : ents[i].key = .ref e.2.1 := by
      have q : ents.toList[i]? = some ents[i] := by simp [hi']
      rw [h4, List.getElem?_map, hx] at q
      have q' := Option.some.inj q
      rw [← q', e2]
      rfl
    refine ⟨.ref e.2.1, H, Inv.cells I hf (fun b o hb q => hk b o hb q), hkey, ⟨rfl, fun e' he' => by rw [he] at he'; cases he'; rfl⟩, by rw [← hsz]; exact st'.1, fun b hb => (hf b hb).1⟩
  done := by
    intro X hP hw hK hc i pins s σ H E I hf st hg
    subst hP hw hK
    obtain ⟨hH, hi⟩ := hg
    obtain ⟨⟨o, ents, xs, h1, h2, h3, h4, h5⟩, _, _⟩ := (show ObjOk X.prog X.w H s.heap a (dHO X.prog X.w a ep es) from I.hok a _ hH)
    have hne : a ≠ it := fun e => by
      have q := (hf it (by simp)).1
      rw [← e, hH] at q; cases q
    have hsz : ents.size = es.length := by
      rw [← Array.length_toList, h4, List.length_map]
      exact (Paired.length h5).symm
    have G := (Goes.rawKeys (prog := X.prog) (w := X.w) (A := X.A) (target := tg) (I.ok.hd hc) it a hne ents ep)
    subst hi
    rw [← hsz] at st
    exact G.stops s (fun s1 => Inv X pins σ H s1) E ⟨st, o, h1, h2, h3⟩ fun h' tk hk _ => Inv.cells I hf fun b o hb q => hk b o hb q
  self := fun A i s Q E st h => by
    obtain ⟨o, e, c, d⟩ := st
    exact wpAny_pyIter_keyiter ⟨o, e, c, d⟩ h
end Rk

/-! Targets; what is walked, by data; comprehensions. -/
set_option autoImplicit false
set_option linter.all false
set_option maxRecDepth 100000
namespace Rk
open PySem PySem.Spec PyProof.Rows L2

/-! ### a, b = a list -/
section
variable {prog : Program} {w : World} {A : Around} {E : Value → Shared → Prop} {s : Shared}
theorem drawL {it l : Addr} {items : Array Value} (hne : l ≠ it) : ∀ (n i : Nat) (s : Shared) (Q : List Value → Shared → Prop), s.heap.IsListIter it l i → s.heap.IsList l items → i + n ≤ items.size →
    (∀ h', h'.IsListIter it l (i + n) → Heap.SameBut it s.heap h' → Q ((items.toList.drop i).take n) { s with heap := h' }) → wpAny (model prog w) A (draw (.ref it) n) Q E s
  | 0, i, s, Q, hit, _, _, hQ => wpAny_pure (by simpa using hQ s.heap hit (Heap.SameBut.refl ..))
  | n + 1, i, s, Q, hit, ht, hle, hQ => by
    have hlt : i < items.size := by omega
    show wpAny _ _ (pyNext (.ref it) >>= _) Q E s
    refine wpAny_bind (wpAny_pyNext_list_item hit ht (x := items[i]) (by simp [hlt]) fun h₁ hit₁ hs₁ => ?_)
    refine wpAny_bind (wpAny_holding (drawL hne n (i + 1) _ _ hit₁ (ht.extBut hs₁.extBut hne) (by omega) fun h₂ hit₂ hs₂ => wpAny_pure ?_))
    have hd : items.toList.drop i = items[i] :: items.toList.drop (i + 1) := by simp [List.drop_eq_getElem_cons, hlt]
    have q := hQ h₂ (by rw [show i + (n + 1) = i + 1 + n by omega]; exact hit₂) (hs₁.trans hs₂)
    rw [hd, List.take_succ_cons] at q
    exact q
theorem unpackL {l : Addr} {items : Array Value} {Q : List Value → Shared → Prop} (hh : A.handled = none) (ht : s.heap.IsList l items)
    (hQ : ∀ h', Heap.ExtBut s.heap.objs.size s.heap h' → Q items.toList { s with heap := h' }) : wpAny (model prog w) A (unpackItems (.ref l) items.size none) Q E s := by
  have hlt : l ≠ s.heap.objs.size := by obtain ⟨o, ho, _⟩ := ht; exact Nat.ne_of_lt (Heap.lt_size ho)
  have push : ∀ o, (s.heap.push o).IsList l items := fun o => ht.at fun ob e => Heap.get?_push_of_some _ e
  unfold unpackItems
  refine wpAny_bind ?_
  unfold notIterableAtAll
  refine wpAny_bind (wpAny_specialOf ht.typeIs slot_list_iter.lookup (wpAny_pure ?_))
  simp only [Bool.false_eq_true, if_false]
  refine wpAny_bind (wpAny_holding (wpAny_pyIter_list ht ?_))
  refine wpAny_bind (wpAny_holding (drawL hlt items.size 0 _ _ ⟨_, Heap.get?_push_size _ rfl, rfl, rfl⟩ (push _) (by omega) fun h₁ hit₁ hs₁ => ?_))
  have hall : List.take items.size (List.drop 0 items.toList) = items.toList := by rw [List.drop_zero]; exact List.take_of_length_le (by simp)
  rw [hall, if_neg (by simp)]
  have ht₁ : h₁.IsList l items := (push _).extBut hs₁.extBut hlt
  refine wpAny_bind (wpAny_holding (wpAny_pyNext_list_end hh hit₁ ht₁ (by simp) fun h₂ he₂ => ?_))
  simp only [Option.isSome_none, Bool.false_eq_true, if_false]
  exact wpAny_pure (hQ h₂ fun b o hb e => he₂ b o hb (hs₁.extBut b o hb (Heap.get?_push_of_some _ e)))
theorem assignL {env : PySem.Env} {elts : List Expr} {x1} {pos : Pos} {l : Addr} {items : Array Value} {Q : Unit → Shared → Prop} (hh : A.handled = none) (ht : s.heap.IsList l items)
    (hn : (assignEach elts env).length = items.size) (hstar : (assignEach elts env).findIdx? (·.1) = none)
    (h : ∀ h', Heap.ExtBut s.heap.objs.size s.heap h' → wpAny (model prog w) A (assignInOrder ((assignEach elts env).map (·.2)) items.toList) Q E { s with heap := h' }) :
    wpAny (model prog w) A (assign (.Tuple elts x1 pos) env (.ref l)) Q E s := by
  rw [assign_Tuple]
  refine wpAny_bind (wpAny_standAt ?_)
  unfold unpack
  rw [hn, hstar]
  exact wpAny_bind (wpAny_holding (unpackL hh ht h))
end

/-! ### targets -/
/-- names in a row -/
def gNms : List Nat → TGs
  | [] => gNil
  | i :: is => gCons (gName i) (gNms is)
def gT : Tg → TG
  | .nm i => gName i
  | .tp is => fun v σ H Q => ∃ a xs, v = .ref a ∧ (H a = some (.tup xs) ∨ Rd H a (.lst xs)) ∧ xs.length = is.length ∧ gNms is xs σ H Q
section
variable {X : Cx}
abbrev SG (X : Cx) (tg : Expr) (t : Tg) : Prop := PG X tg (gT t)
abbrev SGs (X : Cx) (tg : List Expr) (t : List Nat) : Prop := PGs X tg (gNms t)
theorem sg_name {N : List Str} {sc : Scope} (hN : X.N = N) (nd : N.Nodup) (hsc : X.env.scope = sc) {i : Nat} {x : Str} {pos : Pos} (hi : N[i]? = some x := by rfl) (hx : Loc sc x := by first | exact .inl rfl | exact .inr rfl) (hf : X.fn x = true ∨ sc.names.lookup x = some .local := by first | exact .inr rfl | exact .inl rfl | assumption) : SG X (.Name x pos) (.nm i) :=
  pg_name (i := i) (by rw [hN]; exact nd) (by rw [hN]; exact hi) (by rw [hsc]; exact hx) (by rw [hsc]; exact hf)
theorem sgs_nil : SGs X [] [] := pgs_nil
theorem sgs_cons {e : Expr} {es : List Expr} {i : Nat} {is : List Nat} (h1 : SG X e (.nm i)) (h2 : SGs X es is) (hs : (assignEach (e :: es) X.env).map (·.2) = assign e X.env :: (assignEach es X.env).map (·.2) := by rfl) : SGs X (e :: es) (i :: is) := pgs_cons h1 h2 hs
theorem sg_tup {es : List Expr} {is : List Nat} {k : Nat} {pos : Pos} (hc : X.calm = true) (h : SGs X es is) (hn : (assignEach es X.env).length = is.length := by rfl) (hst : (assignEach es X.env).findIdx? (·.1) = none := by rfl) : SG X (.Tuple es k pos) (.tp is) := by
  refine ⟨fun pins s σ H v u Q I r hw => ?_⟩
  obtain ⟨a, xs, e1, hq, hl, hw⟩ := hw
  subst e1
  cases r
  rcases hq with hq | hq
  · obtain ⟨its, rv, ht, hz⟩ := I.tuple (SqT.of (K := X.K) hq)
    refine assign_Tuple_tuple (I.ok.hd hc) ht (by simp [hn, ← hl, rv.length]) hst fun h' hx => ?_
    have I1 : Inv X pins σ H { s with heap := h' } := I.kept (t' := s.toks) fun b o e => hx b o (Nat.ne_of_lt (Heap.lt_size e)) e
    exact h.run pins _ σ H xs _ Q I1 (by simpa using rv) hw
  · obtain ⟨its, rv, hl', hz⟩ := I.list (.inl hq)
    refine assignL (I.ok.hd hc) hl'.isList (by simp [hn, ← hl, rv.length]) hst fun h' hx => ?_
    have I1 : Inv X pins σ H { s with heap := h' } := I.kept (t' := s.toks) fun b o e => hx b o (Nat.ne_of_lt (Heap.lt_size e)) e
    exact h.run pins _ σ H xs _ Q I1 (by simpa using rv) hw
end

section
variable {P : Program} {w : World} {Of : Addr → Prop} {ρ : Env} {σ : L2.St} {H : Hp}
theorem set_get {α : Type} {l : List α} {i j : Nat} {x y : α} (h : (l.set i x)[j]? = some y) : (j = i ∧ y = x) ∨ (j ≠ i ∧ l[j]? = some y) := by
  by_cases e : j = i
  · subst e
    have hl : j < l.length := by
      have := (List.getElem?_eq_some_iff.mp h).1
      simpa using this
    rw [List.getElem?_set_self hl] at h
    exact .inl ⟨rfl, (Option.some.inj h).symm⟩
  · rw [List.getElem?_set_ne (Ne.symm e)] at h
    exact .inr ⟨e, h⟩
/-- a name gets shared data -/
theorem EnvOk.set (E : EnvOk P w Of ρ σ H) {i : Nat} {d : D} {v : V} (r : Rp P w H (Ow Of ρ σ) d v) : EnvOk P w Of (ρ.set i (some (false, d))) (σ.set i (some v)) H := by
  have own : ∀ a, OwnA (ρ.set i (some (false, d))) (σ.set i (some v)) a → OwnA ρ σ a := fun a ⟨j, e, h1, h2⟩ => by
    rcases set_get h1 with ⟨rfl, q⟩ | ⟨n, q⟩
    · cases q
    · rcases set_get h2 with ⟨rfl, q2⟩ | ⟨_, q2⟩
      · exact absurd rfl n
      · exact ⟨j, e, q, q2⟩
  have wk : ∀ a, Ow Of (ρ.set i (some (false, d))) (σ.set i (some v)) a → Ow Of ρ σ a := fun a z => z.elim .inl fun z => .inr (own a z)
  refine ⟨by simp [E.len], E.live, fun j e h => ?_, fun j e h => ?_, fun j l e e' a n h1 h2 h3 h4 => ?_⟩
  · rcases set_get h with ⟨rfl, q⟩ | ⟨n, q⟩
    · cases q
      have hl : j < σ.length := by
        have := (List.getElem?_eq_some_iff.mp h).1
        rw [E.len]; simpa using this
      exact ⟨v, List.getElem?_set_self hl, r.weak wk⟩
    · obtain ⟨u, h1, h2⟩ := E.im j e q
      exact ⟨u, by rw [List.getElem?_set_ne (Ne.symm n)]; exact h1, h2.weak wk⟩
  · rcases set_get h with ⟨rfl, q⟩ | ⟨n, q⟩
    · cases q
    · obtain ⟨a, h1, h2, h3⟩ := E.ow j e q
      exact ⟨a, by rw [List.getElem?_set_ne (Ne.symm n)]; exact h1, h2, h3.go (fun _ z => z) (fun _ _ z _ => z) fun a _ _ n z => n (wk a z)⟩
  · rcases set_get h1 with ⟨rfl, q⟩ | ⟨n1, q⟩
    · cases q
    · rcases set_get h2 with ⟨rfl, q2⟩ | ⟨n2, q2⟩
      · cases q2
      · rw [List.getElem?_set_ne (Ne.symm n1)] at h3
        rw [List.getElem?_set_ne (Ne.symm n2)] at h4
        exact E.apart j l e e' a n q q2 h3 h4
theorem EnvOk.own_set {i : Nat} {d : D} {v : V} {a : Addr} (h : OwnA (ρ.set i (some (false, d))) (σ.set i (some v)) a) : OwnA ρ σ a := by
  obtain ⟨j, e, h1, h2⟩ := h
  rcases set_get h1 with ⟨rfl, q⟩ | ⟨n, q⟩
  · cases q
  · rcases set_get h2 with ⟨rfl, q2⟩ | ⟨_, q2⟩
    · exact absurd rfl n
    · exact ⟨j, e, q, q2⟩
/-- names in a row get shared data -/
theorem bind_names : ∀ {is : List Nat} {ds : List D} {vs : List V} {ρ ρ' : Env} {σ : L2.St}, bindN is ds ρ = some ρ' → EnvOk P w Of ρ σ H → Rps P w H (Ow Of ρ σ) ds vs → ∀ Q : L2.St → Hp → Prop,
    (∀ σ', EnvOk P w Of ρ' σ' H → (∀ a, OwnA ρ' σ' a → OwnA ρ σ a) → σ' = (is.zip vs).foldl (fun s p => s.set p.1 (some p.2)) σ → Q σ' H) → gNms is vs σ H Q
  | [], [], _, ρ, ρ', σ, h, E, .nil, Q, k => by
    simp only [bindN, Option.some.injEq] at h
    subst h
    exact ⟨rfl, k σ E (fun _ z => z) rfl⟩
  | i :: is, d :: ds, _, ρ, ρ', σ, h, E, .cons r rs, Q, k => by
    simp only [bindN] at h
    refine ⟨_, _, rfl, bind_names h (E.set r) (rs.weak fun a z => z.elim .inl fun z => .inr (EnvOk.own_set z)) Q fun σ' E' o e => k σ' E' (fun a z => EnvOk.own_set (o a z)) ?_⟩
    rw [e]
    rfl
  | [], _ :: _, _, _, _, _, h, _, _, _, _ => by simp [bindN] at h
  | _ :: _, [], _, _, _, _, h, _, _, _, _ => by simp [bindN] at h
def tgIx : Tg → List Nat
  | .nm i => [i]
  | .tp is => is
/-- a target gets shared data -/
theorem bind_to {t : Tg} {d : D} {v : V} {ρ' : Env} (h : bindT t d ρ = some ρ') (E : EnvOk P w Of ρ σ H) (r : RpB P w H (Ow Of ρ σ) d v) (r1 : ∀ i, t = .nm i → Rp P w H (Ow Of ρ σ) d v) (Q : L2.St → Hp → Prop)
    (k : ∀ σ', EnvOk P w Of ρ' σ' H → (∀ a, OwnA ρ' σ' a → OwnA ρ σ a) → (∃ vs : List V, σ' = ((tgIx t).zip vs).foldl (fun s p => s.set p.1 (some p.2)) σ ∧ vs.length = (tgIx t).length) → Q σ' H) : gT t v σ H Q := by
  cases t with
  | nm i =>
    simp only [bindT, Option.some.injEq] at h
    subst h
    exact k _ (E.set (r1 i rfl)) (fun a z => EnvOk.own_set z) ⟨[v], rfl, rfl⟩
  | tp is =>
    have len : ∀ {is : List Nat} {ds : List D} {ρ : Env} {ρ' : Env}, bindN is ds ρ = some ρ' → ds.length = is.length := by
      intro is
      induction is with
      | nil => intro ds ρ ρ' h; cases ds with
        | nil => rfl
        | cons _ _ => simp [bindN] at h
      | cons i is ih => intro ds ρ ρ' h; cases ds with
        | nil => simp [bindN] at h
        | cons d ds => simp only [bindN] at h; simp [ih h]
    cases d with
    | tuple ds =>
      have h' : bindN is ds ρ = some ρ' := h
      cases (show Rp P w H _ (.tuple ds) v from r) with
      | @tup a xs _ n e q => exact ⟨a, xs, rfl, .inl e, by rw [← q.length, len h'], bind_names h' E q Q fun σ' E' o z => k σ' E' o ⟨xs, z, by rw [← q.length, len h']; rfl⟩⟩
    | list ds =>
      have h' : bindN is ds ρ = some ρ' := h
      obtain ⟨a, xs, rfl, e, q⟩ := r
      exact ⟨a, xs, rfl, .inr e, by rw [← q.length, len h'], bind_names h' E q Q fun σ' E' o z => k σ' E' o ⟨xs, z, by rw [← q.length, len h']; rfl⟩⟩
    | _ => simp [bindT] at h
end
end Rk

/-! What is walked, by data; comprehensions. -/
set_option autoImplicit false
set_option linter.all false
set_option maxRecDepth 100000
namespace Rk
open PySem PySem.Spec PyProof.Rows L2

/-- from H1 on the walk J yields the items; O0: where nothing of them lies; O1: what may be changed meanwhile -/
structure ItOk (P : Program) (w : World) (H1 : Hp) (O0 O1 : Addr → Prop) (items : List D) (J : It) : Prop where
  go : ∀ i H, i < items.length → (∀ a o, H1 a = some o → ¬ O1 a → H a = some o) → J.go i H
  yld : ∀ i H x H' d, items[i]? = some d → (∀ a o, H1 a = some o → ¬ O1 a → H a = some o) → J.yld i H x H' → Same H H' ∧ ∀ O : Addr → Prop, (∀ p, H p = none → ¬ O p) → (∀ a o, H1 a = some o → ¬ O0 a → ¬ O a) → Rp P w H' O d x
  stop : ∀ H, (∀ a o, H1 a = some o → ¬ O1 a → H a = some o) → J.stop items.length H
  len : items.length ≤ sizeLine

section
variable {P : Program} {w : World} {H1 : Hp} {O0 O1 : Addr → Prop}
theorem rps_go {ds : List D} {vs : List V} {H : Hp} {O : Addr → Prop} (q : Rps P w H1 O0 ds vs) (sub : ∀ a, O1 a → O0 a) (st : ∀ a o, H1 a = some o → ¬ O1 a → H a = some o) (ho : ∀ a o, H1 a = some o → ¬ O0 a → ¬ O a) : Rps P w H O ds vs :=
  q.go (fun a o e n => st a o e fun z => n (sub a z)) ho
theorem rp_go {d : D} {v : V} {H : Hp} {O : Addr → Prop} (q : Rp P w H1 O0 d v) (sub : ∀ a, O1 a → O0 a) (st : ∀ a o, H1 a = some o → ¬ O1 a → H a = some o) (ho : ∀ a o, H1 a = some o → ¬ O0 a → ¬ O a) : Rp P w H O d v :=
  q.go (fun a o e n => st a o e fun z => n (sub a z)) ho
/-- a list, a tuple -/
theorem itOk_list {K : PySem.W.Frag} {a : Addr} {xs : List V} {ds : List D} (h : Rd H1 a (.lst xs)) (q : Rps P w H1 O0 ds xs) (sub : ∀ a, O1 a → O0 a) (hn : ¬ O1 a) (hz : xs.length ≤ sizeLine) : ItOk P w H1 O0 O1 ds (Itl K a) where
  go := fun i H hi st => ⟨xs, xs[i]'(by rw [← q.length]; exact hi), .inl (rd_keep (fun o e => st a o e hn) h), List.getElem?_eq_getElem _⟩
  yld := fun i H x H' d hd st hy => by
    obtain ⟨rfl, hx⟩ := hy
    refine ⟨Same.refl _, fun O hO ho => ?_⟩
    obtain ⟨v, h1, h2⟩ := q.get hd
    rw [hx xs (.inl (rd_keep (fun o e => st a o e hn) h))] at h1
    cases h1
    exact rp_go h2 sub st ho
  stop := fun H st => ⟨xs, .inl (rd_keep (fun o e => st a o e hn) h), by rw [q.length]; exact Nat.le_refl _⟩
  len := by rw [q.length]; exact hz
theorem itOk_tup {K : PySem.W.Frag} {a : Addr} {xs : List V} {ds : List D} (h : H1 a = some (.tup xs)) (q : Rps P w H1 O0 ds xs) (sub : ∀ a, O1 a → O0 a) (hn : ¬ O1 a) (hz : xs.length ≤ sizeLine) : ItOk P w H1 O0 O1 ds (Itt K a) where
  go := fun i H hi st => ⟨xs, xs[i]'(by rw [← q.length]; exact hi), SqT.of (st a _ h hn), List.getElem?_eq_getElem _⟩
  yld := fun i H x H' d hd st hy => by
    obtain ⟨rfl, hx⟩ := hy
    refine ⟨Same.refl _, fun O hO ho => ?_⟩
    obtain ⟨v, h1, h2⟩ := q.get hd
    rw [hx xs (SqT.of (st a _ h hn))] at h1
    cases h1
    exact rp_go h2 sub st ho
  stop := fun H st => ⟨xs, SqT.of (st a _ h hn), by rw [q.length]; exact Nat.le_refl _⟩
  len := by rw [q.length]; exact hz
def signsD (x : Str) : List D := x.cps.toList.map fun c => .str ⟨#[c]⟩
theorem signs_rps {H : Hp} {O : Addr → Prop} (x : Str) : Rps P w H O (signsD x) (signs x) := by
  unfold signsD signs
  generalize x.cps.toList = l
  induction l with
  | nil => exact .nil
  | cons c l ih => exact .cons (.str _) ih
theorem itOk_str {x : Str} (hf : fitsN x.length = true) : ItOk P w H1 O0 O1 (signsD x) (Its x) where
  go := fun i H hi st => by
    show i < x.cps.size
    simpa [signsD] using hi
  yld := fun i H v H' d hd st hy => by
    obtain ⟨rfl, c, hc, rfl⟩ := hy
    refine ⟨Same.refl _, fun O hO ho => ?_⟩
    simp only [signsD, List.getElem?_map, Option.map_eq_some_iff] at hd
    obtain ⟨c', h1, rfl⟩ := hd
    have : x.cps.toList[i]? = some c := by simpa using hc
    rw [this] at h1
    cases h1
    exact .str _
  stop := fun H st => by
    show x.cps.size ≤ (signsD x).length
    simp [signsD]
  len := by
    have := fits_le hf
    simp only [signsD, List.length_map, Array.length_toList]
    exact Nat.le_of_lt this
theorem itOk_range {lo : Int} {n : Nat} (hf : fitsN n = true) : ItOk P w H1 O0 O1 ((List.range n).map fun (k : Nat) => .int (lo + k)) (Itr lo n) where
  go := fun i H hi st => by
    show i < n
    simpa using hi
  yld := fun i H v H' d hd st hy => by
    obtain ⟨rfl, rfl⟩ := hy
    refine ⟨Same.refl _, fun O hO ho => ?_⟩
    simp only [List.getElem?_map, Option.map_eq_some_iff] at hd
    obtain ⟨k, h1, rfl⟩ := hd
    have : k = i := by
      obtain ⟨h2, h3⟩ := List.getElem?_eq_some_iff.mp h1
      simpa using h3.symm
    rw [this]
    exact .int _
  stop := fun H st => by
    show n ≤ ((List.range n).map _).length
    simp
  len := by
    have := fits_le hf
    simp only [List.length_map, List.length_range]
    exact Nat.le_of_lt this
theorem itOk_dict {a : Addr} {ep : Nat} {es : List (NestedKey × Addr × V)} {kvs : List (D × D)} (h : H1 a = some (dHO P w a ep es)) (q : Rpe P w H1 O0 kvs es) (sub : ∀ a, O1 a → O0 a) (hn : ¬ O1 a) (hf : fitsN kvs.length = true) : ItOk P w H1 O0 O1 (kvs.map (·.1)) (ItD P w a ep es) where
  go := fun i H hi st => ⟨st a _ h hn, by rw [← cr_len.rpe_len q]; simpa using hi⟩
  yld := fun i H x H' d hd st hy => by
    obtain ⟨rfl, hx⟩ := hy
    refine ⟨Same.refl _, fun O hO ho => ?_⟩
    obtain ⟨e, h1, h2⟩ := key_get q hd
    rw [hx e h1]
    exact rp_go h2 sub st ho
  stop := fun H st => ⟨st a _ h hn, by rw [← cr_len.rpe_len q]; simp⟩
  len := by
    have := fits_le hf
    rw [List.length_map]
    exact Nat.le_of_lt this
where
  key_get {H : Hp} {O : Addr → Prop} : ∀ {kvs : List (D × D)} {es : List (NestedKey × Addr × V)} {i : Nat} {d : D}, Rpe P w H O kvs es → (kvs.map (·.1))[i]? = some d → ∃ e, es[i]? = some e ∧ Rp P w H O d (.ref e.2.1)
  | _, _, _, _, .nil, e => by simp at e
  | _, _, 0, _, .cons a n b t, e => by simp at e; subst e; exact ⟨_, rfl, a⟩
  | _, _, i + 1, d, .cons a n b t, e => by
    obtain ⟨x, h1, h2⟩ := key_get (i := i) (d := d) t (by simpa using e)
    exact ⟨x, by simpa using h1, h2⟩
/-- a source by its kind -/
theorem Sk.keep {k : Sk} {xs : List V} {H : Hp} (h : k.is H1 xs) (st : ∀ b ∈ k.fp, ∀ o, H1 b = some o → H b = some o) : k.is H xs := by
  cases k with
  | list a => exact rd_keep (fun o e => st a (by simp [Sk.fp]) o e) (show Rd H1 a (.lst xs) from h)
  | tup a => exact st a (by simp [Sk.fp]) _ (show H1 a = some (.tup xs) from h)
  | str x t => exact h
theorem itOk_enum {k : Sk} {xs : List V} {ds : List D} (h : k.is H1 xs) (q : Rps P w H1 O0 ds xs) (sub : ∀ a, O1 a → O0 a) (hn : ∀ b ∈ k.fp, ¬ O1 b) (hz : ds.length ≤ sizeLine) : ItOk P w H1 O0 O1 (ds.mapIdx fun i x => .tuple [.int i, x]) (ItE k) where
  go := fun i H hi st => ⟨xs, xs[i]'(by rw [← q.length]; simpa using hi), Sk.keep h fun b hb o e => st b o e (hn b hb), List.getElem?_eq_getElem _⟩
  yld := fun i H x H' d hd st hy => by
    obtain ⟨T, y, rfl, hT, rfl, hx⟩ := hy
    refine ⟨same_new hT, fun O hO ho => ?_⟩
    simp only [List.getElem?_mapIdx, Option.map_eq_some_iff] at hd
    obtain ⟨d', h1, rfl⟩ := hd
    obtain ⟨v, h2, h3⟩ := q.get h1
    rw [hx xs (Sk.keep h fun b hb o e => st b o e (hn b hb))] at h2
    cases h2
    exact .tup (hO T hT) upd_same (.cons (.int _) (.cons ((rp_go h3 sub st ho).same (same_new hT)) .nil))
  stop := fun H st => ⟨xs, Sk.keep h fun b hb o e => st b o e (hn b hb), by simp [q.length]⟩
  len := by simpa using hz
theorem itOk_zip {k l : Sk} {xs ys : List V} {ds es : List D} (h : k.is H1 xs) (h' : l.is H1 ys) (q : Rps P w H1 O0 ds xs) (q' : Rps P w H1 O0 es ys) (sub : ∀ a, O1 a → O0 a) (hn : ∀ b ∈ k.fp, ¬ O1 b) (hn' : ∀ b ∈ l.fp, ¬ O1 b) (hz : ds.length ≤ sizeLine) :
    ItOk P w H1 O0 O1 ((ds.zip es).map fun p => .tuple [p.1, p.2]) (ItZ k l) where
  go := fun i H hi st => by
    have hi' : i < min xs.length ys.length := by
      rw [← q.length, ← q'.length]
      simpa using hi
    exact ⟨xs, ys, xs[i]'(by omega), ys[i]'(by omega), Sk.keep h fun b hb o e => st b o e (hn b hb), Sk.keep h' fun b hb o e => st b o e (hn' b hb), List.getElem?_eq_getElem _, List.getElem?_eq_getElem _⟩
  yld := fun i H x H' d hd st hy => by
    obtain ⟨T, y, z, rfl, hT, rfl, hx, hx'⟩ := hy
    refine ⟨same_new hT, fun O hO ho => ?_⟩
    simp only [List.getElem?_map, Option.map_eq_some_iff] at hd
    obtain ⟨⟨d1, d2⟩, h1, rfl⟩ := hd
    rw [List.getElem?_zip_eq_some] at h1
    obtain ⟨v, h2, h3⟩ := q.get h1.1
    obtain ⟨v', h2', h3'⟩ := q'.get h1.2
    rw [hx xs (Sk.keep h fun b hb o e => st b o e (hn b hb))] at h2
    rw [hx' ys (Sk.keep h' fun b hb o e => st b o e (hn' b hb))] at h2'
    cases h2; cases h2'
    exact .tup (hO T hT) upd_same (.cons ((rp_go h3 sub st ho).same (same_new hT)) (.cons ((rp_go h3' sub st ho).same (same_new hT)) .nil))
  stop := fun H st => ⟨xs, ys, Sk.keep h fun b hb o e => st b o e (hn b hb), Sk.keep h' fun b hb o e => st b o e (hn' b hb), by simp [q.length, q'.length]⟩
  len := by
    rw [List.length_map, List.length_zip]
    exact Nat.le_trans (Nat.min_le_left _ _) hz
end

/-! ### the judgement -/
def wI (P : Program) (w : World) (F : FT) (k : Ik) (is : List Ex) : TI := fun σ H R => ∃ Of ρ rs items, EnvOk P w Of ρ σ H ∧ evL F is ρ = some rs ∧ walkD k (rs.map (·.2)) = some items ∧
  ∀ J H1 vs, Same H H1 → (∀ O1 : Addr → Prop, (∀ a, O1 a → Ow Of ρ σ a) → (∀ a, lentA rs vs a → ¬ O1 a) → ItOk P w H1 (Ow Of ρ σ) O1 items J) → R J H1
abbrev SI (F : FT) (X : Cx) (tg e : Expr) (k : Ik) (is : List Ex) : Prop := PI X tg e (wI X.prog X.w F k is)

section
variable {F : FT} {X : Cx} {N : List Str} {sc : Scope} {fns : List (Nat × Str)} {cs : List (Str × D)} {tg : Expr}
theorem evL_one {F : FT} {i : Ex} {ρ : Env} {rs : List (Tag × D)} (h : evL F [i] ρ = some rs) : ∃ r, ev F i ρ = some r ∧ rs = [r] := by
  simp only [evL] at h
  split at h
  · rename_i x hx
    simp only [Option.map_some, Option.some.injEq] at h
    exact ⟨x, hx, h.symm⟩
  · cases h
theorem evL_two {F : FT} {i j : Ex} {ρ : Env} {rs : List (Tag × D)} (h : evL F [i, j] ρ = some rs) : ∃ r q, ev F i ρ = some r ∧ ev F j ρ = some q ∧ rs = [r, q] := by
  rw [evL] at h
  split at h
  · rename_i x hx
    obtain ⟨rs', h1, rfl⟩ := Option.map_eq_some_iff.mp h
    obtain ⟨q, h2, rfl⟩ := evL_one h1
    exact ⟨x, q, hx, h2, rfl⟩
  · cases h
/-- where a thing that was given by an expression does not lie -/
theorem post_notO {P : Program} {w : World} {H H' : Hp} {O O1 : Addr → Prop} {a : Addr} {r : Tag × D} {rs : List (Tag × D)} {vs : List V} {n : Nat} (hm : isMut r.2 = true ∨ (∃ xs, r.2 = .tuple xs)) (h : Post P w H O H' (.ref a) r) (hr : rs[n]? = some r) (hv : vs[n]? = some (.ref a)) (sub : ∀ a, O1 a → O a) (hl : ∀ a, lentA rs vs a → ¬ O1 a) : ¬ O1 a := by
  obtain ⟨t, d⟩ := r
  by_cases e : t = .ow
  · subst e
    exact hl a ⟨n, d, hr, hv⟩
  · intro z
    have q := h.2.1 e
    have za := sub a z
    cases d with
    | list ds => cases q with | lst n1 e1 s1 => exact n1 za
    | tuple ds => cases q with | tup n1 e1 s1 => exact n1 za
    | dict ds => cases q with
      | dic n1 y1 e1 s1 u1 => exact n1 za
      | dik n1 e1 s1 u1 => exact n1 za
    | _ => rcases hm with hm | ⟨xs, hm⟩ <;> simp [isMut] at hm
theorem si_seq {e : Expr} {i : Ex} (h : SE F X e i) : SI F X tg e .seq [i] := by
  refine ⟨fun pins s σ H R I hw => ?_⟩
  obtain ⟨Of, ρ, rs, items, E, hrs, hwk, k⟩ := hw
  obtain ⟨r, hr, rfl⟩ := evL_one hrs
  obtain ⟨t, d⟩ := r
  have hit : itemsOf d = some items := hwk
  cases d with
  | list ds =>
    simp only [itemsOf, Option.some.injEq] at hit
    subst hit
    refine thn ((pi_list h).run pins s σ H (fun J H1 => ∃ a xs, Rd H1 a (.lst xs) ∧ (xs.length ≤ sizeLine → R J H1)) I ⟨Of, ρ, _, E, hr, fun v H1 s1 p1 => ?_⟩) fun v s1 h1 => thn h1 fun itv s2 ⟨it, fp, tn, J, H', e1, I', T, t0, f0, a, xs, hx, hR⟩ => ⟨it, fp, tn, J, H', e1, I', T, t0, f0, hR (hx.ok I'.hok).1⟩
    obtain ⟨a, xs, rfl, e1, q1⟩ := p1.1
    exact ⟨a, rfl, ⟨xs, .inl e1⟩, a, xs, e1, fun hz => k _ _ [.ref a] s1 fun O1 sub hl => itOk_list e1 q1 sub (post_notO (n := 0) (.inl rfl) p1 rfl rfl sub hl) hz⟩
  | tuple ds =>
    simp only [itemsOf, Option.some.injEq] at hit
    subst hit
    refine thn ((pi_tup h).run pins s σ H (fun J H1 => ∃ a xs, H1 a = some (.tup xs) ∧ (xs.length ≤ sizeLine → R J H1)) I ⟨Of, ρ, _, E, hr, fun v H1 s1 p1 => ?_⟩) fun v s1 h1 => thn h1 fun itv s2 ⟨it, fp, tn, J, H', e1, I', T, t0, f0, a, xs, hx, hR⟩ => ⟨it, fp, tn, J, H', e1, I', T, t0, f0, hR (show ObjOk X.prog X.w H' s2.heap a (.tup xs) from I'.hok a _ hx).1⟩
    cases (show Rp X.prog X.w H1 _ (.tuple ds) v from p1.1) with
    | @tup a xs _ n1 e1 q1 => exact ⟨a, rfl, ⟨xs, SqT.of e1⟩, a, xs, e1, fun hz => k _ _ [.ref a] s1 fun O1 sub hl => itOk_tup e1 q1 sub (fun z => n1 (sub a z)) hz⟩
  | str x =>
    simp only [itemsOf] at hit
    split at hit
    · rename_i hf
      cases hit
      refine (pi_str h).run pins s σ H R I ⟨Of, ρ, _, E, hr, fun v H1 s1 p1 => ?_⟩
      cases (show Rp X.prog X.w H1 _ (.str x) v from p1.1)
      exact ⟨x, rfl, k _ _ [.str x] s1 fun O1 sub hl => itOk_str hf⟩
    · cases hit
  | dict kvs =>
    simp only [itemsOf] at hit
    split at hit
    · rename_i hcc
      simp only [Bool.and_eq_true] at hcc
      cases hit
      refine thn (h.run pins s σ H _ I ⟨Of, ρ, _, E, hr, fun v H1 s1 p1 => (show (fun v H1 => Same H H1 ∧ Post X.prog X.w H (Ow Of ρ σ) H1 v (t, .dict kvs)) v H1 from ⟨s1, p1⟩)⟩) fun v s1 ⟨x, H1, I1, r1, q0, p1⟩ => ?_
      obtain ⟨a, es, rfl, hs, ⟨ep, hH⟩, re, nd⟩ := p1.1.dictT hcc.1
      cases r1
      obtain ⟨⟨o, ents, xs, h1, h2, h3, h4, h5⟩, _, _⟩ := (show ObjOk X.prog X.w H1 s1.heap a (dHO X.prog X.w a ep es) from I1.hok a _ hH)
      have hsz : ents.size = es.length := by
        rw [← Array.length_toList, h4, List.length_map]
        exact (Paired.length h5).symm
      refine wpAny_pyIter_dict_raw hs ⟨o, h1, h2, h3⟩ ?_
      refine ⟨s1.heap.objs.size, [s1.heap.objs.size], _, _, H1, rfl, I1.kept (t' := s1.toks) fun b o e => Heap.get?_push_of_some _ e, turnD a _ ep es, ⟨_, Heap.get?_push_size _ rfl, rfl, by rw [hsz]; rfl⟩, fun b hb => ?_,
        k _ _ [.ref a] q0 fun O1 sub hl => itOk_dict hH re sub (post_notO (n := 0) (.inl rfl) p1 rfl rfl sub hl) hcc.2⟩
      have e : b = s1.heap.objs.size := by simpa using hb
      subst e
      exact I1.fpOk (Nat.le_refl _) (I1.hok.fresh (Nat.le_refl _))
    · cases hit
  | _ => simp [itemsOf] at hit
theorem rangeD_some {a b : Int} {items : List D} (h : rangeD a b = some items) : (-(2 ^ 62) ≤ a ∧ a < 2 ^ 62) ∧ (-(2 ^ 62) ≤ b ∧ b < 2 ^ 62) ∧ fitsN (b - a).toNat = true ∧ items = (List.range (b - a).toNat).map fun (k : Nat) => .int (a + k) := by
  unfold rangeD at h
  split at h
  · rename_i hc
    simp only [Bool.and_eq_true, decide_eq_true_eq] at hc
    cases h
    refine ⟨by omega, by omega, hc.2, rfl⟩
  · cases h
theorem si_range1 (G : Gx F X N sc fns cs) {e : Expr} {i : Ex} {p pos : Pos} (h : SE F X e i) (hg : sc.names.lookup ("range" : Str) = some .globalImplicit := by rfl) (hs : starEach [e] X.env = [(false, eval e X.env)] := by rfl) : SI F X tg (.Call (.Name "range" p) [e] [] pos) .range1 [i] := by
  have pa : PA X [e] (tCons (tI X.prog X.w F i) tNil) := pa_cons h pa_nil (by rw [hs]; rfl)
  refine ⟨fun pins s σ H R I hw => ?_⟩
  obtain ⟨Of, ρ, rs, items, E, hrs, hwk, k⟩ := hw
  obtain ⟨r, hr, rfl⟩ := evL_one hrs
  obtain ⟨t, d⟩ := r
  cases d with
  | int n =>
    obtain ⟨h1, h2, hff, rfl⟩ := rangeD_some (show rangeD 0 n = some items from hwk)
    refine (pi_range1 (show X.env.kindOf ("range" : Str) = some .globalImplicit by unfold Env.kindOf; rw [G.hsc]; exact hg) (G.blt _ (by decide)) pa hs).run pins s σ H R I ?_
    refine ⟨Of, ρ, _, E, hr, fun v H1 s1 p1 => ?_⟩
    cases (show Rp X.prog X.w H1 _ (.int n) v from p1.1)
    refine ⟨n, rfl, h2.1, h2.2, k _ _ [.int n] s1 fun O1 sub hl => ?_⟩
    have : (n - 0).toNat = n.toNat := by rw [Int.sub_zero]
    rw [this] at hff ⊢
    exact itOk_range hff
  | _ => simp [walkD] at hwk
theorem si_range2 (G : Gx F X N sc fns cs) {e e2 : Expr} {i j : Ex} {p pos : Pos} (h : SE F X e i) (h' : SE F X e2 j) (hg : sc.names.lookup ("range" : Str) = some .globalImplicit := by rfl) (hs : starEach [e, e2] X.env = [(false, eval e X.env), (false, eval e2 X.env)] := by rfl) (hs2 : starEach [e2] X.env = [(false, eval e2 X.env)] := by rfl) :
    SI F X tg (.Call (.Name "range" p) [e, e2] [] pos) .range2 [i, j] := by
  have pa : PA X [e, e2] (tCons (tI X.prog X.w F i) (tCons (tI X.prog X.w F j) tNil)) := pa_cons h (pa_cons h' pa_nil (by rw [hs2]; rfl)) (by rw [hs, hs2])
  refine ⟨fun pins s σ H R I hw => ?_⟩
  obtain ⟨Of, ρ, rs, items, E, hrs, hwk, k⟩ := hw
  obtain ⟨r, q, hr, hq, rfl⟩ := evL_two hrs
  obtain ⟨t, d⟩ := r
  obtain ⟨t2, d2⟩ := q
  cases d with
  | int a =>
    cases d2 with
    | int b =>
      obtain ⟨h1, h2, hff, rfl⟩ := rangeD_some (show rangeD a b = some items from hwk)
      refine (pi_range2 (show X.env.kindOf ("range" : Str) = some .globalImplicit by unfold Env.kindOf; rw [G.hsc]; exact hg) (G.blt _ (by decide)) pa hs hs2).run pins s σ H R I ?_
      refine ⟨Of, ρ, _, E, hr, fun v H1 s1 p1 => ⟨Of, ρ, _, E.same s1, hq, fun u H2 s2 p2 => ?_⟩⟩
      cases (show Rp X.prog X.w H1 _ (.int a) v from p1.1)
      cases (show Rp X.prog X.w H2 _ (.int b) u from p2.1)
      exact ⟨a, b, rfl, ⟨h1.1, h1.2, h2.1, h2.2⟩, k _ _ [.int a, .int b] (s1.trans s2) fun O1 sub hl => itOk_range hff⟩
    | _ => simp [walkD] at hwk
  | _ => cases d2 <;> simp [walkD] at hwk
/-- a list, tuple or text as a source -/
theorem seq_src {pins : List (Addr × Obj)} {σ : L2.St} {s : Shared} {H H1 : Hp} {O : Addr → Prop} {v : V} {u : Value} {r : Tag × D} {items : List D} (I : Inv X pins σ H1 s) (hs : seqOf r.2 = some items) (p : Post X.prog X.w H O H1 v r) (ru : RelV v u) :
    ∃ (k : Sk) (xs : List V), u = k.val ∧ k.is H1 xs ∧ Rps X.prog X.w H1 O items xs ∧ (∀ b ∈ k.fp, v = .ref b ∧ (isMut r.2 = true ∨ ∃ ys, r.2 = .tuple ys)) ∧ items.length ≤ sizeLine := by
  obtain ⟨t, d⟩ := r
  cases d with
  | list ds =>
    simp only [seqOf, Option.some.injEq] at hs
    subst hs
    obtain ⟨a, xs, rfl, e1, q1⟩ := p.1
    cases ru
    exact ⟨.list a, xs, rfl, e1, q1, fun b hb => ⟨by have : b = a := by simpa [Sk.fp] using hb
                                                     rw [this], .inl rfl⟩, by rw [q1.length]; exact (e1.ok I.hok).1⟩
  | tuple ds =>
    simp only [seqOf, Option.some.injEq] at hs
    subst hs
    cases (show Rp X.prog X.w H1 _ (.tuple ds) v from p.1) with
    | @tup a xs _ n1 e1 q1 =>
      cases ru
      exact ⟨.tup a, xs, rfl, e1, q1, fun b hb => ⟨by have : b = a := by simpa [Sk.fp] using hb
                                                      rw [this], .inr ⟨_, rfl⟩⟩, by rw [q1.length]; exact (show ObjOk X.prog X.w H1 s.heap a (.tup xs) from I.hok a _ e1).1⟩
  | str x =>
    simp only [seqOf] at hs
    split at hs
    · rename_i hf
      cases hs
      cases (show Rp X.prog X.w H1 _ (.str x) v from p.1)
      obtain ⟨tk, rfl⟩ := ru
      have := fits_le hf
      exact ⟨.str x tk, signs x, rfl, rfl, signs_rps x, (fun b hb => by simp [Sk.fp] at hb), by simp only [List.length_map, Array.length_toList]; exact Nat.le_of_lt this⟩
    · cases hs
  | _ => simp [seqOf] at hs
theorem si_enum (G : Gx F X N sc fns cs) {e : Expr} {i : Ex} {p pos tpos : Pos} {elts : List Expr} {kk : Nat} (h : SE F X e i) (hg : sc.names.lookup ("enumerate" : Str) = some .globalImplicit := by rfl) (hs : starEach [e] X.env = [(false, eval e X.env)] := by rfl) :
    SI F X (.Tuple elts kk tpos) (.Call (.Name "enumerate" p) [e] [] pos) .enum [i] := by
  have pa : SL F X [e] [i] := sl_cons h sl_nil (by rw [hs]; rfl)
  refine ⟨fun pins s σ H R I hw => ?_⟩
  obtain ⟨Of, ρ, rs, items, E, hrs, hwk, k⟩ := hw
  obtain ⟨r, hr, rfl⟩ := evL_one hrs
  obtain ⟨its, hseq, rfl⟩ := Option.map_eq_some_iff.mp (show (seqOf r.2).map (fun xs => xs.mapIdx fun i x => PyData.tuple [.int i, x]) = some items from hwk)
  refine Call_ (ld_blt I (show X.env.kindOf ("enumerate" : Str) = some .globalImplicit by unfold Env.kindOf; rw [G.hsc]; exact hg) (G.blt _ (by decide)) boot_enumerate (PyProof.Rows.callWith_type1 (thn (pa.run pos pins s σ H _ I ⟨Of, ρ, [r], E, hrs, fun vs H1 s1 q1 => (show (fun vs H1 => Same H H1 ∧ Paired (fun r v => Post X.prog X.w H (Ow Of ρ σ) H1 v r) [r] vs) vs H1 from ⟨s1, q1⟩)⟩) fun us s1 ⟨vs, H1, I1, r1, q0, q1⟩ => ?_) hs rfl))
  obtain ⟨v, rfl, p1⟩ := pair1 q1
  obtain ⟨u, rfl, ru⟩ := Vals.one r1
  obtain ⟨sk, xs, rfl, his, q2, hfp, hlen⟩ := seq_src I1 hseq p1 ru
  obtain ⟨o, Hc, B, hc, hit⟩ := Sk.begin I1 his
  refine enum_begin1 B hc fun h' he ho hk => wpAny_pyIter_enum he ?_
  have I2 : Inv X pins σ H1 { s1 with heap := h' } := I1.kept (t' := s1.toks) hk
  refine ⟨s1.heap.objs.size + 1, [s1.heap.objs.size + 1, s1.heap.objs.size], _, _, H1, rfl, I2, turnE sk (s1.heap.objs.size + 1) s1.heap.objs.size (Nat.succ_ne_self _), ⟨⟨.none, he⟩, hit _ _ ho⟩, fun b hb => ?_,
    k _ _ [v] q0 fun O1 sub hl => itOk_enum his q2 sub (fun b hb => ?_) hlen⟩
  · have e' : b = s1.heap.objs.size + 1 ∨ b = s1.heap.objs.size := by simpa using hb
    have hle : s1.heap.objs.size ≤ b := by
      rcases e' with z | z
      · rw [z]; exact Nat.le_add_right _ _
      · rw [z]; exact Nat.le_refl _
    exact I1.fpOk hle (I1.hok.fresh hle)
  · obtain ⟨e1, e2⟩ := hfp b hb
    subst e1
    exact post_notO (n := 0) e2 p1 rfl rfl sub hl
theorem si_zip (G : Gx F X N sc fns cs) {e e2 : Expr} {i j : Ex} {p pos tpos : Pos} {elts : List Expr} {kk : Nat} (h : SE F X e i) (h' : SE F X e2 j) (hg : sc.names.lookup ("zip" : Str) = some .globalImplicit := by rfl) (hs : starEach [e, e2] X.env = [(false, eval e X.env), (false, eval e2 X.env)] := by rfl) (hs2 : starEach [e2] X.env = [(false, eval e2 X.env)] := by rfl) :
    SI F X (.Tuple elts kk tpos) (.Call (.Name "zip" p) [e, e2] [] pos) .zip [i, j] := by
  have pa : SL F X [e, e2] [i, j] := sl_cons h (sl_cons h' sl_nil (by rw [hs2]; rfl)) (by rw [hs, hs2])
  refine ⟨fun pins s σ H R I hw => ?_⟩
  obtain ⟨Of, ρ, rs, items, E, hrs, hwk, k⟩ := hw
  obtain ⟨r, q, hr, hq, rfl⟩ := evL_two hrs
  obtain ⟨its, hseq, hwk⟩ := Option.bind_eq_some_iff.mp (show ((seqOf r.2).bind fun xs => (seqOf q.2).map fun ys => (xs.zip ys).map fun p => PyData.tuple [p.1, p.2]) = some items from hwk)
  obtain ⟨its2, hseq2, rfl⟩ := Option.map_eq_some_iff.mp hwk
  refine Call_ (ld_blt I (show X.env.kindOf ("zip" : Str) = some .globalImplicit by unfold Env.kindOf; rw [G.hsc]; exact hg) (G.blt _ (by decide)) boot_zip (PyProof.Rows.callWith_type1 (thn (pa.run pos pins s σ H _ I ⟨Of, ρ, [r, q], E, hrs, fun vs H1 s1 q1 => (show (fun vs H1 => Same H H1 ∧ Paired (fun r v => Post X.prog X.w H (Ow Of ρ σ) H1 v r) [r, q] vs) vs H1 from ⟨s1, q1⟩)⟩) fun us s1 ⟨vs, H1, I1, r1, q0, q1⟩ => ?_) (by rw [hs, hs2]) (by rw [hs2]; rfl)))
  obtain ⟨v, v2, rfl, p1, p2⟩ := pair2 q1
  obtain ⟨u, u2, rfl, ru, ru2⟩ := Vals.two r1
  obtain ⟨sk, xs, rfl, his, q2, hfp, hlen⟩ := seq_src I1 hseq p1 ru
  obtain ⟨sk2, ys, rfl, his2, q3, hfp2, hz2⟩ := seq_src I1 hseq2 p2 ru2
  obtain ⟨o, Hc, B, hc, hit⟩ := Sk.begin I1 his
  obtain ⟨o2, Hc2, B2, hc2, hit2⟩ := Sk.begin I1 his2
  generalize hn : s1.heap.objs.size = n
  refine zip_begins2 B B2 hc hc2 fun h' hz hT hO h1 h2 hsz hk => wpAny_pyIter_zip hz ?_
  rw [hn] at hz hT hO h1 h2 hsz ⊢
  have I2 : Inv X pins σ H1 { s1 with heap := h' } := I1.kept (t' := s1.toks) hk
  have Z : Zap (n + 4) (n + 2) (n + 3) n (n + 1) := zap_new n
  refine ⟨n + 4, [n + 4, n + 2, n + 3, n, n + 1], _, _, H1, rfl, I2, turnZ sk sk2 Z, ⟨hz, hT, ⟨_, _, hO⟩, hit _ _ h1, hit2 _ _ h2⟩, fun b hb => ?_,
    k _ _ [v, v2] q0 fun O1 sub hl => itOk_zip his his2 q2 q3 sub (fun b hb => ?_) (fun b hb => ?_) hlen⟩
  · have hle : s1.heap.objs.size ≤ b := by
      rw [hn]
      have e' : b = n + 4 ∨ b = n + 2 ∨ b = n + 3 ∨ b = n ∨ b = n + 1 := by simpa using hb
      exact zap_le e'
    exact I1.fpOk hle (I1.hok.fresh hle)
  · obtain ⟨e1, e2⟩ := hfp b hb
    subst e1
    exact post_notO (n := 0) e2 p1 rfl rfl sub hl
  · obtain ⟨e1, e2⟩ := hfp2 b hb
    subst e1
    exact post_notO (n := 1) e2 p2 rfl rfl sub hl
where
  zap_new (n : Nat) : Zap (n + 4) (n + 2) (n + 3) n (n + 1) := ⟨zneq n 2 4, zneq n 3 4, zneq n 2 3, zneq n 2 0, zneq n 2 1, zneq n 4 0, zneq n 4 1, zneq n 3 0, zneq n 3 1, zneq n 0 1⟩
  zneq (n i j : Nat) (h : i ≠ j := by decide) : n + i ≠ n + j := by omega
  zap_le {n b : Nat} (h : b = n + 4 ∨ b = n + 2 ∨ b = n + 3 ∨ b = n ∨ b = n + 1) : n ≤ b := by omega
end
end Rk

/-! Comprehensions. -/
set_option autoImplicit false
set_option linter.all false
set_option maxRecDepth 100000
namespace Rk
open PySem PySem.Spec PyProof.Rows L2

def wipeE (ρ : Env) : List Nat → Env
  | [] => ρ
  | v :: vs => (wipeE ρ vs).set v none
theorem EnvOk.clear {P : Program} {w : World} {Of : Addr → Prop} {ρ : Env} {σ : L2.St} {H : Hp} (E : EnvOk P w Of ρ σ H) (i : Nat) : EnvOk P w Of (ρ.set i none) (σ.set i none) H := by
  have own : ∀ a, OwnA (ρ.set i none) (σ.set i none) a → OwnA ρ σ a := fun a ⟨j, e, h1, h2⟩ => by
    rcases set_get h1 with ⟨rfl, q⟩ | ⟨n, q⟩
    · cases q
    · rcases set_get h2 with ⟨rfl, q2⟩ | ⟨_, q2⟩
      · exact absurd rfl n
      · exact ⟨j, e, q, q2⟩
  have wk : ∀ a, Ow Of (ρ.set i none) (σ.set i none) a → Ow Of ρ σ a := fun a z => z.elim .inl fun z => .inr (own a z)
  refine ⟨by simp [E.len], E.live, fun j e h => ?_, fun j e h => ?_, fun j l e e' a n h1 h2 h3 h4 => ?_⟩
  · rcases set_get h with ⟨rfl, q⟩ | ⟨n, q⟩
    · cases q
    · obtain ⟨u, h1, h2⟩ := E.im j e q
      exact ⟨u, by rw [List.getElem?_set_ne (Ne.symm n)]; exact h1, h2.weak wk⟩
  · rcases set_get h with ⟨rfl, q⟩ | ⟨n, q⟩
    · cases q
    · obtain ⟨a, h1, h2, h3⟩ := E.ow j e q
      exact ⟨a, by rw [List.getElem?_set_ne (Ne.symm n)]; exact h1, h2, h3.go (fun _ z => z) (fun _ _ z _ => z) fun a _ _ n z => n (wk a z)⟩
  · rcases set_get h1 with ⟨rfl, q⟩ | ⟨n1, q⟩
    · cases q
    · rcases set_get h2 with ⟨rfl, q2⟩ | ⟨n2, q2⟩
      · cases q2
      · rw [List.getElem?_set_ne (Ne.symm n1)] at h3
        rw [List.getElem?_set_ne (Ne.symm n2)] at h4
        exact E.apart j l e e' a n q q2 h3 h4
theorem EnvOk.wiped {P : Program} {w : World} {Of : Addr → Prop} {ρ : Env} {σ : L2.St} {H : Hp} (E : EnvOk P w Of ρ σ H) : ∀ is : List Nat, EnvOk P w Of (wipeE ρ is) (wipe σ is) H
  | [] => E
  | i :: is => (EnvOk.wiped E is).clear i
theorem OwnA.wiped {ρ : Env} {σ : L2.St} {a : Addr} : ∀ {is : List Nat}, OwnA (wipeE ρ is) (wipe σ is) a → OwnA ρ σ a
  | [], h => h
  | i :: is, ⟨j, e, h1, h2⟩ => by
    rcases set_get h1 with ⟨rfl, q⟩ | ⟨n, q⟩
    · cases q
    · rcases set_get h2 with ⟨rfl, q2⟩ | ⟨_, q2⟩
      · exact absurd rfl n
      · exact OwnA.wiped (is := is) ⟨j, e, q, q2⟩
theorem wipe_set_comm {α : Type} {l : List (Option α)} {i j : Nat} {x y : Option α} (h : i ≠ j) : (l.set i x).set j y = (l.set j y).set i x := List.set_comm x y h
theorem wipeE_set {ρ : Env} {i : Nat} {x : Option Slot} : ∀ {is : List Nat}, i ∉ is → wipeE (ρ.set i x) is = (wipeE ρ is).set i x
  | [], _ => rfl
  | j :: is, h => by
    simp only [List.mem_cons, not_or] at h
    simp only [wipeE]
    rw [wipeE_set h.2, wipe_set_comm h.1]
theorem bindN_wiped : ∀ {is : List Nat} {ds : List D} {ρ ρ' : Env}, is.Nodup → bindN is ds ρ = some ρ' → bindN is ds (wipeE ρ is) = some ρ'
  | [], [], _, _, _, h => h
  | i :: is, d :: ds, ρ, ρ', n, h => by
    simp only [List.nodup_cons] at n
    simp only [bindN] at h ⊢
    have e : (wipeE ρ (i :: is)).set i (some (false, d)) = wipeE (ρ.set i (some (false, d))) is := by
      rw [wipeE_set n.1]
      simp only [wipeE, List.set_set]
    rw [e]
    exact bindN_wiped n.2 h
  | [], _ :: _, _, _, _, h => by simp [bindN] at h
  | _ :: _, [], _, _, _, h => by simp [bindN] at h
theorem bindT_wiped {t : Tg} {d : D} {ρ ρ' : Env} (n : (tgIx t).Nodup) (h : bindT t d ρ = some ρ') : bindT t d (wipeE ρ (tgIx t)) = some ρ' := by
  cases t with
  | nm i =>
    simp only [bindT, Option.some.injEq] at h ⊢
    rw [← h]
    simp only [tgIx, wipeE, List.set_set]
  | tp is =>
    cases d with
    | tuple ds => exact bindN_wiped n h
    | list ds => exact bindN_wiped n h
    | _ => simp [bindT] at h
theorem wipe_get {σ : L2.St} {j : Nat} : ∀ {is : List Nat}, (wipe σ is)[j]? = if j ∈ is ∧ j < σ.length then some none else σ[j]?
  | [] => by simp [wipe]
  | i :: is => by
    simp only [wipe]
    by_cases e : j = i
    · subst e
      by_cases hl : j < σ.length
      · rw [List.getElem?_set_self (by rw [wipe_length]; exact hl)]
        simp [hl]
      · rw [List.getElem?_eq_none (by simp [wipe_length]; omega)]
        simp [hl]
    · rw [List.getElem?_set_ne (Ne.symm e), wipe_get (is := is)]
      simp [e]
theorem fold_get {σ : L2.St} {j : Nat} : ∀ {is : List Nat} {vs : List V}, j ∉ is → ((is.zip vs).foldl (fun s p => s.set p.1 (some p.2)) σ)[j]? = σ[j]?
  | [], _, _ => by simp
  | _ :: _, [], _ => by simp
  | i :: is, v :: vs, h => by
    simp only [List.mem_cons, not_or] at h
    simp only [List.zip_cons_cons, List.foldl_cons]
    rw [fold_get (σ := σ.set i (some v)) h.2, List.getElem?_set_ne (Ne.symm h.1)]
theorem fold_len : ∀ {l : List (Nat × V)} {σ : L2.St}, (l.foldl (fun s p => s.set p.1 (some p.2)) σ).length = σ.length
  | [], _ => rfl
  | p :: l, σ => by rw [List.foldl_cons, fold_len]; simp
theorem bindN_get {j : Nat} : ∀ {is : List Nat} {ds : List D} {ρ ρ' : Env}, j ∉ is → bindN is ds ρ = some ρ' → ρ'[j]? = ρ[j]?
  | [], [], _, _, _, h => by simp only [bindN, Option.some.injEq] at h; rw [h]
  | i :: is, d :: ds, ρ, ρ', n, h => by
    simp only [List.mem_cons, not_or] at n
    simp only [bindN] at h
    rw [bindN_get n.2 h, List.getElem?_set_ne (Ne.symm n.1)]
  | [], _ :: _, _, _, _, h => by simp [bindN] at h
  | _ :: _, [], _, _, _, h => by simp [bindN] at h
theorem bindT_get {t : Tg} {j : Nat} {d : D} {ρ ρ' : Env} (n : j ∉ tgIx t) (h : bindT t d ρ = some ρ') : ρ'[j]? = ρ[j]? := by
  cases t with
  | nm i =>
    simp only [bindT, Option.some.injEq] at h
    simp only [tgIx, List.mem_singleton] at n
    rw [← h, List.getElem?_set_ne (Ne.symm n)]
  | tp is =>
    cases d with
    | tuple ds => exact bindN_get n h
    | list ds => exact bindN_get n h
    | _ => simp [bindT] at h
theorem freeT_not {t : Tg} {ρ : Env} (h : freeT t ρ = true) {j : Nat} {d : D} (e : ρ[j]? = some (some (true, d))) : j ∉ tgIx t := fun m => by
  have h' : ∀ i ∈ tgIx t, (match ρ[i]? with | some (some (true, _)) => false | _ => true) = true := by
    cases t with
    | nm i => exact List.all_eq_true.mp h
    | tp is => exact List.all_eq_true.mp h
  have := h' j m
  rw [e] at this
  cases this
theorem wipe_fold {σ : L2.St} {is : List Nat} {vs : List V} : wipe ((is.zip vs).foldl (fun s p => s.set p.1 (some p.2)) (wipe σ is)) is = wipe σ is := by
  apply List.ext_getElem?
  intro j
  rw [wipe_get, fold_len, wipe_length]
  by_cases h : j ∈ is
  · by_cases hl : j < σ.length
    · rw [if_pos ⟨h, hl⟩, wipe_get, if_pos ⟨h, hl⟩]
    · rw [if_neg (fun z => hl z.2), List.getElem?_eq_none (by rw [fold_len, wipe_length]; omega), List.getElem?_eq_none (by rw [wipe_length]; omega)]
  · rw [if_neg (fun z => h z.1), fold_get h]

/-- a new foreign thing -/
theorem EnvOk.more {P : Program} {w : World} {Of : Addr → Prop} {ρ : Env} {σ : L2.St} {H : Hp} (E : EnvOk P w Of ρ σ H) {p : Addr} {xs : List V} (hp : H p = none) : EnvOk P w (fun a => Of a ∨ a = p) ρ σ (upd H p (.lst xs)) := by
  have s := same_new (o := .lst xs) hp
  have ho : ∀ a o, H a = some o → ¬ Ow Of ρ σ a → ¬ Ow (fun a => Of a ∨ a = p) ρ σ a := fun a o e n z => by
    rcases z with (z | z) | z
    · exact n (.inl z)
    · rw [z, hp] at e; cases e
    · exact n (.inr z)
  refine ⟨E.len, fun a z => ?_, fun i d h => ?_, fun i d h => ?_, E.apart⟩
  · rcases z with z | z
    · obtain ⟨o, e, n⟩ := E.live a z
      exact ⟨o, s _ _ e, n⟩
    · subst z
      exact ⟨_, upd_same, fun xs e => by cases e⟩
  · obtain ⟨v, e, r⟩ := E.im i d h
    exact ⟨v, e, r.go (fun a o z _ => s a o z) ho⟩
  · obtain ⟨a, e, n, r⟩ := E.ow i d h
    refine ⟨a, e, fun z => ?_, r.go (fun o z => s _ o z) (fun a o z _ => s a o z) ho⟩
    rcases z with z | z
    · exact n z
    · obtain ⟨o, q⟩ := r.ex
      rw [z, hp] at q; cases q
/-- the foreign list grows -/
theorem EnvOk.grow {P : Program} {w : World} {Of : Addr → Prop} {ρ : Env} {σ : L2.St} {H : Hp} {p : Addr} {xs ys : List V} (E : EnvOk P w (fun a => Of a ∨ a = p) ρ σ H) : EnvOk P w (fun a => Of a ∨ a = p) ρ σ (upd H p (.lst ys)) := by
  have k : ∀ a o, H a = some o → ¬ Ow (fun a => Of a ∨ a = p) ρ σ a → upd H p (.lst ys) a = some o := fun a o e n => by
    rw [upd_ne (fun z => n (.inl (.inr z)))]; exact e
  refine ⟨E.len, fun a z => ?_, fun i d h => ?_, fun i d h => ?_, E.apart⟩
  · by_cases e : a = p
    · subst e; exact ⟨_, upd_same, fun xs e => by cases e⟩
    · obtain ⟨o, q, n⟩ := E.live a z
      exact ⟨o, by rw [upd_ne e]; exact q, n⟩
  · obtain ⟨v, e, r⟩ := E.im i d h
    exact ⟨v, e, r.go k fun _ _ _ n => n⟩
  · obtain ⟨a, e, n, r⟩ := E.ow i d h
    exact ⟨a, e, n, r.go (fun o z => by rw [upd_ne (fun q => n (.inr q))]; exact z) k fun _ _ _ n => n⟩

section
variable {F : FT} {X : Cx} {N : List Str} {sc : Scope} {fns : List (Nat × Str)} {cs : List (Str × D)}
theorem compL_len {t : Tg} {c : Env → Option Bool} {e : Env → Option D} {ρ : Env} : ∀ {items : List D} {ds : List D}, compL t c e ρ items = some ds → ds.length ≤ items.length
  | [], _, h => by simp only [compL, Option.some.injEq] at h; subst h; exact Nat.le_refl _
  | d :: items, ds, h => by
    simp only [compL] at h
    split at h
    · split at h
      · split at h
        · obtain ⟨ds', h1, rfl⟩ := Option.map_eq_some_iff.mp h
          have := compL_len h1
          simp only [List.length_cons]
          omega
        · cases h
      · have := compL_len h
        simp only [List.length_cons]
        omega
      · cases h
    · cases h
theorem lc_all {P : Program} {w : World} {t : Tg} {items : List D} {c : Env → Option Bool} {e : Env → Option D} {tt : TT} {te : TE} {Of : Addr → Prop} {ρ : Env} {σ : L2.St} {H H1 : Hp} {J : It} {ds : List D} {Q : VK} (hn : (tgIx t).Nodup)
    (hc : ∀ σ' H' Q', (∃ Of' ρ' b, EnvOk P w Of' ρ' σ' H' ∧ c ρ' = some b ∧ ∀ H'', Same H' H'' → Q' b H'') → tt σ' H' Q')
    (he : ∀ σ' H' Q', (∃ Of' ρ' d, EnvOk P w Of' ρ' σ' H' ∧ e ρ' = some d ∧ ∀ v H'', Same H' H'' → Rp P w H'' (Ow Of' ρ' σ') d v → Q' v H'') → te σ' H' Q')
    (E : EnvOk P w Of ρ σ H) (s1 : Same H H1) (hfree : freeT t ρ = true) (hcomp : compL t c e ρ items = some ds) (ok : ItOk P w H1 (Ow Of ρ σ) (fun _ => False) items J)
    (k : ∀ p H', Same H H' → Rp P w H' (Ow Of ρ σ) (.list ds) (.ref p) → H p = none → OwnAt P w H' (fun b => Ow Of ρ σ b ∨ b = p) p (.list ds) → Q (.ref p) H') :
    ∀ p, H1 p = none → ∃ W : Nat → Nat → Hp → Prop, (∃ m, W 0 m (upd H1 p (.lst []))) ∧ ∀ i m H, W i m H → (J.stop i H ∧ Q (.ref p) H) ∨ (J.go i H ∧ ∃ Nx : Hp → Prop, (∀ H', Nx H' → ∃ m', m' < m ∧ W (i + 1) m' H') ∧ ∀ x H', J.yld i H x H' →
      gT t x (wipe σ (tgIx t)) H' fun σ2 H2 => wipe σ2 (tgIx t) = wipe σ (tgIx t) ∧ tt σ2 H2 fun b H3 => if b = true then te σ2 H3 fun y H4 => ∃ acc, H4 p = some (.lst acc) ∧ acc.length < sizeLine ∧ Nx (upd H4 p (.lst (acc ++ [y]))) else Nx H3) := by
  intro p hp
  have E1 := E.same s1
  have pO : ¬ Ow Of ρ σ p := E1.fresh hp
  have hz := ok.len
  let O' : Addr → Prop := Ow (fun a => Of a ∨ a = p) ρ σ
  have hO' : ∀ a, Ow Of ρ σ a → O' a := fun a z => z.elim (fun z => .inl (.inl z)) .inr
  refine ⟨fun i m H => m = items.length - i ∧ i ≤ items.length ∧ (∀ a o, H1 a = some o → H a = some o) ∧ EnvOk P w (fun a => Of a ∨ a = p) ρ σ H ∧ ∃ pre rest acc, compL t c e ρ (items.drop i) = some rest ∧ ds = pre ++ rest ∧ H p = some (.lst acc) ∧ Rps P w H O' pre acc ∧ pre.length ≤ i,
    ⟨items.length, rfl, Nat.zero_le _, fun a o e => same_new hp a o e, E1.more hp, [], ds, [], hcomp, rfl, upd_same, .nil, Nat.le_refl _⟩, ?_⟩
  rintro i m H2 ⟨rfl, hi, st, E2, pre, rest, acc, hrest, hds, hD, hacc, hpl⟩
  have st' : ∀ a o, H1 a = some o → ¬ (fun _ => False) a → H2 a = some o := fun a o e _ => st a o e
  by_cases hlt : i < items.length
  · refine .inr ⟨ok.go i H2 hlt st', fun H' => (∀ a o, H1 a = some o → H' a = some o) ∧ EnvOk P w (fun a => Of a ∨ a = p) ρ σ H' ∧ ∃ pre rest acc, compL t c e ρ (items.drop (i + 1)) = some rest ∧ ds = pre ++ rest ∧ H' p = some (.lst acc) ∧ Rps P w H' O' pre acc ∧ pre.length ≤ i + 1,
      fun H' q => ⟨items.length - (i + 1), by omega, rfl, hlt, q⟩, fun x H' hy => ?_⟩
    have hd : items[i]? = some items[i] := List.getElem?_eq_getElem hlt
    obtain ⟨s2, hr⟩ := ok.yld i H2 x H' items[i] hd st' hy
    have hdrop : items.drop i = items[i] :: items.drop (i + 1) := List.drop_eq_getElem_cons hlt
    rw [hdrop] at hrest
    simp only [compL] at hrest
    split at hrest
    · rename_i ρ' hb
      have E3 := E2.same s2
      have Ew := E3.wiped (tgIx t)
      have rx : Rp P w H' (Ow (fun a => Of a ∨ a = p) (wipeE ρ (tgIx t)) (wipe σ (tgIx t))) items[i] x := by
        refine hr _ (fun q hq z => ?_) fun a o e n z => ?_
        · rcases z with (z | z) | z
          · obtain ⟨o, e, _⟩ := E2.live q (.inl z); rw [hq] at e; cases e
          · rw [z, hD] at hq; cases hq
          · exact E2.fresh hq (.inr (OwnA.wiped z))
        · rcases z with (z | z) | z
          · exact n (.inl z)
          · rw [z, hp] at e; cases e
          · exact n (.inr (OwnA.wiped z))
      refine bind_to (bindT_wiped hn hb) Ew rx.b (fun _ _ => rx) _ fun σ' E4 own ⟨vs, hσ, hvl⟩ => ⟨by rw [hσ]; exact wipe_fold, ?_⟩
      have keepA : ∀ {Ha Hb : Hp} {pre : List D} {acc : List V}, Same Ha Hb → Rps P w Ha O' pre acc → Rps P w Hb O' pre acc := fun s r => r.same s
      split at hrest
      · rename_i hcb
        refine hc _ _ _ ⟨_, ρ', true, E4, hcb, fun H3 s3 => ?_⟩
        refine iT ?_
        split at hrest
        · rename_i d hed
          obtain ⟨rest', hr', rfl⟩ := Option.map_eq_some_iff.mp hrest
          refine he _ _ _ ⟨_, ρ', d, E4.same s3, hed, fun y H4 s4 ry => ⟨acc, s4 _ _ (s3 _ _ (s2 _ _ hD)), ?_, ?_⟩⟩
          · rw [← hacc.length]
            omega
          · have E5 : EnvOk P w (fun a => Of a ∨ a = p) ρ σ H4 := (E3.same s3).same s4
            have ry' : Rp P w H4 O' d y := by
              refine ry.go (fun _ _ e _ => e) fun a o e n z => ?_
              rcases z with z | ⟨j, e', z1, z2⟩
              · exact n (.inl z)
              · have nj := freeT_not hfree z1
                refine n (.inr ⟨j, e', by rw [bindT_get nj hb]; exact z1, ?_⟩)
                rw [hσ, fold_get nj, wipe_get, if_neg (fun q => nj q.1)]
                exact z2
            refine ⟨fun a o e => ?_, E5.grow (xs := acc), pre ++ [d], rest', acc ++ [y], hr', by rw [hds]; simp, upd_same, ?_, by simp; omega⟩
            · rw [upd_ne (fun z => by rw [z, hp] at e; cases e)]
              exact s4 _ _ (s3 _ _ (s2 _ _ (st a o e)))
            · refine Rps.go (H := H4) (O := O') (fun a o e n => by rw [upd_ne (fun z => n (.inl (.inr z)))]; exact e) (fun _ _ _ n => n) ?_
              exact (((hacc.same s2).same s3).same s4).append (.cons ry' .nil)
        · cases hrest
      · rename_i hcb
        refine hc _ _ _ ⟨_, ρ', false, E4, hcb, fun H3 s3 => ?_⟩
        refine iF ?_
        exact ⟨fun a o e => s3 _ _ (s2 _ _ (st a o e)), E3.same s3, pre, rest, acc, hrest, hds, s3 _ _ (s2 _ _ hD), (hacc.same s2).same s3, by omega⟩
      · cases hrest
    · cases hrest
  · have e : i = items.length := by omega
    subst e
    refine .inl ⟨ok.stop H2 st', ?_⟩
    rw [List.drop_length] at hrest
    simp only [compL, Option.some.injEq] at hrest
    subst hrest
    rw [List.append_nil] at hds
    subst hds
    refine k p H2 (fun a o e => st a o (s1 a o e)) (.lst pO (.inl hD) (hacc.weak hO')) (s1.free hp) ⟨acc, hD, hacc.weak fun a z => z.elim (hO' a) fun z => .inl (.inr z)⟩
end
end Rk

/-! Comprehensions as expressions. -/
set_option autoImplicit false
set_option linter.all false
set_option maxRecDepth 100000
namespace Rk
open PySem PySem.Spec PyProof.Rows L2
section
variable {F : FT} {X : Cx} {N : List Str} {sc : Scope} {fns : List (Nat × Str)} {cs : List (Str × D)}
/-- the context of a block -/
theorem Gx.blk (G : Gx F X N sc fns cs) (scope : Scope) (s : Shared) (H : Hp) (C : Addr) (cl : List (Str × Addr)) (fp : List Addr) : Gx F (X.blk s H scope (compEnvC scope cl C X.env) fp) N (relS scope sc) fns cs :=
  ⟨G.calm, G.nd, G.hN, by rw [← G.hsc]; rfl, G.units, fun i x h => G.call i x h, G.blt, G.con⟩
abbrev isCell (scope : Scope) : Str → Bool := fun x => scope.names.lookup x == some .cell
/-- an item that is kept -/
def tKeep (P : Program) (w : World) (F : FT) (e : Ex) : TE := fun σ H Q => ∃ Of ρ d, EnvOk P w Of ρ σ H ∧ keepOf (ev F e ρ) = some d ∧ ∀ v H', Same H H' → Rp P w H' (Ow Of ρ σ) d v → Q v H'
theorem se_keep {e : Expr} {i : Ex} (h : SE F X e i) : PE X e (tKeep X.prog X.w F i) := h.of fun σ H Q ⟨Of, ρ, d, E, hd, k⟩ => by
  obtain ⟨t, h1, h2⟩ := keepOf_some hd
  exact ⟨Of, ρ, _, E, h1, fun v H' s p => k v H' s (p.2.1 h2)⟩
/-- the reading of a comprehension -/
theorem lc_read {P : Program} {w : World} {t : Tg} {k : Ik} {src : List Ex} {ie : Ex} {c : Env → Option Bool} {tt : TT} {Q : VK} {σ : L2.St} {H : Hp} {Of : Addr → Prop} {ρ : Env} {rs : List (Tag × D)} {items ds : List D} (hn : (tgIx t).Nodup)
    (hc : ∀ σ' H' Q', (∃ Of' ρ' b, EnvOk P w Of' ρ' σ' H' ∧ c ρ' = some b ∧ ∀ H'', Same H' H'' → Q' b H'') → tt σ' H' Q')
    (E : EnvOk P w Of ρ σ H) (h1 : evL F src ρ = some rs) (h2 : walkD k (rs.map (·.2)) = some items) (hf : freeT t ρ = true) (h3 : compL t c (fun ρ' => keepOf (ev F ie ρ')) ρ items = some ds)
    (kk : ∀ v H', Same H H' → Post P w H (Ow Of ρ σ) H' v (.fr, .list ds) → Q v H') : tLc (wI P w F k src) (gT t) tt (tKeep P w F ie) (tgIx t) σ H Q := by
  refine ⟨Of, ρ, rs, items, E, h1, h2, fun J H1 vs s1 ok => ?_⟩
  exact lc_all hn hc (fun σ' H' Q' q => q) E s1 hf h3 (ok (fun _ => False) (fun _ z => z.elim) fun _ _ z => z) fun p H' s2 r hp st => kk _ _ s2 (Post.new r hp st)
theorem se_comp (G : Gx F X N sc fns cs) {tg iter elt : Expr} {scope : Scope} {pos : Pos} {t : Tg} {k : Ik} {src : List Ex} {ie : Ex} (own : List (Str × Nat)) (hi : SI F X tg iter k src)
    (hg : ∀ X', Gx F X' N (relS scope sc) fns cs → X'.fn = isCell scope → SG X' tg t) (he : ∀ X', Gx F X' N (relS scope sc) fns cs → X'.fn = isCell scope → SE F X' elt ie) (ok : blkC N sc scope own = true := by decide +kernel) (ho : own.map (·.2) = tgIx t := by rfl) (hn : (tgIx t).Nodup := by decide)
    (hs : ∀ x, foldedSetIterable iter X.env x = pure x := by intro _; rfl) : SE F X (.ListComp elt [⟨tg, iter, [], 0⟩] scope pos) (.comp t k src ie) := by
  have h := pe_lc (pos := pos) (te := tKeep X.prog X.w F ie) G.calm (by rw [G.hN]; exact G.nd) hi (blkOk_by (own := own) (by rw [G.hN, G.hsc]; exact ok)) (fun s H C cl fp => hg _ (G.blk scope s H C cl fp) rfl) (fun s H C cl fp => pts_nil) (fun s H C cl fp => se_keep (he _ (G.blk scope s H C cl fp) rfl)) hs
  refine h.of fun σ H Q ⟨Of, ρ, r, E, hr, kk⟩ => ?_
  rw [ho]
  simp only [ev] at hr
  split at hr
  · rename_i rs h1
    split at hr
    · rename_i items h2
      split at hr
      · rename_i hf
        obtain ⟨ds, h3, rfl⟩ := Option.map_eq_some_iff.mp hr
        refine lc_read (c := fun _ => some true) hn (fun σ' H' Q' ⟨Of', ρ', b, E', hb, kb⟩ => ?_) E h1 h2 hf h3 kk
        cases hb
        exact kb _ (Same.refl _)
      · cases hr
    · cases hr
  · cases hr
theorem se_compIf (G : Gx F X N sc fns cs) {tg iter elt te : Expr} {scope : Scope} {pos : Pos} {t : Tg} {k : Ik} {src : List Ex} {ie it : Ex} (own : List (Str × Nat)) (hi : SI F X tg iter k src)
    (hg : ∀ X', Gx F X' N (relS scope sc) fns cs → X'.fn = isCell scope → SG X' tg t) (ht : ∀ X', Gx F X' N (relS scope sc) fns cs → X'.fn = isCell scope → SB F X' te it) (he : ∀ X', Gx F X' N (relS scope sc) fns cs → X'.fn = isCell scope → SE F X' elt ie) (ok : blkC N sc scope own = true := by decide +kernel) (ho : own.map (·.2) = tgIx t := by rfl) (hn : (tgIx t).Nodup := by decide)
    (hs : ∀ x, foldedSetIterable iter X.env x = pure x := by intro _; rfl) : SE F X (.ListComp elt [⟨tg, iter, [te], 0⟩] scope pos) (.compIf t k src it ie) := by
  have h := pe_lc (pos := pos) (te := tKeep X.prog X.w F ie) (tt := tT X.prog X.w F it) G.calm (by rw [G.hN]; exact G.nd) hi (blkOk_by (own := own) (by rw [G.hN, G.hsc]; exact ok)) (fun s H C cl fp => hg _ (G.blk scope s H C cl fp) rfl) (fun s H C cl fp => pts_one (ht _ (G.blk scope s H C cl fp) rfl)) (fun s H C cl fp => se_keep (he _ (G.blk scope s H C cl fp) rfl)) hs
  refine h.of fun σ H Q ⟨Of, ρ, r, E, hr, kk⟩ => ?_
  rw [ho]
  simp only [ev] at hr
  split at hr
  · rename_i rs h1
    split at hr
    · rename_i items h2
      split at hr
      · rename_i hf
        obtain ⟨ds, h3, rfl⟩ := Option.map_eq_some_iff.mp hr
        exact lc_read (c := fun ρ' => boolOf (ev F it ρ')) hn (fun σ' H' Q' q => q) E h1 h2 hf h3 kk
      · cases hr
    · cases hr
  · cases hr
end
end Rk

/-! How statements change environments. -/
set_option autoImplicit false
set_option linter.all false
set_option maxRecDepth 100000
namespace Rk
open PySem PySem.Spec PyProof.Rows L2
section
variable {P : Program} {w : World} {Of : Addr → Prop} {ρ : Env} {σ : L2.St} {H H0 H' : Hp}
theorem OwnAt.weak {O O' : Addr → Prop} {a : Addr} {d : D} (h : OwnAt P w H O a d) (ho : ∀ b, O' b → O b) : OwnAt P w H O' a d := h.go (fun _ e => e) (fun _ _ e _ => e) fun b _ _ n z => n (ho b z)
/-- an own name's thing is given away -/
theorem EnvOk.give (E : EnvOk P w Of ρ σ H) {j : Nat} {b : Bool} {d : D} (h : ρ[j]? = some (some (b, d))) : EnvOk P w Of (ρ.set j (some (false, d))) σ H ∧ ∀ a, OwnA (ρ.set j (some (false, d))) σ a → OwnA ρ σ a := by
  have own : ∀ a, OwnA (ρ.set j (some (false, d))) σ a → OwnA ρ σ a := fun a ⟨i, e, h1, h2⟩ => by
    rcases set_get h1 with ⟨rfl, q⟩ | ⟨n, q⟩
    · cases q
    · exact ⟨i, e, q, h2⟩
  have wk : ∀ a, Ow Of (ρ.set j (some (false, d))) σ a → Ow Of ρ σ a := fun a z => z.elim .inl fun z => .inr (own a z)
  refine ⟨⟨by simp [E.len], E.live, fun i e q => ?_, fun i e q => ?_, fun i l e e' a n h1 h2 h3 h4 => ?_⟩, own⟩
  · rcases set_get q with ⟨rfl, q'⟩ | ⟨n, q'⟩
    · cases q'
      cases b with
      | false =>
        obtain ⟨v, h1, h2⟩ := E.im i d h
        exact ⟨v, h1, h2.weak wk⟩
      | true =>
        obtain ⟨a, h1, h2, h3⟩ := E.ow i d h
        refine ⟨_, h1, h3.b.free wk fun c ec z => ?_⟩
        cases ec
        rcases z with z | ⟨l, e, z1, z2⟩
        · exact h2 z
        · rcases set_get z1 with ⟨rfl, y⟩ | ⟨n, y⟩
          · cases y
          · exact E.apart l i e d a n y h z2 h1
    · obtain ⟨v, h1, h2⟩ := E.im i e q'
      exact ⟨v, h1, h2.weak wk⟩
  · rcases set_get q with ⟨rfl, q'⟩ | ⟨n, q'⟩
    · cases q'
    · obtain ⟨a, h1, h2, h3⟩ := E.ow i e q'
      exact ⟨a, h1, h2, h3.weak wk⟩
  · rcases set_get h1 with ⟨rfl, q⟩ | ⟨n1, q⟩
    · cases q
    · rcases set_get h2 with ⟨rfl, q2⟩ | ⟨n2, q2⟩
      · cases q2
      · exact E.apart i l e e' a n q q2 h3 h4
/-- a name gets a new thing -/
theorem EnvOk.setOwn (E : EnvOk P w Of ρ σ H0) (s : Same H0 H) {i : Nat} {a : Addr} {d : D} (n : H0 a = none) (st : OwnAt P w H (fun b => Ow Of ρ σ b ∨ b = a) a d) :
    EnvOk P w Of (ρ.set i (some (true, d))) (σ.set i (some (.ref a))) H ∧ ∀ b, OwnA (ρ.set i (some (true, d))) (σ.set i (some (.ref a))) b → OwnA ρ σ b ∨ b = a := by
  have own : ∀ b, OwnA (ρ.set i (some (true, d))) (σ.set i (some (.ref a))) b → OwnA ρ σ b ∨ b = a := fun b ⟨j, e, h1, h2⟩ => by
    rcases set_get h2 with ⟨rfl, q⟩ | ⟨n, q⟩
    · exact .inr (by cases q; rfl)
    · rcases set_get h1 with ⟨rfl, q1⟩ | ⟨_, q1⟩
      · exact absurd rfl n
      · exact .inl ⟨j, e, q1, q⟩
  have nO : ¬ Ow Of ρ σ a := E.fresh n
  have wk : ∀ b, Ow Of (ρ.set i (some (true, d))) (σ.set i (some (.ref a))) b → Ow Of ρ σ b ∨ b = a := fun b z => z.elim (fun z => .inl (.inl z)) fun z => (own b z).elim (fun z => .inl (.inr z)) .inr
  have ho : ∀ b o, H0 b = some o → ¬ Ow Of ρ σ b → ¬ Ow Of (ρ.set i (some (true, d))) (σ.set i (some (.ref a))) b := fun b o e nb z => (wk b z).elim nb fun z => by rw [z, n] at e; cases e
  refine ⟨⟨by simp [E.len], (E.same s).live, fun j e q => ?_, fun j e q => ?_, fun j l e e' b nn h1 h2 h3 h4 => ?_⟩, own⟩
  · rcases set_get q with ⟨rfl, q'⟩ | ⟨nj, q'⟩
    · cases q'
    · obtain ⟨v, h1, h2⟩ := E.im j e q'
      exact ⟨v, by rw [List.getElem?_set_ne (Ne.symm nj)]; exact h1, h2.go (fun b o e _ => s b o e) ho⟩
  · rcases set_get q with ⟨rfl, q'⟩ | ⟨nj, q'⟩
    · cases q'
      have hl : j < σ.length := by
        have := (List.getElem?_eq_some_iff.mp q).1
        rw [E.len]; simpa using this
      exact ⟨a, List.getElem?_set_self hl, fun z => nO (.inl z), st.weak wk⟩
    · obtain ⟨b, h1, h2, h3⟩ := E.ow j e q'
      exact ⟨b, by rw [List.getElem?_set_ne (Ne.symm nj)]; exact h1, h2, h3.go (fun o e => s b o e) (fun b o e _ => s b o e) ho⟩
  · have clash : ∀ {j : Nat} {e : D}, j ≠ i → ρ[j]? = some (some (true, e)) → (σ.set i (some (V.ref a)))[j]? = some (some (V.ref a)) → False := fun {j e} nj q z => by
      rw [List.getElem?_set_ne (Ne.symm nj)] at z
      exact nO (.inr ⟨j, e, q, z⟩)
    rcases set_get h1 with ⟨rfl, q⟩ | ⟨n1, q⟩
    · rcases set_get h2 with ⟨rfl, q2⟩ | ⟨n2, q2⟩
      · exact nn rfl
      · rcases set_get h3 with ⟨_, y⟩ | ⟨y, _⟩
        · cases y
          exact clash n2 q2 h4
        · exact y rfl
    · rcases set_get h2 with ⟨rfl, q2⟩ | ⟨n2, q2⟩
      · rcases set_get h4 with ⟨_, y⟩ | ⟨y, _⟩
        · cases y
          exact clash n1 q h3
        · exact y rfl
      · rw [List.getElem?_set_ne (Ne.symm n1)] at h3
        rw [List.getElem?_set_ne (Ne.symm n2)] at h4
        exact E.apart j l e e' b nn q q2 h3 h4
/-- an own thing changes -/
theorem EnvOk.changed (E : EnvOk P w Of ρ σ H) {i : Nat} {a : Addr} {d d' : D} {o' : HO} (h : ρ[i]? = some (some (true, d))) (hs : σ[i]? = some (some (.ref a))) (st : OwnAt P w (upd H a o') (Ow Of ρ σ) a d') :
    EnvOk P w Of (ρ.set i (some (true, d'))) σ (upd H a o') ∧ ∀ b, OwnA (ρ.set i (some (true, d'))) σ b ↔ OwnA ρ σ b := by
  have hl : i < ρ.length := (List.getElem?_eq_some_iff.mp h).1
  have own : ∀ b, OwnA (ρ.set i (some (true, d'))) σ b ↔ OwnA ρ σ b := fun b => by
    constructor
    · rintro ⟨j, e, h1, h2⟩
      rcases set_get h1 with ⟨rfl, q⟩ | ⟨n, q⟩
      · exact ⟨j, d, h, h2⟩
      · exact ⟨j, e, q, h2⟩
    · rintro ⟨j, e, h1, h2⟩
      by_cases ej : j = i
      · subst ej
        exact ⟨j, d', List.getElem?_set_self hl, h2⟩
      · exact ⟨j, e, by rw [List.getElem?_set_ne (Ne.symm ej)]; exact h1, h2⟩
  have wk : ∀ b, Ow Of (ρ.set i (some (true, d'))) σ b → Ow Of ρ σ b := fun b z => z.elim .inl fun z => .inr ((own b).mp z)
  have aO : Ow Of ρ σ a := .inr ⟨i, d, h, hs⟩
  obtain ⟨a', ha', nOf, _⟩ := E.ow i d h
  rw [hs] at ha'
  cases ha'
  have k : ∀ b o, H b = some o → ¬ Ow Of ρ σ b → upd H a o' b = some o := fun b o e n => by
    rw [upd_ne (fun z => n (by rw [z]; exact aO))]; exact e
  have ho : ∀ b o, H b = some o → ¬ Ow Of ρ σ b → ¬ Ow Of (ρ.set i (some (true, d'))) σ b := fun b o e n z => n (wk b z)
  refine ⟨⟨by simp [E.len], fun b z => ?_, fun j e q => ?_, fun j e q => ?_, fun j l e e' b nn h1 h2 h3 h4 => ?_⟩, own⟩
  · obtain ⟨o, e, n⟩ := E.live b z
    exact ⟨o, by rw [upd_ne (fun y => nOf (by rw [← y]; exact z))]; exact e, n⟩
  · rcases set_get q with ⟨rfl, q'⟩ | ⟨nj, q'⟩
    · cases q'
    · obtain ⟨v, h1, h2⟩ := E.im j e q'
      exact ⟨v, h1, h2.go k ho⟩
  · rcases set_get q with ⟨rfl, q'⟩ | ⟨nj, q'⟩
    · cases q'
      exact ⟨a, hs, nOf, st.weak wk⟩
    · obtain ⟨b, h1, h2, h3⟩ := E.ow j e q'
      have nb : b ≠ a := fun z => by subst z; exact E.apart j i e d b nj q' h h1 hs
      exact ⟨b, h1, h2, h3.go (fun o e => by rw [upd_ne nb]; exact e) k ho⟩
  · have tr : ∀ {j : Nat} {e : D}, (ρ.set i (some (true, d')))[j]? = some (some (true, e)) → ∃ e0, ρ[j]? = some (some (true, e0)) := fun {j e} q => by
      rcases set_get q with ⟨rfl, _⟩ | ⟨_, q'⟩
      · exact ⟨d, h⟩
      · exact ⟨e, q'⟩
    obtain ⟨e1, q1⟩ := tr h1
    obtain ⟨e2, q2⟩ := tr h2
    exact E.apart j l e1 e2 b nn q1 q2 h3 h4
end

/-! ### readings of statements -/
/-- what is wanted of an outcome; Hb: what must stay as it was -/
def Fin (P : Program) (w : World) (Of : Addr → Prop) (Hb : Hp) (D : Ends) : Out → Prop
  | .nx ρ => ∀ σ H, EnvOk P w Of ρ σ H → (∀ a, OwnA ρ σ a → Hb a = none) → Same Hb H → D.nx σ H
  | .ct ρ => ∀ σ H, EnvOk P w Of ρ σ H → (∀ a, OwnA ρ σ a → Hb a = none) → Same Hb H → D.ct σ H
  | .rt r => ∀ v H, Same Hb H → Rp P w H Of r.2 v → (r.1 = true → ∃ a, v = .ref a ∧ Hb a = none ∧ OwnAt P w H (fun b => Of b ∨ b = a) a r.2) → D.rt v H
def tS (P : Program) (w : World) (F : FT) (st : Sm) : TS := fun D σ H => ∃ Of ρ Hb out, EnvOk P w Of ρ σ H ∧ (∀ a, OwnA ρ σ a → Hb a = none) ∧ Same Hb H ∧ ex F st ρ = some out ∧ Fin P w Of Hb D out
def tB (P : Program) (w : World) (F : FT) (st : List Sm) : TS := fun D σ H => ∃ Of ρ Hb out, EnvOk P w Of ρ σ H ∧ (∀ a, OwnA ρ σ a → Hb a = none) ∧ Same Hb H ∧ exs F st ρ = some out ∧ Fin P w Of Hb D out
abbrev SS (F : FT) (X : Cx) (st : Stmt) (i : Sm) : Prop := PS X st (tS X.prog X.w F i)
abbrev SBk (F : FT) (X : Cx) (st : List Stmt) (i : List Sm) : Prop := PSs X st (tB X.prog X.w F i)
/-- the new base behind an allocation -/
theorem same_own {Hb H H1 : Hp} (s : Same Hb H) (s1 : Same H H1) : Same Hb H1 := s.trans s1

section
variable {F : FT} {X : Cx} {N : List Str} {sc : Scope} {fns : List (Nat × Str)} {cs : List (Str × D)}
theorem sbk_nil : SBk F X [] [] := pss_nil.of fun D σ H ⟨Of, ρ, Hb, out, E, ho, s, h, k⟩ => by
  simp only [exs, Option.some.injEq] at h
  subst h
  exact k σ H E ho s
theorem sbk_cons {st : Stmt} {sts : List Stmt} {i : Sm} {is : List Sm} (h1 : SS F X st i) (h2 : SBk F X sts is) : SBk F X (st :: sts) (i :: is) := (pss_cons h1 h2).of fun D σ H ⟨Of, ρ, Hb, out, E, ho, s, h, k⟩ => by
  simp only [exs] at h
  split at h
  · rename_i ρ' e1
    exact ⟨Of, ρ, Hb, _, E, ho, s, e1, fun σ' H' E' o' s' => ⟨Of, ρ', Hb, out, E', o', s', h, k⟩⟩
  · rename_i hn
    refine ⟨Of, ρ, Hb, out, E, ho, s, h, ?_⟩
    cases out with
    | nx ρ' => exact absurd h (hn ρ')
    | ct ρ' => exact k
    | rt r => exact k
/-- a statement that has no part in it: a docstring -/
theorem sbk_doc {x : Str} {j : Nat} {p p' : Pos} {sts : List Stmt} {is : List Sm} (h2 : SBk F X sts is) : SBk F X (.Expr (.Constant (.str x) j p) p' :: sts) is := (pss_cons ps_doc h2).of fun D σ H h => h
theorem ss_pass {pos : Pos} : SS F X (.Pass pos) .pass := ps_pass.of fun D σ H ⟨Of, ρ, Hb, out, E, ho, s, h, k⟩ => by
  simp only [ex, Option.some.injEq] at h
  subst h
  exact k σ H E ho s
theorem ss_cont {pos : Pos} : SS F X (.Continue pos) .cont := ps_continue.of fun D σ H ⟨Of, ρ, Hb, out, E, ho, s, h, k⟩ => by
  simp only [ex, Option.some.injEq] at h
  subst h
  exact k σ H E ho s
theorem ss_fail {st : Stmt} : SS F X st .fail := ps_never.of fun D σ H ⟨Of, ρ, Hb, out, E, ho, s, h, k⟩ => by
  simp only [ex] at h
  cases h
theorem ss_retN {pos : Pos} : SS F X (.Return none pos) .retN := ps_retN.of fun D σ H ⟨Of, ρ, Hb, out, E, ho, s, h, k⟩ => by
  simp only [ex, Option.some.injEq] at h
  subst h
  exact k _ _ s .non fun z => by cases z
theorem ss_ret {e : Expr} {i : Ex} {pos : Pos} (he : SE F X e i) (hv : isV i = false := by rfl) : SS F X (.Return (some e) pos) (.ret i) := (ps_ret he).of fun D σ H ⟨Of, ρ, Hb, out, E, ho, s, h, k⟩ => by
  simp only [ex] at h
  have wk : ∀ a, Of a → Ow Of ρ σ a := fun a z => .inl z
  split at h
  · rename_i d hd
    cases h
    refine ⟨Of, ρ, _, E, hd, fun v H' s1 p => ?_⟩
    exact k _ _ (s.trans s1) ((p.2.1 (by exact fun z => by cases z)).weak wk) fun z => by cases z
  · rename_i d hd
    cases h
    refine ⟨Of, ρ, _, E, hd, fun v H' s1 p => ?_⟩
    refine k _ _ (s.trans s1) ((p.2.1 (by exact fun z => by cases z)).weak wk) fun z => ?_
    obtain ⟨a, e1, n1, st⟩ := p.2.2 rfl
    exact ⟨a, e1, s.free n1, st.weak fun b z => z.elim (fun z => .inl (.inl z)) .inr⟩
  · rename_i d hd
    rw [hv] at h
    cases h
  · cases h
/-- return name -/
theorem ss_retV (G : Gx F X N sc fns cs) {i : Nat} {x : Str} {p pos : Pos} (hN : N[i]? = some x := by rfl) (hv : Vis sc x := by first | exact .inl rfl | exact .inr (.inl rfl) | exact .inr (.inr rfl))
    (hd : (x == ("__debug__" : Str)) = false := by decide) (hcd : (x == ("__classdict__" : Str)) = false := by decide) : SS F X (.Return (some (.Name x p)) pos) (.ret (.v i)) :=
  (ps_ret (pe_var (i := i) (by rw [G.hN]; exact hN) (by rw [G.hsc]; exact hv) hd hcd)).of fun D σ H ⟨Of, ρ, Hb, out, E, ho, s, h, k⟩ => by
  simp only [ex, ev] at h
  have wk : ∀ a, Of a → Ow Of ρ σ a := fun a z => .inl z
  split at h
  · rename_i d hd
    split at hd
    · cases hd
    · rename_i d' e'
      cases hd
      cases h
      obtain ⟨v, e1, r1⟩ := E.im i d e'
      exact ⟨v, e1, k _ _ s (r1.weak wk) fun z => by cases z⟩
    · cases hd
  · rename_i d hd
    split at hd <;> cases hd
  · rename_i d hd
    split at hd
    · rename_i d' e'
      cases hd
      simp only [isV, if_true, Option.some.injEq] at h
      subst h
      obtain ⟨a, e1, n1, st⟩ := E.ow i d e'
      refine ⟨_, e1, k _ _ s (st.b.free wk fun c ec => by cases ec; exact n1) fun _ => ⟨a, rfl, ho a ⟨i, d, e', e1⟩, st.weak fun b z => ?_⟩⟩
      rcases z with z | z
      · exact .inl z
      · exact .inr (by rw [z]; exact ⟨i, d, e', e1⟩)
    · cases hd
    · cases hd
  · cases h
end
end Rk

/-! Dicts with tuples as keys: new ones, and storing. -/
set_option autoImplicit false
set_option linter.all false
set_option maxRecDepth 100000
namespace Rk
open PySem PySem.Spec PyProof.Rows L2

theorem dHO_ok {P : Program} {w : World} {H : Hp} {h : Heap} {a : Addr} {o : Obj} {ents : Array DictEntry} {ep : Nat} {xs : List (NestedKey × Addr × Value)} {es : List (NestedKey × Addr × V)} (h1 : h.get? a = some o) (h2 : o.ExactDict) (h3 : o.data = .dict ents ep)
    (h4 : ents.toList = xs.map (entryOfKey (nestedKind P w))) (h5 : Paired (fun (e : NestedKey × Addr × V) (x : NestedKey × Addr × Value) => e.1 = x.1 ∧ e.2.1 = x.2.1 ∧ RelV e.2.2 x.2.2) es xs) : ObjOk P w H h a (dHO P w a ep es) :=
  ⟨⟨o, ents, xs, h1, h2, h3, h4, h5⟩, ⟨o, h1⟩, fun g1 g2 ⟨o', ents', xs', q1, q2, q3, q4, q5⟩ k => ⟨o', ents', xs', k _ q1, q2, q3, q4, q5⟩⟩

def esput (k : NestedKey) (b : Addr) (v : V) : List (NestedKey × Addr × V) → List (NestedKey × Addr × V)
  | [] => [(k, b, v)]
  | e :: r => if e.1 = k then (e.1, e.2.1, v) :: r else e :: esput k b v r
def hput (k : NestedKey) (b : Addr) (v : Value) : List (NestedKey × Addr × Value) → List (NestedKey × Addr × Value)
  | [] => [(k, b, v)]
  | e :: r => if e.1 = k then (e.1, e.2.1, v) :: r else e :: hput k b v r
theorem hput_stored {k : NestedKey} {b : Addr} {v : Value} : ∀ {xs : List (NestedKey × Addr × Value)}, (xs.map (·.1)).Nodup → storedH xs k b v = hput k b v xs
  | [], _ => rfl
  | e :: r, n => by
    rw [List.map_cons, List.nodup_cons] at n
    have ih := hput_stored (k := k) (b := b) (v := v) n.2
    by_cases h : e.1 = k
    · simp only [hput, h, if_true]
      have h1 : (atKey (e :: r) k).isSome = true := by simp [atKey, h]
      unfold storedH
      rw [if_pos h1, List.map_cons]
      have h2 : r.map (putAt k v) = r := by
        refine (List.map_congr_left (g := id) fun x hx => ?_).trans (List.map_id r)
        have : ¬ x.1 = k := fun z => n.1 (by rw [h, ← z]; exact List.mem_map.mpr ⟨x, hx, rfl⟩)
        simp [putAt, this]
      rw [h2]
      simp [putAt, h]
    · simp only [hput, h, if_false]
      rw [← ih]
      unfold storedH
      have h1 : atKey (e :: r) k = atKey r k := by simp [atKey, h]
      rw [h1]
      split
      · rw [List.map_cons]
        simp [putAt, h]
      · rfl
theorem esput_paired {k : NestedKey} {b : Addr} {v : V} {u : Value} (rv : RelV v u) : ∀ {es : List (NestedKey × Addr × V)} {xs : List (NestedKey × Addr × Value)},
    Paired (fun (e : NestedKey × Addr × V) (x : NestedKey × Addr × Value) => e.1 = x.1 ∧ e.2.1 = x.2.1 ∧ RelV e.2.2 x.2.2) es xs → Paired (fun (e : NestedKey × Addr × V) (x : NestedKey × Addr × Value) => e.1 = x.1 ∧ e.2.1 = x.2.1 ∧ RelV e.2.2 x.2.2) (esput k b v es) (hput k b u xs)
  | _, _, .nil => .cons ⟨rfl, rfl, rv⟩ .nil
  | _, _, .cons (a := e) (b := x) h q => by
    obtain ⟨h1, h2, h3⟩ := h
    simp only [esput, hput]
    rw [h1]
    split
    · exact .cons ⟨rfl, h2, rv⟩ q
    · exact .cons ⟨h1, h2, h3⟩ (esput_paired rv q)
theorem Rpe.put {P : Program} {w : World} {H : Hp} {O : Addr → Prop} {k : NestedKey} {b : Addr} {v : V} {d : D} (rk : Rp P w H O k.data (.ref b)) (hk : k.depth ≤ 8) (rv : Rp P w H O d v) : ∀ {kvs : List (D × D)} {es : List (NestedKey × Addr × V)},
    Rpe P w H O kvs es → Rpe P w H O (dput kvs k.data d) (esput k b v es)
  | _, _, .nil => .cons rk hk rv .nil
  | _, _, .cons (k := k1) a n c t => by
    simp only [dput, esput]
    rw [data_eqv, ← NestedKey.decide_eq]
    by_cases e : k1 = k
    · subst e
      simp only [decide_true, if_true]
      exact .cons a n rv t
    · simp only [e, decide_false, Bool.false_eq_true, if_false]
      exact .cons a n c (Rpe.put rk hk rv t)

section
variable {F : FT} {X : Cx} {N : List Str} {sc : Scope} {fns : List (Nat × Str)} {cs : List (Str × D)}
theorem se_emp {pos : Pos} : SE F X (.Dict [] [] pos) .emp := by
  refine ⟨fun pins s σ H Q I ⟨Of, ρ, r, E, h, k⟩ => ?_⟩
  simp only [ev, Option.some.injEq] at h
  subst h
  have hn := I.hok.fresh (Nat.le_refl s.heap.objs.size)
  have hb : (s.heap.objs.size == sysModules) = false := beq_eq_false_iff_ne.mpr (Ne.symm (Nat.ne_of_lt I.big))
  refine wpAny_Dict_empty ⟨.ref s.heap.objs.size, _, I.laid (a := s.heap.objs.size) (o := dHO X.prog X.w s.heap.objs.size 0 []) (t' := s.toks) (fun _ _ q => Heap.get?_push_of_some _ q) (Nat.le_refl _)
    (dHO_ok (xs := []) (ents := #[]) (Heap.get?_push_size _ rfl) ⟨rfl, rfl, rfl⟩ rfl rfl .nil), rfl, k _ _ (same_new hn) (.new ?_ hn ?_)⟩
  · exact .dic (E.fresh hn) hb upd_same .nil List.nodup_nil
  · exact ⟨[], hb, ⟨0, upd_same⟩, .nil, List.nodup_nil⟩

/-- d[k] = v, by what stands there -/
def rPut (P : Program) (w : World) : TSet := fun o i v H Q => ∃ a b k es kvs O O', o = .ref a ∧ i = .ref b ∧ (∃ ep, H a = some (dHO P w a ep es)) ∧ Rpe P w H O kvs es ∧ (es.map (·.1)).Nodup ∧ Rp P w H O' (NestedKey.data k) (.ref b) ∧ k.depth ≤ 8 ∧ es.length ≤ sizeLine ∧
  ∀ ep', ((esput k b v es).map (·.1)).Nodup → Q (upd H a (dHO P w a ep' (esput k b v es)))
theorem set_D (hu : X.A.units + 200 < cLine) : PSet X (rPut X.prog X.w) := by
  intro pins s σ H o i v ov iv u Q I ro ri rv h
  obtain ⟨a, b, k, es, kvs, O, O', rfl, rfl, he, re, nd, rk, hk, hz, q⟩ := h
  cases ro
  cases ri
  obtain ⟨xs, dd, pr⟩ := Inv.dictOf I he re nd
  have hl : xs.length ≤ sizeLine := by rw [← Paired.length pr]; exact hz
  refine wpAny_setItem_heap (hsz := hl) (by show X.A.units + 1 + 8 < cLine; omega) (Rp.key I rk hk) dd fun h' dd' hs => ?_
  obtain ⟨ep, he⟩ := he
  obtain ⟨o', ents, ep', q1, q2, q3, q4, _, q6⟩ := dd'
  rw [hput_stored (by rw [← paired_keys pr]; exact nd)] at q4 q6
  have pr' := esput_paired (k := k) (b := b) rv pr
  refine ⟨_, d_write I (by rw [he]; exact True.intro) hs ⟨o', q1⟩ (dHO_ok (es := esput k b v es) q1 q2 q3 q4 pr'), q ep' ?_⟩
  rw [paired_keys pr']
  exact q6
end
end Rk

/-! Statements. -/
set_option autoImplicit false
set_option linter.all false
set_option maxRecDepth 100000
namespace Rk
open PySem PySem.Spec PyProof.Rows L2
section
variable {F : FT} {X : Cx} {N : List Str} {sc : Scope} {fns : List (Nat × Str)} {cs : List (Str × D)}
theorem RpB.weak {P : Program} {w : World} {H : Hp} {O O' : Addr → Prop} {d : D} {v : V} (h : RpB P w H O d v) (ho : ∀ a, O' a → O a) : RpB P w H O' d v := by
  cases d with
  | list ds => obtain ⟨a, xs, e, r, q⟩ := h; exact ⟨a, xs, e, r, q.weak ho⟩
  | dict ds => rcases h with ⟨a, xs, e, y, r, q, n⟩ | ⟨a, xs, e, r, q, n⟩
               · exact .inl ⟨a, xs, e, y, r, q.go (fun _ _ e _ => e) (fun a _ _ n z => n (ho a z)), n⟩
               · exact .inr ⟨a, xs, e, r, q.go (fun _ _ e _ => e) (fun a _ _ n z => n (ho a z)), n⟩
  | none => exact Rp.weak ho (show Rp P w H O _ v from h)
  | bool b => exact Rp.weak ho (show Rp P w H O _ v from h)
  | int b => exact Rp.weak ho (show Rp P w H O _ v from h)
  | str b => exact Rp.weak ho (show Rp P w H O _ v from h)
  | tuple b => exact Rp.weak ho (show Rp P w H O _ v from h)
theorem Post.weak {P : Program} {w : World} {H H' : Hp} {O O' : Addr → Prop} {v : V} {r : Tag × D} (h : Post P w H O H' v r) (ho : ∀ a, O' a → O a) : Post P w H O' H' v r :=
  ⟨h.1.weak ho, fun z => (h.2.1 z).weak ho, fun z => let ⟨a, e, n, st⟩ := h.2.2 z; ⟨a, e, n, st.weak fun b y => y.elim (fun y => .inl (ho b y)) .inr⟩⟩
/-- a new thing that nobody here knows -/
theorem EnvOk.foreign {P : Program} {w : World} {Of : Addr → Prop} {ρ : Env} {σ : L2.St} {H H1 : Hp} (E : EnvOk P w Of ρ σ H) (s : Same H H1) {p : Addr} (hp : H p = none) (al : ∃ o, H1 p = some o ∧ ∀ xs, o ≠ .tup xs) : EnvOk P w (fun a => Of a ∨ a = p) ρ σ H1 := by
  have ho : ∀ a o, H a = some o → ¬ Ow Of ρ σ a → ¬ Ow (fun a => Of a ∨ a = p) ρ σ a := fun a o e n z => by
    rcases z with (z | z) | z
    · exact n (.inl z)
    · rw [z, hp] at e; cases e
    · exact n (.inr z)
  refine ⟨E.len, fun a z => ?_, fun i d h => ?_, fun i d h => ?_, E.apart⟩
  · rcases z with z | z
    · obtain ⟨o, e, n⟩ := E.live a z
      exact ⟨o, s _ _ e, n⟩
    · subst z
      exact al
  · obtain ⟨v, e, r⟩ := E.im i d h
    exact ⟨v, e, r.go (fun a o z _ => s a o z) ho⟩
  · obtain ⟨a, e, n, r⟩ := E.ow i d h
    refine ⟨a, e, fun z => ?_, r.go (fun o z => s _ o z) (fun a o z _ => s a o z) ho⟩
    rcases z with z | z
    · exact n z
    · obtain ⟨o, q⟩ := r.ex
      rw [z, hp] at q; cases q
/-- a name gets what an expression gave -/
theorem EnvOk.put {P : Program} {w : World} {Of : Addr → Prop} {ρ : Env} {σ : L2.St} {H H1 : Hp} {Hb : Hp} {i : Nat} {v : V} {r : Tag × D} (E : EnvOk P w Of ρ σ H) (ho : ∀ a, OwnA ρ σ a → Hb a = none) (s : Same Hb H) (s1 : Same H H1) (p : Post P w H (Ow Of ρ σ) H1 v r) (hr : r.1 ≠ .ow) :
    EnvOk P w Of (ρ.set i (some (slotOf r))) (σ.set i (some v)) H1 ∧ ∀ a, OwnA (ρ.set i (some (slotOf r))) (σ.set i (some v)) a → Hb a = none := by
  obtain ⟨t, d⟩ := r
  cases t with
  | im => exact ⟨(E.same s1).set (p.2.1 hr), fun a z => ho a (EnvOk.own_set z)⟩
  | fr =>
    obtain ⟨a, e, n, st⟩ := p.2.2 rfl
    subst e
    obtain ⟨E', own⟩ := E.setOwn (i := i) s1 n st
    exact ⟨E', fun b z => (own b z).elim (ho b) fun z => by rw [z]; exact s.free n⟩
  | ow => exact absurd rfl hr
theorem thaw_other {e : Ex} {ρ : Env} (h : isV e = false) : thaw e ρ = ρ := by
  cases e <;> first | rfl | simp [isV] at h
/-- name = e -/
theorem set_reads {te : TE} {i : Nat} {e : Ex} (hv : isV e = false) (ht : ∀ σ H Q, tI X.prog X.w F e σ H Q → te σ H Q) : ∀ D σ H, tS X.prog X.w F (.set (.nm i) e) D σ H → tAsg te (gName i) D σ H := fun D σ H ⟨Of, ρ, Hb, out, E, ho, s, h, k⟩ => by
  simp only [ex] at h
  split at h
  · rename_i r hr
    simp only [hv, Bool.not_false, Bool.and_true, decide_eq_true_eq] at h
    split at h
    · cases h
    · rename_i hno
      rw [thaw_other hv] at h
      cases h
      refine ht _ _ _ ⟨Of, ρ, r, E, hr, fun v H1 s1 p => ?_⟩
      obtain ⟨E', o'⟩ := E.put (i := i) ho s s1 p hno
      exact k _ _ E' o' (s.trans s1)
  · cases h
theorem ss_set (G : Gx F X N sc fns cs) {i : Nat} {x : Str} {e : Expr} {ie : Ex} {p pos : Pos} (he : SE F X e ie) (hv : isV ie = false := by rfl) (hi : N[i]? = some x := by rfl) (hx : Loc sc x := by first | exact .inl rfl | exact .inr rfl)
    (hs : swapsWith e (some (.Name x p)) pos.line X.env = pure false := by rfl) (hf : X.fn x = true ∨ sc.names.lookup x = some .local := by first | exact .inr rfl | assumption) : SS F X (.Assign [.Name x p] e pos) (.set (.nm i) ie) :=
  (ps_set (i := i) (by rw [G.hN]; exact G.nd) (by rw [G.hN]; exact hi) (by rw [G.hsc]; exact hx) he hs (by rw [G.hsc]; exact hf)).of (set_reads hv fun _ _ _ q => q)
/-- name = name -/
theorem ss_setV (G : Gx F X N sc fns cs) {i j : Nat} {x y : Str} {p q pos : Pos} (hi : N[i]? = some x := by rfl) (hj : N[j]? = some y := by rfl) (hx : Loc sc x := by first | exact .inl rfl | exact .inr rfl) (hy : Vis sc y := by first | exact .inl rfl | exact .inr (.inl rfl) | exact .inr (.inr rfl))
    (hd : (y == ("__debug__" : Str)) = false := by decide) (hcd : (y == ("__classdict__" : Str)) = false := by decide)
    (hs : swapsWith (.Name y q) (some (.Name x p)) pos.line X.env = pure false := by rfl) (hf : X.fn x = true ∨ sc.names.lookup x = some .local := by first | exact .inr rfl | assumption) : SS F X (.Assign [.Name x p] (.Name y q) pos) (.set (.nm i) (.v j)) :=
  (ps_set (i := i) (by rw [G.hN]; exact G.nd) (by rw [G.hN]; exact hi) (by rw [G.hsc]; exact hx) (pe_var (i := j) (by rw [G.hN]; exact hj) (by rw [G.hsc]; exact hy) hd hcd) hs (by rw [G.hsc]; exact hf)).of fun D σ H ⟨Of, ρ, Hb, out, E, ho, s, h, k⟩ => by
  have go : ∀ {b : Bool} {d : Rk.D}, ρ[j]? = some (some (b, d)) → out = .nx ((ρ.set j (some (false, d))).set i (some (false, d))) → tAsg (tVar j) (gName i) D σ H := fun {b d} e eo => by
    subst eo
    obtain ⟨E1, o1⟩ := E.give e
    have hl : j < ρ.length := (List.getElem?_eq_some_iff.mp e).1
    obtain ⟨v, e1, r1⟩ := E1.im j d (List.getElem?_set_self hl)
    exact ⟨v, e1, k _ _ (E1.set r1) (fun a z => ho a (o1 a (EnvOk.own_set z))) s⟩
  simp only [ex, ev] at h
  split at h
  · rename_i r hr
    split at hr
    · rename_i d e
      cases hr
      simp only [isV, Bool.not_true, Bool.and_false, Bool.false_eq_true, if_false, thaw, e, Option.some.injEq] at h
      exact go e h.symm
    · rename_i d e
      cases hr
      simp only [isV, Bool.not_true, Bool.and_false, Bool.false_eq_true, if_false, thaw, e, Option.some.injEq] at h
      exact go e h.symm
    · cases hr
  · cases h
/-- a, b = e -/
theorem ss_setT (G : Gx F X N sc fns cs) {is : List Nat} {tg e : Expr} {ie : Ex} {pos : Pos} (he : SE F X e ie) (hg : SG X tg (.tp is)) (hs : swapsWithSole [tg] e pos.line X.env = pure false := by rfl) (hw : swappedStores [tg] e X.env = pure none := by rfl)
    (h1 : (assignEach [tg] X.env).map (·.2) = [assign tg X.env] := by rfl) : SS F X (.Assign [tg] e pos) (.set (.tp is) ie) :=
  (ps_asg he hg hs hw h1).of fun D σ H ⟨Of, ρ, Hb, out, E, ho, s, h, k⟩ => by
  simp only [ex] at h
  split at h
  · rename_i r hr
    obtain ⟨ρ', hb, rfl⟩ := Option.map_eq_some_iff.mp h
    refine ⟨Of, ρ, r, E, hr, fun v H1 s1 p => ?_⟩
    exact bind_to hb (E.same s1) p.1 (fun i hi => by cases hi) _ fun σ' E' own _ => k _ _ E' (fun a z => ho a (own a z)) (s.trans s1)
  · cases h
/-- name = [.. for ..] -/
theorem ss_setLc (G : Gx F X N sc fns cs) {i : Nat} {y : Str} {py : Pos} {tg iter elt : Expr} {scope : Scope} {pos spos : Pos} {t : Tg} {k : Ik} {src : List Ex} {ie : Ex} (own : List (Str × Nat)) (hi : SI F X tg iter k src)
    (hg : ∀ X', Gx F X' N (relS scope sc) fns cs → X'.fn = isCell scope → SG X' tg t) (he : ∀ X', Gx F X' N (relS scope sc) fns cs → X'.fn = isCell scope → SE F X' elt ie) (ok : blkC N sc scope own = true := by decide +kernel) (ho : own.map (·.2) = tgIx t := by rfl) (hn : (tgIx t).Nodup := by decide)
    (hy : N[i]? = some y := by rfl) (hyl : sc.names.lookup y = some .local := by rfl) (hk : sc.kind = .function := by rfl) (hl : (py.line == pos.line) = true := by rfl) (ha : (scope.names.any fun (n, k) => n == y && (k == .local || k == .cell)) = false := by decide +kernel)
    (hs : ∀ x, foldedSetIterable iter X.env x = pure x := by intro _; rfl) : SS F X (.Assign [.Name y py] (.ListComp elt [⟨tg, iter, [], 0⟩] scope pos) spos) (.set (.nm i) (.comp t k src ie)) := by
  have h := ps_setLc (i := i) (y := y) (py := py) (pos := pos) (spos := spos) (te := tKeep X.prog X.w F ie) G.calm (by rw [G.hN]; exact G.nd) (by rw [G.hN]; exact hy) (by rw [G.hsc]; exact hyl) (sw_true (by rw [G.hsc]; exact hk) (by rw [G.hsc]; exact hyl) hl ha) hi (blkOk_by (own := own) (by rw [G.hN, G.hsc]; exact ok))
    (fun s H C cl fp => hg _ (G.blk scope s H C cl fp) rfl) (fun s H C cl fp => pts_nil) (fun s H C cl fp => se_keep (he _ (G.blk scope s H C cl fp) rfl)) hs
  refine h.of (set_reads rfl fun σ H Q ⟨Of, ρ, r, E, hr, kk⟩ => ?_)
  rw [ho]
  simp only [ev] at hr
  split at hr
  · rename_i rs h1
    split at hr
    · rename_i items h2
      split at hr
      · rename_i hf
        obtain ⟨ds, h3, rfl⟩ := Option.map_eq_some_iff.mp hr
        refine lc_read (c := fun _ => some true) hn (fun σ' H' Q' ⟨Of', ρ', b, E', hb, kb⟩ => ?_) E h1 h2 hf h3 kk
        cases hb
        exact kb _ (Same.refl _)
      · cases hr
    · cases hr
  · cases hr
theorem ss_setLcIf (G : Gx F X N sc fns cs) {i : Nat} {y : Str} {py : Pos} {tg iter elt te : Expr} {scope : Scope} {pos spos : Pos} {t : Tg} {k : Ik} {src : List Ex} {ie it : Ex} (own : List (Str × Nat)) (hi : SI F X tg iter k src)
    (hg : ∀ X', Gx F X' N (relS scope sc) fns cs → X'.fn = isCell scope → SG X' tg t) (ht : ∀ X', Gx F X' N (relS scope sc) fns cs → X'.fn = isCell scope → SB F X' te it) (he : ∀ X', Gx F X' N (relS scope sc) fns cs → X'.fn = isCell scope → SE F X' elt ie) (ok : blkC N sc scope own = true := by decide +kernel) (ho : own.map (·.2) = tgIx t := by rfl) (hn : (tgIx t).Nodup := by decide)
    (hy : N[i]? = some y := by rfl) (hyl : sc.names.lookup y = some .local := by rfl) (hk : sc.kind = .function := by rfl) (hl : (py.line == pos.line) = true := by rfl) (ha : (scope.names.any fun (n, k) => n == y && (k == .local || k == .cell)) = false := by decide +kernel)
    (hs : ∀ x, foldedSetIterable iter X.env x = pure x := by intro _; rfl) : SS F X (.Assign [.Name y py] (.ListComp elt [⟨tg, iter, [te], 0⟩] scope pos) spos) (.set (.nm i) (.compIf t k src it ie)) := by
  have h := ps_setLc (i := i) (y := y) (py := py) (pos := pos) (spos := spos) (te := tKeep X.prog X.w F ie) (tt := tT X.prog X.w F it) G.calm (by rw [G.hN]; exact G.nd) (by rw [G.hN]; exact hy) (by rw [G.hsc]; exact hyl) (sw_true (by rw [G.hsc]; exact hk) (by rw [G.hsc]; exact hyl) hl ha) hi (blkOk_by (own := own) (by rw [G.hN, G.hsc]; exact ok))
    (fun s H C cl fp => hg _ (G.blk scope s H C cl fp) rfl) (fun s H C cl fp => pts_one (ht _ (G.blk scope s H C cl fp) rfl)) (fun s H C cl fp => se_keep (he _ (G.blk scope s H C cl fp) rfl)) hs
  refine h.of (set_reads rfl fun σ H Q ⟨Of, ρ, r, E, hr, kk⟩ => ?_)
  rw [ho]
  simp only [ev] at hr
  split at hr
  · rename_i rs h1
    split at hr
    · rename_i items h2
      split at hr
      · rename_i hf
        obtain ⟨ds, h3, rfl⟩ := Option.map_eq_some_iff.mp hr
        exact lc_read (c := fun ρ' => boolOf (ev F it ρ')) hn (fun σ' H' Q' q => q) E h1 h2 hf h3 kk
      · cases hr
    · cases hr
  · cases hr
/-- a, b = x, y -/
theorem ss_par (G : Gx F X N sc fns cs) {i j : Nat} {x y : Str} {a b : Expr} {ia ib : Ex} {px py pt pos : Pos} {kt k2 : Nat} {pt2 : Pos} (h1 : SE F X a ia) (h2 : SE F X b ib) (hij : i ≠ j := by decide) (hi : N[i]? = some x := by rfl) (hj : N[j]? = some y := by rfl)
    (hx : sc.names.lookup x = some .local := by rfl) (hy : sc.names.lookup y = some .local := by rfl) (hw : swappedStores [.Tuple [.Name x px, .Name y py] kt pt] (.Tuple [a, b] k2 pt2) X.env = pure (some [x, y]))
    (hs : swapsWithSole [.Tuple [.Name x px, .Name y py] kt pt] (.Tuple [a, b] k2 pt2) pos.line X.env = pure false := by rfl) (ha : starEach [a, b] X.env = (false, eval a X.env) :: starEach [b] X.env := by rfl) (hb : starEach [b] X.env = (false, eval b X.env) :: starEach [] X.env := by rfl) :
    SS F X (.Assign [.Tuple [.Name x px, .Name y py] kt pt] (.Tuple [a, b] k2 pt2) pos) (.par [i, j] [ia, ib]) :=
  (ps_par (i := i) (j := j) G.calm (by rw [G.hN]; exact G.nd) (by rw [G.hN]; exact hi) (by rw [G.hN]; exact hj) hij (by rw [G.hsc]; exact hx) (by rw [G.hsc]; exact hy) (pa_cons h1 (pa_cons h2 pa_nil hb) ha) hw hs).of fun D σ H ⟨Of, ρ, Hb, out, E, ho, s, h, k⟩ => by
  simp only [ex] at h
  split at h
  · rename_i rs hrs
    split at h
    · cases h
    · rename_i hl
      obtain ⟨r, q, hr, hq, rfl⟩ := evL_two hrs
      obtain ⟨ρ', hp, rfl⟩ := Option.map_eq_some_iff.mp h
      simp only [putAll, Option.some.injEq] at hp
      subst hp
      simp only [lent, List.any_cons, List.any_nil, Bool.or_false, Bool.or_eq_true, decide_eq_true_eq, not_or] at hl
      refine ⟨Of, ρ, r, E, hr, fun v H1 s1 p1 => ?_⟩
      obtain ⟨E1, o1⟩ := E.put (i := i) ho s s1 p1 hl.1
      have fin : ∀ u H2, Same H1 H2 → Post X.prog X.w H1 (Ow Of (ρ.set i (some (slotOf r))) (σ.set i (some v))) H2 u q → D.nx ((σ.set i (some v)).set j (some u)) H2 := fun u H2 s2 p2 => by
        obtain ⟨E2, o2⟩ := E1.put (i := j) o1 (s.trans s1) s2 p2 hl.2
        exact k _ _ E2 o2 ((s.trans s1).trans s2)
      obtain ⟨t, d⟩ := r
      cases t with
      | ow => exact absurd rfl hl.1
      | im => exact ⟨Of, ρ, q, E.same s1, hq, fun u H2 s2 p2 => ⟨v, u, rfl, fin u H2 s2 (p2.weak fun a z => z.elim .inl fun z => .inr (EnvOk.own_set z))⟩⟩
      | fr =>
        obtain ⟨p, e, n, st⟩ := p1.2.2 rfl
        subst e
        obtain ⟨o, eo⟩ := st.ex
        refine ⟨fun a => Of a ∨ a = p, ρ, q, E.foreign s1 n ⟨o, eo, fun xs z => by subst z; exact st.ntup eo⟩, hq, fun u H2 s2 p2 => ⟨_, u, rfl, fin u H2 s2 (p2.weak fun a z => ?_)⟩⟩
        rcases z with z | ⟨j, e, z1, z2⟩
        · exact .inl (.inl z)
        · rcases set_get z2 with ⟨rfl, y⟩ | ⟨n, y⟩
          · exact .inl (.inr (by cases y; rfl))
          · rcases set_get z1 with ⟨rfl, y1⟩ | ⟨_, y1⟩
            · exact absurd rfl n
            · exact .inr ⟨j, e, y1, y⟩
  · cases h
end
end Rk

/-! Statements: own lists and dicts; if, while, for. -/
set_option autoImplicit false
set_option linter.all false
set_option maxRecDepth 100000
namespace Rk
open PySem PySem.Spec PyProof.Rows L2
section
variable {F : FT} {X : Cx} {N : List Str} {sc : Scope} {fns : List (Nat × Str)} {cs : List (Str × D)}
theorem ss_exp {e : Expr} {i : Ex} {pos : Pos} (he : SE F X e i) (hs : swapsWith e none pos.line X.env = pure false := by rfl) : SS F X (.Expr e pos) (.exp i) := (ps_expr he hs).of fun D σ H ⟨Of, ρ, Hb, out, E, ho, s, h, k⟩ => by
  simp only [ex] at h
  split at h
  · rename_i r hr
    cases h
    exact ⟨Of, ρ, r, E, hr, fun v H1 s1 p => k _ _ (E.same s1) ho (s.trans s1)⟩
  · cases h
theorem ss_if {c : Expr} {a b : List Stmt} {ic : Ex} {ia ib : List Sm} {pos : Pos} (hc : SB F X c ic) (ha : SBk F X a ia) (hb : SBk F X b ib) : SS F X (.If c a b pos) (.ite ic ia ib) := (ps_if hc ha hb).of fun D σ H ⟨Of, ρ, Hb, out, E, ho, s, h, k⟩ => by
  simp only [ex] at h
  split at h
  · rename_i e
    exact ⟨Of, ρ, true, E, e, fun H1 s1 => iT ⟨Of, ρ, Hb, out, E.same s1, ho, s.trans s1, h, k⟩⟩
  · rename_i e
    exact ⟨Of, ρ, false, E, e, fun H1 s1 => iF ⟨Of, ρ, Hb, out, E.same s1, ho, s.trans s1, h, k⟩⟩
  · cases h
/-- what is wanted, from a nearer base -/
theorem Fin.base {P : Program} {w : World} {Of : Addr → Prop} {Hb Hb' : Hp} {D : Ends} {out : Out} (s : Same Hb Hb') (h : Fin P w Of Hb D out) : Fin P w Of Hb' D out := by
  cases out with
  | nx ρ => exact fun σ H E o s' => h σ H E (fun a z => s.free (o a z)) (s.trans s')
  | ct ρ => exact fun σ H E o s' => h σ H E (fun a z => s.free (o a z)) (s.trans s')
  | rt r => exact fun v H s' r' q => h v H (s.trans s') r' fun z => let ⟨a, e, n, st⟩ := q z; ⟨a, e, s.free n, st⟩
theorem ss_while (hp : PassesOwn (model X.prog X.w) X.A X.env X.xe) {c : Expr} {body : List Stmt} {ic : Ex} {ib : List Sm} {pos : Pos} (hc : SB F X c ic) (hb : SBk F X body ib) : SS F X (.While c body [] pos) (.whl ic ib) := (ps_while hp hc hb).of fun D σ H ⟨Of, ρ, Hb, out, E, ho, s, h, k⟩ => by
  simp only [ex] at h
  refine ⟨fun m σ H => ∃ ρ, EnvOk X.prog X.w Of ρ σ H ∧ (∀ a, OwnA ρ σ a → Hb a = none) ∧ Same Hb H ∧ whlL (fun ρ => boolOf (ev F ic ρ)) (fun ρ => exs F ib ρ) m ρ = some out, ⟨WF, ρ, E, ho, s, h⟩, ?_⟩
  rintro m σ1 H1 ⟨ρ1, E1, o1, s1, h1⟩
  cases m with
  | zero => simp [whlL] at h1
  | succ m =>
    simp only [whlL] at h1
    split at h1
    · rename_i e
      refine ⟨Of, ρ1, true, E1, e, fun H2 s2 => iT ⟨fun σ' H' => ∃ ρ', EnvOk X.prog X.w Of ρ' σ' H' ∧ (∀ a, OwnA ρ' σ' a → Hb a = none) ∧ Same Hb H' ∧ whlL (fun ρ => boolOf (ev F ic ρ)) (fun ρ => exs F ib ρ) m ρ' = some out, fun σ' H' q => ⟨m, Nat.lt_succ_self m, q⟩, ?_⟩⟩
      split at h1
      · rename_i ρ' e'
        exact ⟨Of, ρ1, Hb, _, E1.same s2, o1, s1.trans s2, e', fun σ' H' E' o' s' => ⟨ρ', E', o', s', h1⟩⟩
      · rename_i ρ' e'
        exact ⟨Of, ρ1, Hb, _, E1.same s2, o1, s1.trans s2, e', fun σ' H' E' o' s' => ⟨ρ', E', o', s', h1⟩⟩
      · rename_i n1 n2
        refine ⟨Of, ρ1, Hb, out, E1.same s2, o1, s1.trans s2, h1, ?_⟩
        cases out with
        | nx ρ' => exact absurd h1 (n1 ρ')
        | ct ρ' => exact absurd h1 (n2 ρ')
        | rt r => exact k
    · rename_i e
      cases h1
      exact ⟨Of, ρ1, false, E1, e, fun H2 s2 => iF (k _ _ (E1.same s2) o1 (s1.trans s2))⟩
    · cases h1
theorem EnvOk.thaw {P : Program} {w : World} {Of : Addr → Prop} {ρ : Env} {σ : L2.St} {H : Hp} (E : EnvOk P w Of ρ σ H) (e : Ex) : EnvOk P w Of (thaw e ρ) σ H ∧ ∀ a, OwnA (thaw e ρ) σ a → OwnA ρ σ a := by
  cases e with
  | v j =>
    simp only [Rk.thaw]
    split
    · rename_i b d h
      exact E.give h
    · exact ⟨E, fun _ z => z⟩
  | _ => exact ⟨E, fun _ z => z⟩
theorem EnvOk.thaws {P : Program} {w : World} {Of : Addr → Prop} {σ : L2.St} {H : Hp} : ∀ (es : List Ex) {ρ : Env} (E : EnvOk P w Of ρ σ H), EnvOk P w Of (thaws es ρ) σ H ∧ ∀ a, OwnA (thaws es ρ) σ a → OwnA ρ σ a
  | [], _, E => ⟨E, fun _ z => z⟩
  | e :: es, _, E => by
    obtain ⟨E1, o1⟩ := E.thaw e
    obtain ⟨E2, o2⟩ := EnvOk.thaws es E1
    exact ⟨E2, fun a z => o1 a (o2 a z)⟩
open Classical in
theorem ss_for (G : Gx F X N sc fns cs) (hp : PassesOwn (model X.prog X.w) X.A X.env X.xe) {tg iter : Expr} {body : List Stmt} {t : Tg} {k : Ik} {src : List Ex} {ib : List Sm} {pos : Pos} (hi : SI F X tg iter k src) (hg : SG X tg t) (hb : SBk F X body ib)
    (hs : ∀ x, foldedSetIterable iter X.env x = pure x := by intro _; rfl) : SS F X (.For tg iter body [] pos) (.for_ t k src ib) := (ps_for hp G.calm hi hg hb hs).of fun D σ H ⟨Of, ρ, Hb, out, E, ho, s, h, kk⟩ => by
  simp only [ex] at h
  obtain ⟨E0, o0⟩ := EnvOk.thaws src E
  generalize thaws src ρ = ρ0 at h E0 o0
  split at h
  · rename_i rs hrs
    split at h
    · cases h
    · rename_i hl
      split at h
      · rename_i items hw
        refine ⟨Of, ρ0, rs, items, E0, hrs, hw, fun J H1 vs s1 ok => ?_⟩
        have ok := ok (OwnA ρ0 σ) (fun a z => .inr z) fun a z => absurd z (lent_none (by simpa using hl) a)
        generalize hHb' : (fun a => if OwnA ρ0 σ a then none else H1 a : Hp) = Hb'
        have b1 : ∀ a, OwnA ρ0 σ a → Hb' a = none := fun a z => by rw [← hHb']; exact if_pos z
        have b2 : ∀ a, ¬ OwnA ρ0 σ a → Hb' a = H1 a := fun a z => by rw [← hHb']; exact if_neg z
        have sb : Same Hb Hb' := fun a o e => by
          by_cases z : OwnA ρ0 σ a
          · rw [ho a (o0 a z)] at e; cases e
          · rw [b2 a z]; exact s1 a o (s a o e)
        have s0 : Same Hb' H1 := fun a o e => by
          by_cases z : OwnA ρ0 σ a
          · rw [b1 a z] at e; cases e
          · rw [b2 a z] at e; exact e
        have kk := kk.base sb
        refine ⟨fun i m σ H => m = items.length - i ∧ i ≤ items.length ∧ ∃ ρ, EnvOk X.prog X.w Of ρ σ H ∧ (∀ a, OwnA ρ σ a → Hb' a = none) ∧ Same Hb' H ∧ forL (fun d ρ => match bindT t d ρ with
          | some ρ' => exs F ib ρ'
          | none => none) (items.drop i) ρ = some out, ⟨items.length, rfl, Nat.zero_le _, ρ0, E0.same s1, b1, s0, h⟩, ?_⟩
        rintro i m σ2 H2 ⟨rfl, hi, ρ2, E2, o2, s2, h2⟩
        have st : ∀ a o, H1 a = some o → ¬ OwnA ρ0 σ a → H2 a = some o := fun a o e n => s2 a o (by rw [b2 a n]; exact e)
        by_cases hlt : i < items.length
        · refine .inr ⟨ok.go i H2 hlt st, fun σ' H' => ∃ ρ', EnvOk X.prog X.w Of ρ' σ' H' ∧ (∀ a, OwnA ρ' σ' a → Hb' a = none) ∧ Same Hb' H' ∧ forL (fun d ρ => match bindT t d ρ with
            | some ρ' => exs F ib ρ'
            | none => none) (items.drop (i + 1)) ρ' = some out, fun σ' H' q => ⟨items.length - (i + 1), by omega, rfl, hlt, q⟩, fun x H3 hy => ?_⟩
          have hd : items[i]? = some items[i] := List.getElem?_eq_getElem hlt
          obtain ⟨s3, hr⟩ := ok.yld i H2 x H3 items[i] hd st hy
          have rx : Rp X.prog X.w H3 (Ow Of ρ2 σ2) items[i] x := hr _ (fun p hq => E2.fresh hq) fun a o e n z => by
            rcases z with z | z
            · exact n (.inl z)
            · have := o2 a z
              by_cases y : OwnA ρ0 σ a
              · exact n (.inr y)
              · rw [b2 a y, e] at this; cases this
          rw [List.drop_eq_getElem_cons hlt] at h2
          simp only [forL] at h2
          cases hbT : bindT t items[i] ρ2 with
          | none => simp [hbT] at h2
          | some ρ3 =>
            simp only [hbT] at h2
            refine bind_to hbT (E2.same s3) rx.b (fun _ _ => rx) _ fun σ3 E3 own _ => ?_
            have o3 : ∀ a, OwnA ρ3 σ3 a → Hb' a = none := fun a z => o2 a (own a z)
            split at h2
            · rename_i ρ' e'
              exact ⟨Of, ρ3, Hb', _, E3, o3, s2.trans s3, e', fun σ' H' E' o' s' => ⟨ρ', E', o', s', h2⟩⟩
            · rename_i ρ' e'
              exact ⟨Of, ρ3, Hb', _, E3, o3, s2.trans s3, e', fun σ' H' E' o' s' => ⟨ρ', E', o', s', h2⟩⟩
            · rename_i n1 n2
              refine ⟨Of, ρ3, Hb', out, E3, o3, s2.trans s3, h2, ?_⟩
              cases out with
              | nx ρ' => exact absurd h2 (n1 ρ')
              | ct ρ' => exact absurd h2 (n2 ρ')
              | rt r => exact kk
        · have e : i = items.length := by omega
          subst e
          rw [List.drop_length] at h2
          simp only [forL, Option.some.injEq] at h2
          subst h2
          exact .inl ⟨ok.stop H2 st, kk _ _ E2 o2 s2⟩
      · cases h
  · cases h
end
end Rk

/-! Statements: own lists and dicts. -/
set_option autoImplicit false
set_option linter.all false
set_option maxRecDepth 100000
namespace Rk
open PySem PySem.Spec PyProof.Rows L2
section
variable {F : FT} {X : Cx} {N : List Str} {sc : Scope} {fns : List (Nat × Str)} {cs : List (Str × D)}
/-- behind a change of an own thing -/
theorem own_change {P : Program} {w : World} {Of : Addr → Prop} {ρ : Env} {σ : L2.St} {H Hb : Hp} {i : Nat} {a : Addr} {d d' : D} {o' : HO} (E : EnvOk P w Of ρ σ H) (ho : ∀ a, OwnA ρ σ a → Hb a = none) (s : Same Hb H) (h : ρ[i]? = some (some (true, d))) (hs : σ[i]? = some (some (.ref a)))
    (st : OwnAt P w (upd H a o') (Ow Of ρ σ) a d') : EnvOk P w Of (ρ.set i (some (true, d'))) σ (upd H a o') ∧ (∀ a, OwnA (ρ.set i (some (true, d'))) σ a → Hb a = none) ∧ Same Hb (upd H a o') := by
  obtain ⟨E', own⟩ := E.changed h hs st
  refine ⟨E', fun b z => ho b ((own b).mp z), fun b o e => ?_⟩
  have : b ≠ a := fun z => by rw [z, ho a ⟨i, d, h, hs⟩] at e; cases e
  rw [upd_ne this]
  exact s b o e
theorem own_keep {H : Hp} {O : Addr → Prop} {a : Addr} {o' : HO} (h : O a) : ∀ b o, H b = some o → ¬ O b → upd H a o' b = some o := fun b o e n => by
  rw [upd_ne (fun z => n (by rw [z]; exact h))]; exact e
theorem tK1 {e : Ex} {σ : L2.St} {H : Hp} {Of : Addr → Prop} {ρ : Env} {d : D} {P : Program} {w : World} {Q : List V → Hp → Prop} (E : EnvOk P w Of ρ σ H) (hd : keepOf (ev F e ρ) = some d) (k : ∀ v H', Same H H' → Rp P w H' (Ow Of ρ σ) d v → Q [v] H') : tK P w F [e] σ H Q := by
  refine ⟨Of, ρ, [d], E, by simp [evK, hd], fun vs H' s q => ?_⟩
  cases q with
  | cons a b => cases b with
    | nil => exact k _ _ s a
/-- x.append(e) -/
theorem ss_app (G : Gx F X N sc fns cs) {i : Nat} {x : Str} {e : Expr} {ie : Ex} {p apos cpos pos : Pos} (he : SE F X e ie) (hN : N[i]? = some x := by rfl) (hv : Vis sc x := by first | exact .inl rfl | exact .inr (.inl rfl) | exact .inr (.inr rfl))
    (hd : (x == ("__debug__" : Str)) = false := by decide) (hcd : (x == ("__classdict__" : Str)) = false := by decide) (hs : swapsWith (.Call (.Attribute (.Name x p) "append" apos) [e] [] cpos) none pos.line X.env = pure false := by rfl)
    (hbase : attributeBase (.Name x p) "append" X.env (eval (.Name x p) X.env) = eval (.Name x p) X.env := by rfl) (hline : (apos.endLine == cpos.line) = true := by rfl)
    (hst : starEach [e] X.env = (false, eval e X.env) :: starEach [] X.env := by rfl) (hfew : ((backTo cpos (starEach [e] X.env)).all (fun x => !x.1) && (backToKw cpos (keywordEach [] X.env)).all (fun x => x.1.isSome) && decide ([e].length + ([] : List Keyword).length + (if ([] : List Keyword).isEmpty then 0 else 1) < 30)) = true := by rfl) :
    SS F X (.Expr (.Call (.Attribute (.Name x p) "append" apos) [e] [] cpos) pos) (.app i ie) := by
  refine (ps_expr (pe_bm (T := "list") PySem.F.plainAttrs_list PySem.F.slot_list_append PySem.F.type_list_append mt_append (pe_var (i := i) (by rw [G.hN]; exact hN) (by rw [G.hsc]; exact hv) hd hcd) (sk_cons he sk_nil hst) hbase hfew hline hst) hs).of fun D σ H ⟨Of, ρ, Hb, out, E, ho, s, h, k⟩ => ?_
  simp only [ex] at h
  split at h
  · rename_i xs hx
    split at h
    · rename_i d hd
      split at h
      · rename_i hf
        cases h
        obtain ⟨a, e1, n1, vs, e2, q2⟩ := E.ow i _ hx
        refine ⟨_, e1, .inl ⟨rfl, vs, .inl (.inl e2)⟩, tK1 E hd fun v H1 s1 r1 => ⟨a, vs, v, rfl, rfl, s1 _ _ e2, ?_, ?_⟩⟩
        · rw [← q2.length]; exact fits_le hf
        · have aO : Ow Of ρ σ a := .inr ⟨i, _, hx, e1⟩
          obtain ⟨E', o', s'⟩ := own_change (d' := .list (xs ++ [d])) (o' := .lst (vs ++ [v])) (E.same s1) ho (s.trans s1) hx e1 ⟨_, upd_same, Rps.go (own_keep aO) (fun _ _ _ n => n) ((q2.same s1).append (.cons r1 .nil))⟩
          exact k _ _ E' o' s'
      · cases h
    · cases h
  · cases h
/-- a list's items behind a list's own -/
def rExtendR : V → List V → Hp → VK → Prop := fun x vs H Q => ∃ l b xs zs, x = .ref l ∧ vs = [.ref b] ∧ H l = some (.lst xs) ∧ Rd H b (.lst zs) ∧ xs.length + zs.length ≤ sizeLine ∧ Q .non (upd H l (.lst (xs ++ zs)))
theorem mt_extendR : MtM X "list.extend" rExtendR := by
  intro pins s σ H x vs v us Q I rx rv h
  obtain ⟨l, b, xs, zs, rfl, rfl, hH, hB, hz, q⟩ := h
  cases rx
  obtain ⟨u, rfl, ru⟩ := rv.one
  cases ru
  obtain ⟨z, its, n, r, hl, e⟩ := I.lstM hH
  obtain ⟨z2, its2, n2, r2, e2⟩ := hB.ok I.hok
  have hl2 := r2.length
  have hsz : its.toArray.size + its2.toArray.size ≤ sizeLine := by rw [List.size_toArray, List.size_toArray]; omega
  have hlong : ¬ (!its.toArray.isEmpty && Builtin.List.listTooLong (its.toArray.size + its2.toArray.size)) = true := by
    rw [notLongL hsz, Bool.and_false]
    exact Bool.false_ne_true
  refine call_meets PySem.F.slot_list_extend ⟨_, e, rfl⟩ PySem.F.entry_list_extend (PySem.F.args_list_extend_2 _ _)
    (AutoSeq1.list_extend_list_list_0 l its.toArray n b its2.toArray n2 hlong (by rw [List.size_toArray]; omega) (by omega)) ⟨e, e2, ?_⟩
  refine ⟨.non, _, I.lset (its' := its ++ its2) hH e (by simp) (r.append r2) ?_, rfl, q⟩
  rw [List.length_append]
  omega
theorem ss_ext (G : Gx F X N sc fns cs) {i : Nat} {x : Str} {e : Expr} {ie : Ex} {p apos cpos pos : Pos} (he : SE F X e ie) (hN : N[i]? = some x := by rfl) (hv : Vis sc x := by first | exact .inl rfl | exact .inr (.inl rfl) | exact .inr (.inr rfl))
    (hd : (x == ("__debug__" : Str)) = false := by decide) (hcd : (x == ("__classdict__" : Str)) = false := by decide) (hs : swapsWith (.Call (.Attribute (.Name x p) "extend" apos) [e] [] cpos) none pos.line X.env = pure false := by rfl)
    (hbase : attributeBase (.Name x p) "extend" X.env (eval (.Name x p) X.env) = eval (.Name x p) X.env := by rfl) (hline : (apos.endLine == cpos.line) = true := by rfl)
    (hst : starEach [e] X.env = (false, eval e X.env) :: starEach [] X.env := by rfl) (hfew : ((backTo cpos (starEach [e] X.env)).all (fun x => !x.1) && (backToKw cpos (keywordEach [] X.env)).all (fun x => x.1.isSome) && decide ([e].length + ([] : List Keyword).length + (if ([] : List Keyword).isEmpty then 0 else 1) < 30)) = true := by rfl) :
    SS F X (.Expr (.Call (.Attribute (.Name x p) "extend" apos) [e] [] cpos) pos) (.ext i ie) := by
  refine (ps_expr (pe_bm (T := "list") PySem.F.plainAttrs_list PySem.F.slot_list_extend PySem.F.type_list_extend mt_extendR (pe_var (i := i) (by rw [G.hN]; exact hN) (by rw [G.hsc]; exact hv) hd hcd) (sl_cons he sl_nil hst) hbase hfew hline hst) hs).of fun D σ H ⟨Of, ρ, Hb, out, E, ho, s, h, k⟩ => ?_
  simp only [ex] at h
  split at h
  · rename_i xs hx
    split at h
    · rename_i t ys hd
      split at h
      · rename_i hf
        cases h
        obtain ⟨a, e1, n1, vs, e2, q2⟩ := E.ow i _ hx
        refine ⟨_, e1, .inl ⟨rfl, vs, .inl (.inl e2)⟩, Of, ρ, [(t, .list ys)], E, by simp [evL, hd], fun ws H1 s1 r1 => ?_⟩
        obtain ⟨v, rfl, p1⟩ := pair1 r1
        obtain ⟨b, zs, rfl, e3, q3⟩ := p1.1
        refine ⟨a, b, vs, zs, rfl, rfl, s1 _ _ e2, e3, ?_, ?_⟩
        · rw [← q2.length, ← q3.length]; exact Nat.le_of_lt (fits_le hf)
        · have aO : Ow Of ρ σ a := .inr ⟨i, _, hx, e1⟩
          obtain ⟨E', o', s'⟩ := own_change (d' := .list (xs ++ ys)) (o' := .lst (vs ++ zs)) (E.same s1) ho (s.trans s1) hx e1 ⟨_, upd_same, Rps.go (own_keep aO) (fun _ _ _ n => n) ((q2.same s1).append q3)⟩
          exact k _ _ E' o' s'
      · cases h
    · cases h
  · cases h
/-- y = x.pop() -/
theorem ss_pop (G : Gx F X N sc fns cs) {i j : Nat} {x y : Str} {p py apos cpos pos : Pos} (hN : N[i]? = some x := by rfl) (hj : N[j]? = some y := by rfl) (hv : Vis sc x := by first | exact .inl rfl | exact .inr (.inl rfl) | exact .inr (.inr rfl)) (hy : Loc sc y := by first | exact .inl rfl | exact .inr rfl)
    (hd : (x == ("__debug__" : Str)) = false := by decide) (hcd : (x == ("__classdict__" : Str)) = false := by decide) (hs : swapsWith (.Call (.Attribute (.Name x p) "pop" apos) [] [] cpos) (some (.Name y py)) pos.line X.env = pure false := by rfl)
    (hbase : attributeBase (.Name x p) "pop" X.env (eval (.Name x p) X.env) = eval (.Name x p) X.env := by rfl) (hline : (apos.endLine == cpos.line) = true := by rfl) (hf : X.fn y = true ∨ sc.names.lookup y = some .local := by first | exact .inr rfl | assumption) :
    SS F X (.Assign [.Name y py] (.Call (.Attribute (.Name x p) "pop" apos) [] [] cpos) pos) (.pop j i) := by
  refine (ps_set (i := j) (by rw [G.hN]; exact G.nd) (by rw [G.hN]; exact hj) (by rw [G.hsc]; exact hy) (pe_bm0 (T := "list") PySem.F.plainAttrs_list PySem.F.slot_list_pop PySem.F.type_list_pop mt_pop (pe_var (i := i) (by rw [G.hN]; exact hN) (by rw [G.hsc]; exact hv) hd hcd) hbase hline) hs (by rw [G.hsc]; exact hf)).of fun D σ H ⟨Of, ρ, Hb, out, E, ho, s, h, k⟩ => ?_
  simp only [ex] at h
  split at h
  · rename_i xs hx
    split at h
    · rename_i d hd
      cases h
      obtain ⟨a, e1, n1, vs, e2, q2⟩ := E.ow i _ hx
      rw [List.getLast?_eq_getElem?] at hd
      obtain ⟨v, e3, r3⟩ := q2.get hd
      refine ⟨_, e1, .inl ⟨rfl, vs, .inl (.inl e2)⟩, a, vs, v, rfl, rfl, e2, by rw [← q2.length]; exact e3, ?_⟩
      have aO : Ow Of ρ σ a := .inr ⟨i, _, hx, e1⟩
      obtain ⟨E', o', s'⟩ := own_change (d' := .list xs.dropLast) (o' := .lst vs.dropLast) E ho s hx e1 ⟨_, upd_same, Rps.go (own_keep aO) (fun _ _ _ n => n) q2.dropLast⟩
      have hl : i < ρ.length := (List.getElem?_eq_some_iff.mp hx).1
      refine k _ _ (E'.set (r3.go (own_keep aO) fun b o e n z => n ?_)) (fun a z => o' a (EnvOk.own_set z)) s'
      rcases z with z | ⟨l, d', z1, z2⟩
      · exact .inl z
      · rcases set_get z1 with ⟨rfl, _⟩ | ⟨_, z1⟩
        · exact .inr ⟨l, _, hx, z2⟩
        · exact .inr ⟨l, d', z1, z2⟩
    · cases h
  · cases h
/-- x[k] = e -/
theorem ss_put (G : Gx F X N sc fns cs) {i : Nat} {x : Str} {e ke : Expr} {ie ik : Ex} {p pos' pos : Pos} (hk : SE F X ke ik) (he : SE F X e ie) (hN : N[i]? = some x := by rfl) (hv : Vis sc x := by first | exact .inl rfl | exact .inr (.inl rfl) | exact .inr (.inr rfl))
    (hd : (x == ("__debug__" : Str)) = false := by decide) (hcd : (x == ("__classdict__" : Str)) = false := by decide) (hs : swapsWithSole [.Subscript (.Name x p) ke pos'] e pos.line X.env = pure false := by rfl) (hw : swappedStores [.Subscript (.Name x p) ke pos'] e X.env = pure none := by rfl)
    (h1 : (assignEach [.Subscript (.Name x p) ke pos'] X.env).map (·.2) = [assign (.Subscript (.Name x p) ke pos') X.env] := by rfl)
    (ha : ∀ v, assign (.Subscript (.Name x p) ke pos') X.env v = (do
      let ov ← holding [v] (eval (.Name x p) X.env)
      let iv ← holding [v, ov] (eval ke X.env)
      standAt pos'
      holding [v, ov, iv] (setItem ov iv v)
      release [v, ov, iv] []) := by intro _; rfl) : SS F X (.Assign [.Subscript (.Name x p) ke pos'] e pos) (.put i ik ie) := by
  refine (ps_asg (se_keep he) (pg_sub (pe_var (i := i) (by rw [G.hN]; exact hN) (by rw [G.hsc]; exact hv) hd hcd) (se_keep hk) (set_D G.units) ha) hs hw h1).of fun D σ H ⟨Of, ρ, Hb, out, E, ho, s, h, k⟩ => ?_
  simp only [ex] at h
  split at h
  · rename_i kvs hx
    split at h
    · rename_i d hd
      split at h
      · rename_i kd hkd
        split at h
        · rename_i hf
          cases h
          simp only [Bool.and_eq_true] at hf
          obtain ⟨ks, rfl, hdp⟩ := keyT_tup hf.1.1
          refine ⟨Of, ρ, d, E, hd, fun v H1 s1 r1 => ?_⟩
          have E1 := E.same s1
          obtain ⟨a, e1, n1, es, y1, ⟨ep, e2⟩, q2, nd⟩ := E1.ow i _ hx
          refine ⟨_, e1, Of, ρ, _, E1, hkd, fun kv H2 s2 r2 => ?_⟩
          have r2' : Rp X.prog X.w H2 (Ow Of ρ σ) (NestedKey.tup ks).data kv := r2
          obtain ⟨b, rfl⟩ : ∃ b, kv = .ref b := by
            cases r2' with
            | tup n e s => exact ⟨_, rfl⟩
          refine ⟨a, b, .tup ks, es, kvs, Ow Of ρ σ, Ow Of ρ σ, rfl, rfl, ⟨ep, s2 _ _ e2⟩, q2.same s2, nd, r2', hdp, ?_, fun ep' nd' => ?_⟩
          · rw [← cr_len.rpe_len q2]; exact Nat.le_of_lt (fits_le hf.2)
          · have aO : Ow Of ρ σ a := .inr ⟨i, _, hx, e1⟩
            obtain ⟨E', o', s'⟩ := own_change (d' := .dict (dput kvs (NestedKey.tup ks).data d)) (o' := dHO X.prog X.w a ep' (esput (.tup ks) b v es)) (E1.same s2) ho ((s.trans s1).trans s2) hx e1
              ⟨_, y1, ⟨ep', upd_same⟩, Rpe.go (own_keep aO) (fun _ _ _ n => n) (Rpe.put r2' hdp (r1.same s2) (q2.same s2)), nd'⟩
            exact k _ _ E' o' s'
        · cases h
      · cases h
    · cases h
  · cases h
end
end Rk

/-! Defs, and a table of defs. -/
set_option autoImplicit false
set_option linter.all false
set_option maxRecDepth 100000
namespace Rk
open PySem PySem.Spec PyProof.Rows L2

/-- a def of a table -/
structure Df where
  id : Nat
  name : Str
  st : Stmt
  N : List Str
  ps : List Str
  fn : Fn

theorem rps_start {P : Program} {w : World} {H : Hp} {Of : Addr → Prop} {ds : List D} {vs : List V} (live : ∀ a, Of a → ∃ o, H a = some o ∧ ∀ xs, o ≠ .tup xs) (q : Rps P w H Of ds vs) {N : List Str} {fn : Fn} (hs : fn.slots = N.length) (hp : ds.length = fn.params) :
    EnvOk P w Of (argEnv fn ds) (start N vs) H ∧ ∀ a, ¬ OwnA (argEnv fn ds) (start N vs) a := by
  have hl := q.length
  have noOwn : ∀ (i : Nat) (d : D), (argEnv fn ds)[i]? ≠ some (some (true, d)) := fun i d h => by
    unfold argEnv at h
    rcases Nat.lt_or_ge i ds.length with hi | hi
    · rw [List.getElem?_append_left (by simpa using hi), List.getElem?_map] at h
      cases hd : ds[i]? with
      | none => rw [hd] at h; simp at h
      | some e => rw [hd] at h; simp at h
    · rw [List.getElem?_append_right (by simpa using hi)] at h
      rw [List.getElem?_replicate] at h
      split at h <;> simp at h
  have own : ∀ a, ¬ OwnA (argEnv fn ds) (start N vs) a := fun a ⟨i, d, h1, _⟩ => noOwn i d h1
  refine ⟨⟨?_, live, fun i d h => ?_, fun i d h => absurd h (noOwn i d), fun i j d d' a n h1 => absurd h1 (noOwn i d)⟩, own⟩
  · unfold argEnv L2.start
    simp only [List.length_append, List.length_map, List.length_replicate]
    omega
  · unfold argEnv at h
    rcases Nat.lt_or_ge i ds.length with hi | hi
    · rw [List.getElem?_append_left (by simpa using hi), List.getElem?_map] at h
      cases hd : ds[i]? with
      | none => rw [hd] at h; simp at h
      | some e =>
        rw [hd] at h
        simp only [Option.map_some, Option.some.injEq, Prod.mk.injEq, true_and] at h
        subst h
        obtain ⟨v, e1, r1⟩ := q.get hd
        refine ⟨v, ?_, r1.weak fun a z => z.elim id fun z => absurd z (own a)⟩
        unfold L2.start
        rw [List.getElem?_append_left (by rw [List.length_map]; omega), List.getElem?_map, e1]
        rfl
    · rw [List.getElem?_append_right (by simpa using hi), List.getElem?_replicate] at h
      split at h <;> simp at h

/-- what is to be shown of a def -/
def Df.Sound (d : Df) (fns : List (Nat × Str)) (cs : List (Str × D)) : Prop :=
  ∀ (F : FT) (X : Cx), Gx F X d.N (defScope d.st) fns cs → X.fn = (fun _ => true) → PassesOwn (model X.prog X.w) X.A X.env X.xe → SBk F X (defBody d.st) d.fn.body
structure Df.Ok (d : Df) (fns : List (Nat × Str)) (cs : List (Str × D)) : Prop where
  sc : FnScope d.N d.ps (defScope d.st)
  par : d.fn.params = d.ps.length
  slo : d.fn.slots = d.N.length
  sound : d.Sound fns cs
/-- where a def stands -/
structure Df.At (d : Df) (K : PySem.W.Frag) (mg : Str → Option Value) : Prop where
  ex : ∃ f fd, FunD K d.name d.name (defArgs d.st) (defBody d.st) (defScope d.st) [] [] f fd ∧ mg d.name = some (.ref f) ∧ Binds K fd d.ps []

def tblOf (defs : List Df) : Tb := fun f => (defs.map fun d => (d.id, d.fn)).lookup f
def fnsOf (defs : List Df) : List (Nat × Str) := defs.map fun d => (d.id, d.name)
theorem fns_mem {i : Nat} {x : Str} : ∀ {defs : List Df}, (fnsOf defs).lookup i = some x → ∃ d ∈ defs, d.id = i ∧ d.name = x
  | [], h => by cases h
  | d :: ds, h => by
    unfold fnsOf at h
    rw [List.map_cons, List.lookup_cons] at h
    split at h
    · rename_i e
      exact ⟨d, List.mem_cons_self, (by simpa using e : i = d.id).symm, by simpa using h⟩
    · obtain ⟨d', h1, h2⟩ := fns_mem (defs := ds) h
      exact ⟨d', List.mem_cons_of_mem _ h1, h2⟩
section
variable {P : Program} {w : World} {K : PySem.W.Frag} {mg : Str → Option Value} {base : Heap}
theorem spI_none {F : FT} {f : Nat} (h : ∀ ds, F f ds = none) {vs : List V} {H : Hp} {Q : VK} {E : XK} (q : spI P w F f vs H Q E) : False := by
  obtain ⟨Of, ds, r, _, _, e, _⟩ := q
  rw [h] at e
  cases e
/-- THE TABLE: each def does what the interpreter says -/
theorem defs_ok {defs : List Df} {cs : List (Str × D)} (tb : ∀ d ∈ defs, tblOf defs d.id = some d.fn) (ok : ∀ d ∈ defs, d.Ok (fnsOf defs) cs) (at_ : ∀ d ∈ defs, d.At K mg) (hb : ∀ x ∈ bltNames, mg x = none) (hc : ∀ x d, (x, d) ∈ cs → ∃ v u, cV d = some v ∧ mg x = some u ∧ RelV v u) :
    ∀ (n : Nat) (d : Df), d ∈ defs → ∀ (f : Addr) (fd : FuncData), FunD K d.name d.name (defArgs d.st) (defBody d.st) (defScope d.st) [] [] f fd → FnOk P w K mg base CX0 n f fd d.ps (spI P w (run (tblOf defs) n) d.id) := by
  intro n
  induction n with
  | zero => exact fun d hd f fd F => ⟨fun vs H Q E q => (spI_none (fun ds => rfl) q).elim, fun A outer s H args us vs Q E hr he hb hv q => (spI_none (fun ds => rfl) q).elim⟩
  | succ n ih =>
    intro d hm f fd F
    have o := ok d hm
    have hP := tb d hm
    have hrun : ∀ ds, run (tblOf defs) (n + 1) d.id ds = callFn (run (tblOf defs) n) d.fn ds := fun ds => by
      simp only [run, hP]
    have hlen : ∀ vs H Q E, spI P w (run (tblOf defs) (n + 1)) d.id vs H Q E → vs.length = d.ps.length := fun vs H Q E ⟨Of, ds, r, _, q, e, _⟩ => by
      rw [hrun] at e
      unfold callFn at e
      split at e
      · rename_i hl
        rw [← q.length, hl, o.par]
      · cases e
    refine F.ok o.sc hlen fun cdv A outer s H vs Q E hr q => ⟨tB P w (run (tblOf defs) n) d.fn.body, PSs.nox ?_, ?_⟩
    · refine o.sound _ _ ⟨rfl, o.sc.nd, rfl, rfl, ?_, fun j x hj => ?_, hb, hc⟩ rfl PassesOwn.never
      · have := hr.un
        show (A.deeper _).units + 200 < cLine
        omega
      · obtain ⟨d', hd', rfl, rfl⟩ := fns_mem hj
        obtain ⟨f', fd', F', m', b'⟩ := (at_ d' hd').ex
        exact ⟨f', fd', d'.ps, n, ih d' hd' f' fd' F', hr, m', F'.kp, b'⟩
    · obtain ⟨Of, ds, r, live, rq, e, k⟩ := q
      rw [hrun] at e
      unfold callFn at e
      split at e
      · rename_i hl
        obtain ⟨E0, no⟩ := rps_start live rq o.slo hl
        split at e
        · rename_i r' hx
          cases e
          exact ⟨Of, _, H, _, E0, fun a z => absurd z (no a), Same.refl H, hx, fun v H' s' r1 r2 => k v H' s' r1 r2⟩
        · rename_i ρ' hx
          cases e
          exact ⟨Of, _, H, _, E0, fun a z => absurd z (no a), Same.refl H, hx, fun σ' H' E' _ s' => k _ _ s' .non fun z => by cases z⟩
        · cases e
      · cases e
end

/-! ### the script -/
def isLs : Option Obj → Bool
  | some ⟨c, _, .seq _ _, _⟩ => c == .type "list"
  | _ => false
/-- without lists -/
def noLs (K : PySem.W.Frag) : PySem.W.Frag := K.filter fun p => !isLs (K.lookup p.1)
theorem lookup_filter {K : PySem.W.Frag} {p : Addr → Bool} (a : Addr) : (K.filter fun q => p q.1).lookup a = if p a then K.lookup a else none := by
  induction K with
  | nil => simp
  | cons q r ih =>
    obtain ⟨b, o⟩ := q
    by_cases e : a = b
    · subst e
      by_cases h : p a = true
      · simp [List.filter_cons, h]
      · simp only [Bool.not_eq_true] at h
        simp [List.filter_cons, h, ih]
    · by_cases h : p b = true
      · have : (a == b) = false := by simpa using e
        simp [List.filter_cons, h, List.lookup_cons, this, ih]
      · simp only [Bool.not_eq_true] at h
        have : (a == b) = false := by simpa using e
        simp [List.filter_cons, h, List.lookup_cons, this, ih]
theorem noLs_look {K : PySem.W.Frag} (a : Addr) : (noLs K).lookup a = if isLs (K.lookup a) then none else K.lookup a := by
  unfold noLs
  rw [lookup_filter (p := fun a => !isLs (K.lookup a))]
  cases isLs (K.lookup a) <;> rfl
theorem noLs_in {K : PySem.W.Frag} {h : Heap} (X : K.In h) : (noLs K).In h := fun a o e => by
  rw [noLs_look] at e
  split at e
  · cases e
  · exact X a o e
theorem noLs_sq {K : PySem.W.Frag} {H : Hp} {a : Addr} {xs : List V} (h : SqL (noLs K) H a xs) : Rd H a (.lst xs) := by
  rcases h with h | ⟨o, its, n, e, h1, h2, h3, _⟩
  · exact h
  · rw [noLs_look] at e
    split at e
    · cases e
    · rename_i hn
      rw [e] at hn
      obtain ⟨c, d, da, sl⟩ := o
      cases h1
      cases h3
      exact absurd rfl hn
theorem noLs_fun {K : PySem.W.Frag} {x qual : Str} {params : Arguments} {body : List Stmt} {scope : Scope} {f : Addr} {fd : FuncData} (F : FunD K x qual params body scope [] [] f fd) : FunD (noLs K) x qual params body scope [] [] f fd := by
  obtain ⟨oc, od, dV, kV, doc, pm, an, cdv, ct, osl, e, lk, hcd, hD, hK⟩ := F.ex
  have lk' : (noLs K).lookup f = some ⟨oc, od, .func fd, osl⟩ := by
    rw [noLs_look, lk]
    exact if_neg (by simp [isLs])
  refine ⟨⟨oc, od, dV, kV, doc, pm, an, cdv, ct, osl, e, lk', ?_, ?_, .inl rfl⟩, ?_⟩
  · unfold PySem.W.codeIn at hcd ⊢
    split at hcd
    · rename_i c
      split at hcd
      · rename_i vs _ ho
        simp only [noLs_look, ho]
        simpa [isLs] using hcd
      · cases hcd
    · cases hcd
  · rcases hD with h | ⟨h, _⟩
    · exact .inl h
    · exact absurd rfl h
  · unfold PySem.W.keepIn
    simp only [lk']
end Rk

/-! Sets of keys. -/
set_option autoImplicit false
set_option linter.all false
set_option maxRecDepth 100000
namespace Rk
open PySem PySem.Spec PyProof.Rows L2

section
variable {P : Program} {w : World} {A : Around} {E : Value → Shared → Prop} {s : Shared}
/-! ### small questions asked of keys -/
mutual
theorem cls_key : ∀ (k : NestedKey) (v : Value) (n : Nat), NestedIs s.heap k v → k.depth ≤ n → ∀ {Q : Bool → Shared → Prop}, Q false s → wpAny (model P w) A (ofAClassStatement n v) Q E s
  | .none, _, n, x, _, Q, h => by cases x; cases n <;> exact wpAny_pure h
  | .num i, _, n, x, _, Q, h => by cases x <;> cases n <;> exact wpAny_pure h
  | .text y, _, n, x, _, Q, h => by cases x; cases n <;> exact wpAny_pure h
  | .tup ks, _, n, x, hn, Q, h => by
    cases x with
    | @tup b o vs m _ hg hc hd hk =>
      simp only [NestedKey.depth] at hn
      cases n with
      | zero => omega
      | succ n =>
        have all := cls_keys ks _ n hk (by omega)
        have hT : s.TypeIs (.ref b) "tuple" := ⟨o, hg, hc⟩
        unfold ofAClassStatement
        refine wpAny_bind (wpAny_typeOf hT ?_)
        dsimp only
        have e : (("tuple" : String) == "tuple") = true := by decide
        simp only [e, if_true, Bool.not_true, Bool.false_eq_true, if_false]
        refine wpAny_bind (wpAny_pure ?_)
        refine wp_if_neg (by decide) ?_
        refine wpAny_bind (wpAny_seqItems hg hd ?_)
        dsimp only
        refine wpAny_bind ?_
        rw [← Array.forIn_toList]
        refine wpAny_forIn_list _ (fun rest r s' => r.1 = none ∧ s' = s ∧ ∀ v ∈ rest, v ∈ vs.toList) _ ?_ ?_ _ _ ⟨rfl, rfl, fun v z => z⟩
        · rintro v rest r s' ⟨hr, rfl, sub⟩
          refine wpAny_bind (all v (sub v List.mem_cons_self) ?_)
          refine wp_if_neg (by decide) ?_
          exact wpAny_pure ⟨rfl, rfl, fun u z => sub u (List.mem_cons_of_mem _ z)⟩
        · rintro ⟨r1, r2⟩ s' ⟨hr, rfl, _⟩
          dsimp only at hr
          subst hr
          exact wpAny_pure h
theorem cls_keys : ∀ (ks : List NestedKey) (vs : List Value) (n : Nat), NestedAll s.heap ks vs → NestedKey.depthAll ks ≤ n → ∀ v ∈ vs, ∀ {Q : Bool → Shared → Prop}, Q false s → wpAny (model P w) A (ofAClassStatement n v) Q E s
  | [], _, n, x, _, v, hv, _, _ => by cases x; cases hv
  | k :: ks, _, n, x, hn, v, hv, Q, h => by
    cases x with
    | cons x1 x2 =>
      simp only [NestedKey.depthAll] at hn
      rcases List.mem_cons.mp hv with e | hv
      · rw [e]; exact cls_key k _ n x1 (by omega) h
      · exact cls_keys ks _ n x2 (by omega) v hv h
end
mutual
theorem byv_key : ∀ (k : NestedKey) (v : Value) (n : Nat), NestedIs s.heap k v → ∀ {Q : Bool → Shared → Prop}, (∀ b, Q b s) → wpAny (model P w) A (hashByValue n v) Q E s
  | .none, _, n, x, Q, h => by cases x; cases n <;> exact wpAny_pure (h _)
  | .num i, _, n, x, Q, h => by cases x <;> cases n <;> exact wpAny_pure (h _)
  | .text y, _, n, x, Q, h => by cases x; cases n <;> exact wpAny_pure (h _)
  | .tup ks, _, n, x, Q, h => by
    cases x with
    | @tup b o vs m _ hg hc hd hk =>
      cases n with
      | zero => exact wpAny_pure (h _)
      | succ n =>
        have all := byv_keys ks _ n hk
        have hT : s.TypeIs (.ref b) "tuple" := ⟨o, hg, hc⟩
        unfold hashByValue
        refine wpAny_bind (wpAny_specialOf hT F.slot_tuple_hash.lookup ?_)
        refine wpAny_bind (wpAny_seqItems hg hd ?_)
        refine wpAny_bind ?_
        show wpAny _ _ (forIn vs _ _) _ _ s
        rw [← Array.forIn_toList]
        refine wpAny_forIn_list _ (fun rest r s' => r.1 = none ∧ s' = s ∧ ∀ v ∈ rest, v ∈ vs.toList) _ ?_ ?_ _ _ ⟨rfl, rfl, fun v z => z⟩
        · rintro v rest r s' ⟨hr, rfl, sub⟩
          refine wpAny_bind (all v (sub v List.mem_cons_self) fun b => ?_)
          cases b with
          | true =>
            refine wp_if_neg (by decide) ?_
            exact wpAny_pure ⟨rfl, rfl, fun u z => sub u (List.mem_cons_of_mem _ z)⟩
          | false =>
            refine wp_if_pos (by decide) ?_
            exact wpAny_pure (wpAny_pure (h _))
        · rintro ⟨r1, r2⟩ s' ⟨hr, rfl, _⟩
          dsimp only at hr
          subst hr
          exact wpAny_pure (h _)
theorem byv_keys : ∀ (ks : List NestedKey) (vs : List Value) (n : Nat), NestedAll s.heap ks vs → ∀ v ∈ vs, ∀ {Q : Bool → Shared → Prop}, (∀ b, Q b s) → wpAny (model P w) A (hashByValue n v) Q E s
  | [], _, n, x, v, hv, _, _ => by cases x; cases hv
  | k :: ks, _, n, x, v, hv, Q, h => by
    cases x with
    | cons x1 x2 =>
      rcases List.mem_cons.mp hv with e | hv
      · rw [e]; exact byv_key k _ n x1 h
      · exact byv_keys ks _ n x2 v hv h
end
/-- a key that is a tuple -/
abbrev TKey (P : Program) (w : World) (h : Heap) (k : NestedKey) (b : Addr) : Prop := (nestedKind P w).is h k b
theorem seen_key {k : NestedKey} {b : Addr} {Q : Bool → Shared → Prop} (hk : TKey P w s.heap k b) {ys : List Value} (hy : ∀ y ∈ ys, ∃ k' c, y = Value.ref c ∧ TKey P w s.heap k' c) (h : Q false s) :
    wpAny (model P w) A (searchCouldBeSeen (.ref b) ys) Q E s := by
  unfold searchCouldBeSeen
  refine wpAny_bind ?_
  refine wpAny_forIn_list _ (fun rest r s' => r.1 = none ∧ s' = s ∧ ∀ y ∈ rest, y ∈ ys) _ ?_ ?_ _ _ ⟨rfl, rfl, fun y z => z⟩
  · rintro v rest r s' ⟨hr, rfl, sub⟩
    obtain ⟨k', c, rfl, hc⟩ := hy v (sub v List.mem_cons_self)
    have sub' : ∀ y ∈ rest, y ∈ ys := fun u z => sub u (List.mem_cons_of_mem _ z)
    dsimp only
    split
    · exact wpAny_pure ⟨rfl, rfl, sub'⟩
    · refine wpAny_bind ((nestedKind P w).quiet hk ?_)
      refine wp_if_neg (by decide) ?_
      refine wpAny_bind ((nestedKind P w).quiet hc ?_)
      refine wp_if_neg (by decide) ?_
      refine wpAny_bind (cls_key _ _ _ hk.1 hk.2 ?_)
      refine wp_if_neg (by decide) ?_
      refine wpAny_bind (cls_key _ _ _ hc.1 hc.2 ?_)
      refine wp_if_neg (by decide) ?_
      exact wpAny_pure ⟨rfl, rfl, sub'⟩
  · rintro ⟨r1, r2⟩ s' ⟨hr, rfl, _⟩
    dsimp only at hr
    subst hr
    exact wpAny_pure h
end

/-! ### probes -/
abbrev pr0 (m : Nat) (h : Int) : SetTable.Probe := runAt m (SetTable.bits h % (m + 1)) (SetTable.bits h)
theorem nth_dummy (m : Nat) : ∀ (n : Nat) (p : SetTable.Probe), p.dummy = none → (nth m p n).dummy = none
  | 0, _, h => h
  | n + 1, p, h => nth_dummy m n (adv m p) (by unfold adv; split <;> exact h)
theorem probe_from {t : SetTable} (r : Ris t.place.toList) (dm : t.dummies = #[]) (f : Nat → Int) (h : Int) {K c : Nat} (hf : K < 10 * SetTable.turns t.mask) (hK : way t.mask h K ∉ t.place.toList) (hb : ∀ q, q < K → way t.mask h q ∈ t.place.toList) (hc : c ≤ K) :
    (∃ q i, c ≤ q ∧ q < K ∧ t.place.toList[i]? = some (way t.mask h q) ∧ f i = h ∧ (∀ q' i', c ≤ q' → q' < q → t.place.toList[i']? = some (way t.mask h q') → f i' ≠ h) ∧
      t.probe f h (nth t.mask (pr0 t.mask h) c) = some (.candidate (way t.mask h q) i (nth t.mask (pr0 t.mask h) (q + 1)))) ∨
    ((∀ q' i', c ≤ q' → q' < K → t.place.toList[i']? = some (way t.mask h q') → f i' ≠ h) ∧ t.probe f h (nth t.mask (pr0 t.mask h) c) = some (.empty (way t.mask h K) none)) := by
  have sh : ∀ q, nth t.mask (nth t.mask (pr0 t.mask h) c) q = nth t.mask (pr0 t.mask h) (c + q) := fun q => (nth_add t.mask c _ q).symm
  have sj : ∀ q, c ≤ q → (nth t.mask (nth t.mask (pr0 t.mask h) c) (q - c)).j = way t.mask h q := fun q hq => by
    rw [sh, show c + (q - c) = q by omega]
  have spec := go_spec t r dm f h (10 * SetTable.turns t.mask) (K - c) (nth t.mask (pr0 t.mask h) c) (nth_dummy _ c _ rfl) (by omega)
    (fun q hq => by rw [sh]; exact hb (c + q) (by omega)) (by rw [sj K hc]; exact hK)
  rcases spec with ⟨q, i, h1, h2, h3, h4, h5⟩ | ⟨h4, h5⟩
  · refine .inl ⟨c + q, i, by omega, by omega, by rw [h2, sh], h3, fun q' i' a1 a2 a3 => h4 (q' - c) i' (by omega) (by rw [sj q' a1]; exact a3), ?_⟩
    rw [sh, sh] at h5
    exact h5
  · refine .inr ⟨fun q' i' a1 a2 a3 => h4 (q' - c) i' (by omega) (by rw [sj q' a1]; exact a3), ?_⟩
    rw [sj K hc] at h5
    exact h5

/-! ### sets of tuples -/
def rowsK (w : World) (L : List (Addr × NestedKey)) : List (Int × Value) := L.map fun p => (p.2.hash w, Value.ref p.1)
structure SetN (P : Program) (w : World) (h : Heap) (a : Addr) (L : List (Addr × NestedKey)) (es : Array (Int × Value)) (ep : Nat) (t : SetTable) : Prop where
  ob : ∃ o, h.get? a = some o ∧ o.ExactSet ∧ o.data = .set es ep t
  rows : es.toList = rowsK w L
  tab : TabOk t (L.map fun p => p.2.hash w)
  nd : (L.map (·.2)).Nodup
  key : ∀ p ∈ L, TKey P w h p.2 p.1
  led : w.params.followText "set-order" = true ∨ t.led = true
  room : L.length * 5 < t.mask * 3
  few : L.length < 64
theorem rowsK_len {w : World} {L : List (Addr × NestedKey)} {es : Array (Int × Value)} (h : es.toList = rowsK w L) : es.size = L.length := by
  have q := congrArg List.length h
  simpa [rowsK] using q
section
variable {P : Program} {w : World} {A : Around} {E : Value → Shared → Prop} {s : Shared} {a : Addr} {L : List (Addr × NestedKey)} {es : Array (Int × Value)} {ep : Nat} {t : SetTable}
theorem SetN.fits {h : Heap} (R : SetN P w h a L es ep t) : t.fits es.size = true := by
  have h1 := R.tab.sz
  rw [List.length_map] at h1
  have h2 := rowsK_len R.rows
  have h3 := R.room
  unfold SetTable.fits SetTable.fill
  rw [R.tab.dm, Bool.and_eq_true, beq_iff_eq, decide_eq_true_eq]
  exact ⟨by omega, by show t.place.size + 0 ≤ t.mask; omega⟩
theorem SetN.at_ (R : SetN P w s.heap a L es ep t) {i : Nat} {p : Addr × NestedKey} (h : L[i]? = some p) : es[i]? = some (p.2.hash w, Value.ref p.1) := by
  rw [← Array.getElem?_toList, R.rows, rowsK, List.getElem?_map, h]
  rfl
/-- looking for a key, from the c-th place of its way on -/
theorem look_from (R : SetN P w s.heap a L es ep t) {x : Addr} {k : NestedKey} (hx : TKey P w s.heap k x) (hu : A.units + 8 < cLine) {K : Nat} (hf : K < 10 * SetTable.turns t.mask) (hK : way t.mask (k.hash w) K ∉ t.place.toList)
    (hb : ∀ q, q < K → way t.mask (k.hash w) q ∈ t.place.toList) {Q : SetFound → Shared → Prop} (yes : k ∈ L.map (·.2) → Q (.there none) s) (no : k ∉ L.map (·.2) → Q (.free (way t.mask (k.hash w) K) false) s) :
    ∀ (f c : Nat) (stand : Option SetTable.Probe), stand.getD (t.probeStart (k.hash w)) = nth t.mask (pr0 t.mask (k.hash w)) c → c ≤ K → K < f + c →
      (∀ (i : Nat) p, L[i]? = some p → p.2 = k → ∃ q, c ≤ q ∧ q < K ∧ t.place.toList[i]? = some (way t.mask (k.hash w) q)) → wpAny (model P w) A (setSearchFrom a (.ref x) (k.hash w) true f stand) Q E s := by
  intro f
  induction f with
  | zero => intro c stand _ h1 h2; omega
  | succ f ih =>
    intro c stand hs hc hcf reach
    obtain ⟨o, ho, hex, hd⟩ := R.ob
    rw [setSearchFrom_succ]
    refine wpAny_bind (wpAny_setState_of ho hd R.fits ?_)
    dsimp only
    refine wp_if_neg (by unfold SetTable.gaveWay; rw [mask_odd R.tab.mok]; decide) ?_
    try refine wpAny_bind (wpAny_pure ?_)
    have hh : ∀ (i : Nat) p, L[i]? = some p → (es[i]?.map (·.1)).getD 0 = p.2.hash w := fun i p hp => by rw [R.at_ hp]; rfl
    rw [hs]
    rcases probe_from R.tab.ris R.tab.dm (fun i => (es[i]?.map (·.1)).getD 0) (k.hash w) hf hK hb hc with ⟨q, i, a1, a2, a3, a4, a5, a6⟩ | ⟨a5, a6⟩
    · rw [a6]
      dsimp only
      have hil : i < L.length := by
        have h1 := (List.getElem?_eq_some_iff.mp a3).1
        have h2 := R.tab.sz
        simp only [List.length_map, Array.length_toList] at h1 h2
        omega
      obtain ⟨p, hp⟩ : ∃ p, L[i]? = some p := ⟨_, List.getElem?_eq_getElem hil⟩
      have hm : p ∈ L := List.mem_of_getElem? hp
      have core : wpAny (model P w) A (searchRest a (.ref x) (k.hash w) true f es t (way t.mask (k.hash w) q) i (nth t.mask (pr0 t.mask (k.hash w)) (q + 1))) Q E s := by
        unfold searchRest
        rw [R.at_ hp]
        dsimp only
        refine wpAny_bind (wpAny_holding ((nestedKind P w).eqBool hu (R.key p hm) hx ?_))
        refine wpAny_bind (wpAny_setState_of ho hd R.fits ?_)
        dsimp only
        by_cases e : p.2 = k
        · exact wp_if_pos (by simp [e]) (wpAny_pure (yes (List.mem_map.mpr ⟨p, hm, e⟩)))
        · refine wp_if_neg (by simp [e]) ?_
          try refine wpAny_bind (wpAny_pure ?_)
          rw [sameMem]
          dsimp only
          have sl := slot_live R.tab.ris a3
          simp only [if_true, sl, R.at_ hp]
          refine wpAny_bind (wpAny_isSame_ref_self (wpAny_bind (wpAny_pure ?_)))
          simp only [if_true]
          refine wp_if_neg (by simp [e]) ?_
          refine ih (q + 1) _ rfl (by omega) (by omega) fun i0 p0 h0 hk0 => ?_
          obtain ⟨q0, b1, b2, b3⟩ := reach i0 p0 h0 hk0
          refine ⟨q0, ?_, b2, b3⟩
          rcases Nat.lt_trichotomy q0 q with z | z | z
          · exact absurd ((hh i0 p0 h0).trans (by rw [hk0])) (a5 q0 i0 b1 z b3)
          · rw [z] at b3
            have s2 := slot_live R.tab.ris b3
            rw [sl] at s2
            injection s2 with s2
            rw [← s2, hp] at h0
            cases h0
            exact absurd hk0 e
          · omega
      by_cases hl : t.led = true
      · refine wp_if_neg (by simp [hl]) ?_
        try refine wpAny_bind (wpAny_pure ?_)
        exact core
      · refine wp_if_pos (by simp [hl]) ?_
        refine wpAny_bind (seen_key hx (fun y hy => ?_) ?_)
        · obtain ⟨e, he, rfl⟩ := List.mem_map.mp hy
          have he2 : e ∈ es.toList := by
            have : e ∈ es ∧ e.1 = k.hash w := by simpa using he
            simpa using this.1
          rw [R.rows] at he2
          obtain ⟨p2, hp2, rfl⟩ := List.mem_map.mp he2
          exact ⟨p2.2, p2.1, rfl, R.key p2 hp2⟩
        · refine wp_if_neg (by decide) ?_
          try refine wpAny_bind (wpAny_pure ?_)
          exact core
    · rw [a6]
      dsimp only
      refine wpAny_pure (no fun hm => ?_)
      obtain ⟨p0, h0, hk0⟩ := List.mem_map.mp hm
      obtain ⟨i0, hi0, e0⟩ := List.getElem_of_mem h0
      have h00 : L[i0]? = some p0 := by rw [List.getElem?_eq_getElem hi0, e0]
      obtain ⟨q0, b1, b2, b3⟩ := reach i0 p0 h00 hk0
      exact a5 q0 i0 b1 b2 b3 ((hh i0 p0 h00).trans (by rw [hk0]))
theorem look_at (R : SetN P w s.heap a L es ep t) {x : Addr} {k : NestedKey} (hx : TKey P w s.heap k x) (hu : A.units + 8 < cLine) {Q : SetFound → Shared → Prop} (yes : k ∈ L.map (·.2) → Q (.there none) s)
    (no : ∀ K, k ∉ L.map (·.2) → way t.mask (k.hash w) K ∉ t.place.toList → (∀ q, q < K → way t.mask (k.hash w) q ∈ t.place.toList) → Q (.free (way t.mask (k.hash w) K) false) s) :
    wpAny (model P w) A (setSearch a (.ref x) (k.hash w) true) Q E s := by
  have hroom := R.room
  obtain ⟨K, hf, hK, hb⟩ := R.tab.first (by rw [List.length_map]; omega) (k.hash w)
  have big : 10 * SetTable.turns t.mask ≤ 1420 := by
    unfold SetTable.turns
    rcases R.tab.mok with e | e | e <;> omega
  unfold setSearch
  refine look_from R hx hu hf hK hb yes (fun n => no K n hK hb) 100000 0 none rfl (Nat.zero_le _) (by omega) fun i p hp hk => ?_
  have hi : (L.map fun p => p.2.hash w)[i]? = some (k.hash w) := by rw [List.getElem?_map, hp, ← hk]; rfl
  have hil : i < t.place.toList.length := by
    have h1 := (List.getElem?_eq_some_iff.mp hp).1
    have h2 := R.tab.sz
    rw [List.length_map] at h2
    rw [Array.length_toList]
    omega
  have hj := List.getElem?_eq_getElem hil
  obtain ⟨q, hq, e⟩ := R.tab.before hK hi hj
  exact ⟨q, Nat.zero_le _, hq, by rw [hj, e]⟩
end
end Rk

/-! Sets of keys: adding. -/
set_option autoImplicit false
set_option linter.all false
set_option maxRecDepth 100000
namespace Rk
open PySem PySem.Spec PyProof.Rows L2
section
variable {P : Program} {w : World} {A : Around} {E : Value → Shared → Prop} {s : Shared} {a : Addr} {L : List (Addr × NestedKey)} {es : Array (Int × Value)} {ep : Nat} {t : SetTable}
theorem tkey_same {h h' : Heap} {k : NestedKey} {b : Addr} {o : Obj} (x : TKey P w h k b) (ho : h.get? a = some o) (hd : o.data = .set es ep t) (hs : Heap.SameBut a h h') : TKey P w h' k b :=
  ⟨NestedIs.at (fun c oc vs n hc e => (hs.2 c fun z => by
    subst z
    rw [ho] at hc
    cases hc
    rw [hd] at e
    cases e).trans hc) k _ x.1, x.2⟩
theorem tkey_keep {h h' : Heap} {k : NestedKey} {b : Addr} (x : TKey P w h k b) (hk : ∀ c o, h.get? c = some o → h'.get? c = some o) : TKey P w h' k b := ⟨NestedIs.at (fun c oc _ _ hc _ => hk c oc hc) k _ x.1, x.2⟩
/-- rows in another order -/
theorem rowsK_order {order : Array Nat} (hr : es.toList = rowsK w L) (hp : order.toList.Perm (List.range L.length)) :
    ∃ L2, (order.filterMap (es[·]?)).toList = rowsK w L2 ∧ L2.Perm L ∧ (L2.map fun p => p.2.hash w) = order.toList.map fun i => (es.map (·.1)).getD i 0 := by
  have ent : ∀ i (h : i < L.length), es[i]? = some ((L[i]).2.hash w, Value.ref (L[i]).1) := fun i h => by
    rw [← Array.getElem?_toList, hr, rowsK, List.getElem?_map, List.getElem?_eq_getElem h]
    rfl
  have go : ∀ l : List Nat, (∀ i ∈ l, i < L.length) → l.filterMap (fun i => es[i]?) = rowsK w (l.filterMap fun i => L[i]?) ∧ ((l.filterMap fun i => L[i]?).map fun p => p.2.hash w) = l.map fun i => (es.map (·.1)).getD i 0 := by
    intro l hl
    induction l with
    | nil => exact ⟨rfl, rfl⟩
    | cons i l ih =>
      have hi := hl i List.mem_cons_self
      obtain ⟨e1, e2⟩ := ih fun j hj => hl j (List.mem_cons_of_mem _ hj)
      have e3 : (es.map (·.1)).getD i 0 = (L[i]).2.hash w := by
        have : (es.map (·.1))[i]? = some ((L[i]).2.hash w) := by rw [Array.getElem?_map, ent i hi]; rfl
        simp [Array.getD_eq_getD_getElem?, this]
      rw [List.filterMap_cons_some (ent i hi), List.filterMap_cons_some (List.getElem?_eq_getElem hi), e1, List.map_cons, List.map_cons, e2, e3]
      exact ⟨rfl, rfl⟩
  obtain ⟨e1, e2⟩ := go order.toList fun i hi => List.mem_range.mp (hp.mem_iff.mp hi)
  refine ⟨order.toList.filterMap fun i => L[i]?, by rw [Array.toList_filterMap]; exact e1, ?_, e2⟩
  have h1 : (order.toList.filterMap fun i => L[i]?).Perm ((List.range L.length).filterMap fun i => L[i]?) := hp.filterMap _
  have h2 : ∀ n, n ≤ L.length → (List.range n).filterMap (fun i => L[i]?) = L.take n := by
    intro n
    induction n with
    | zero => intro _; rfl
    | succ n ih =>
      intro hn
      rw [List.range_succ, List.filterMap_append, ih (Nat.le_of_lt hn), List.take_succ, List.getElem?_eq_getElem hn, List.filterMap_cons_some (List.getElem?_eq_getElem hn)]
      rfl
  rw [h2 _ (Nat.le_refl _), List.take_length] at h1
  exact h1
/-- laid anew, larger -/
theorem lay_anew {o : Obj} (ho : s.heap.get? a = some o) (hex : o.ExactSet) (hd : o.data = .set es ep t) (hr : es.toList = rowsK w L) (hsz : t.place.size = es.size) (dm : t.dummies = #[]) (hfl : es.size ≤ t.mask) (nd : (L.map (·.2)).Nodup)
    (key : ∀ p ∈ L, TKey P w s.heap p.2 p.1) (ld : w.params.followText "set-order" = true ∨ t.led = true) (few : L.length < 64) {wanted M : Nat} (hw : SetTable.sizeAbove wanted - 1 = M) (hM : MaskOk M) (hw2 : SetTable.sizeAbove wanted ≤ 128) (hn : L.length * 5 < M * 3)
    {Q : Unit → Shared → Prop} (hQ : ∀ h' L' es' ep' t', Heap.SameBut a s.heap h' → SetN P w h' a L' es' ep' t' → L'.Perm L → Q () { s with heap := h' }) : wpAny (model P w) A (setRelay a wanted) Q E s := by
  have hl := rowsK_len hr
  have hfits : t.fits es.size = true := by
    unfold SetTable.fits SetTable.fill
    rw [dm, Bool.and_eq_true, beq_iff_eq, decide_eq_true_eq]
    exact ⟨hsz, by show t.place.size + 0 ≤ t.mask; omega⟩
  obtain ⟨t', order, e, hp, T, em, el, _, _⟩ := relaid_ok t (hs := es.map (·.1)) (wanted := wanted) hw hM (by rw [Array.size_map, hl]; omega)
  rw [Array.size_map, hl] at hp
  obtain ⟨L2, r1, r2, r3⟩ := rowsK_order hr hp
  rw [← r3] at T
  have hs2 : (order.filterMap (es[·]?)).size = es.size := by rw [rowsK_len r1, r2.length_eq, hl]
  rw [setRelay_eq]
  refine wpAny_bind (wpAny_setState_of ho hd hfits ?_)
  dsimp only
  refine wp_if_neg (by rw [sizeLine_eq]; omega) ?_
  try refine wpAny_bind (wpAny_pure ?_)
  rw [e]
  dsimp only
  refine wpAny_bind (wp_if_neg (by rw [hs2]; simp) ?_)
  try refine wpAny_bind (wpAny_pure ?_)
  refine wpAny_pure ?_
  dsimp only
  refine wpAny_storeSet_of ho hd ?_ (by rw [hs2, hl, sizeLine_eq]; omega)
  have sb : Heap.SameBut a s.heap (s.heap.update a (Obj.putSet (order.filterMap (es[·]?)) t')) := Heap.SameBut.update ..
  refine hQ _ L2 _ (ep + 1) t' sb ⟨⟨_, store_at ho hd, ⟨hex.1, hex.2.1, hex.2.2⟩, rfl⟩, r1, T, (r2.map (·.2)).nodup_iff.mpr nd, fun p z => tkey_same (key p (r2.mem_iff.mp z)) ho hd sb, by rw [el]; exact ld, ?_, by rw [r2.length_eq]; exact few⟩ r2
  rw [r2.length_eq, em]
  exact hn
/-- adding a key -/
theorem add_key (R : SetN P w s.heap a L es ep t) {x : Addr} {k : NestedKey} (hx : TKey P w s.heap k x) (hu : A.units + 8 < cLine) (few : L.length + 1 < 64) {Q : Bool → Shared → Prop}
    (hQ : ∀ b h' L' es' ep' t', Heap.SameBut a s.heap h' → SetN P w h' a L' es' ep' t' → (k ∈ L.map (·.2) → L' = L) → (k ∉ L.map (·.2) → L'.Perm ((x, k) :: L)) → Q b { s with heap := h' }) :
    wpAny (model P w) A (setAddHashed a (.ref x) (k.hash w)) Q E s := by
  obtain ⟨o, ho, hex, hd⟩ := R.ob
  have hl := rowsK_len R.rows
  have hroom := R.room
  unfold setAddHashed
  refine wpAny_holding ?_
  rw [show (100000 : Nat) = 99999 + 1 from rfl, setAddHashedIn_succ]
  refine wpAny_bind (wpAny_setState_of ho hd R.fits ?_)
  dsimp only
  refine wp_if_neg (by simp [byScan, Value.scannable]) ?_
  try refine wpAny_bind (wpAny_pure ?_)
  refine wpAny_bind (look_at R hx hu (fun hm => ?_) fun K hm hK hb => ?_)
  · exact wpAny_pure (hQ false s.heap L es ep t (Heap.SameBut.refl a s.heap) R (fun _ => rfl) fun z => absurd hm z)
  · dsimp only
    refine wpAny_bind (wpAny_setState_of ho hd R.fits ?_)
    dsimp only
    obtain ⟨q1, q2, q3, q4, q5, q6, _, _, q9⟩ := R.tab.put hK hb
    generalize hpt : t.put (way t.mask (k.hash w) K) = pt at q1 q3 q4 q5 q6 q9 ⊢
    obtain ⟨t1, p⟩ := pt
    dsimp only at q1 q3 q4 q5 q6 q9 ⊢
    subst q1
    generalize hpp : SetTable.below t.place (way t.mask (k.hash w) K) = p at q2 q3 ⊢
    have pm := put_perm L p (x, k)
    have hin : (SetTable.insertAt es p (k.hash w, Value.ref x)).toList = rowsK w (L.take p ++ (x, k) :: L.drop p) := by
      rw [SetTable.toList_insertAt, R.rows]
      simp [rowsK, List.map_take, List.map_drop]
    have hhs : (L.take p ++ (x, k) :: L.drop p).map (fun p => p.2.hash w) = (L.map fun p => p.2.hash w).take p ++ k.hash w :: (L.map fun p => p.2.hash w).drop p := by
      simp [List.map_take, List.map_drop]
    rw [← hhs] at q3
    have nd1 : ((L.take p ++ (x, k) :: L.drop p).map (·.2)).Nodup := (pm.map (·.2)).nodup_iff.mpr (by rw [List.map_cons]; exact List.nodup_cons.mpr ⟨hm, R.nd⟩)
    have hlen : (L.take p ++ (x, k) :: L.drop p).length = L.length + 1 := pm.length_eq
    have hes := rowsK_len hin
    rw [hlen] at hes
    generalize SetTable.insertAt es p (k.hash w, Value.ref x) = es1 at hin hes ⊢
    generalize L.take p ++ (x, k) :: L.drop p = L1 at pm hlen q3 nd1 hin
    -- whatever the mark says
    have tail : ∀ t2 : SetTable, t2.place = t1.place → t2.dummies = t1.dummies → t2.mask = t1.mask → t2.led = t1.led → t2.tooFull = t1.tooFull → wpAny (model P w) A (do
        storeSet a es1 t2
        if (!false && t2.tooFull) = true then setRelay a (SetTable.grown (es.size + 1))
        pure true) Q E s := by
      intro t2 p1 p2 p3 p4 p5
      have T2 : TabOk t2 (L1.map fun p => p.2.hash w) := ⟨by rw [p1]; exact q3.ris, by rw [p2]; exact q3.dm, by rw [p1]; exact q3.sz, by rw [p3]; exact q3.mok, by rw [p1, p3]; exact q3.bd, by rw [p1, p3]; exact q3.reach⟩
      refine wpAny_bind (wpAny_storeSet_of ho hd ?_ (by rw [hes, sizeLine_eq]; omega))
      have sb : Heap.SameBut a s.heap (s.heap.update a (Obj.putSet es1 t2)) := Heap.SameBut.update ..
      have ho1 := store_at (es' := es1) (t' := t2) ho hd
      generalize s.heap.update a (Obj.putSet es1 t2) = h1 at sb ho1 ⊢
      have key1 : ∀ p ∈ L1, TKey P w h1 p.2 p.1 := fun p hp => by
        rcases List.mem_cons.mp (pm.mem_iff.mp hp) with e | hp
        · rw [e]; exact tkey_same hx ho hd sb
        · exact tkey_same (R.key p hp) ho hd sb
      have ld1 : w.params.followText "set-order" = true ∨ t2.led = true := by rw [p4, q5]; exact R.led
      have full : t2.tooFull = decide ((L.length + 1) * 5 ≥ t.mask * 3) := by
        rw [p5]
        unfold SetTable.tooFull
        rw [q9, List.length_map, q4]
      by_cases hf : t2.tooFull = true
      · rw [full, decide_eq_true_eq] at hf
        have two : (t.mask = 7 ∧ L.length = 4) ∨ (t.mask = 31 ∧ L.length = 18) := by
          rcases R.tab.mok with e | e | e
          · left; rw [e] at hroom hf; exact ⟨e, by omega⟩
          · right; rw [e] at hroom hf; exact ⟨e, by omega⟩
          · exfalso; rw [e] at hf; omega
        have go : ∀ M, SetTable.sizeAbove (SetTable.grown (L.length + 1)) - 1 = M → MaskOk M → SetTable.sizeAbove (SetTable.grown (L.length + 1)) ≤ 128 → (L.length + 1) * 5 < M * 3 →
            wpAny (model P w) A (setRelay a (SetTable.grown (L.length + 1))) (fun _ s' => wpAny (model P w) A (pure true) Q E s') E { s with heap := h1 } := fun M a1 a2 a3 a4 => by
          refine lay_anew (s := { s with heap := h1 }) ho1 ⟨hex.1, hex.2.1, hex.2.2⟩ rfl hin (by rw [T2.sz, List.length_map, hlen, hes]) T2.dm (by rw [hes, p3, q4]; rcases two with ⟨e, e2⟩ | ⟨e, e2⟩ <;> omega) nd1 key1 ld1 (by rw [hlen]; exact few) a1 a2 a3 (by rw [hlen]; exact a4) fun h2 L2 es2 ep2 t3 sb2 R2 pm2 => ?_
          exact wpAny_pure (hQ true h2 L2 es2 ep2 t3 (sb.trans sb2) R2 (fun z => absurd z hm) fun _ => pm2.trans pm)
        refine wp_if_pos (by rw [full]; simpa using hf) ?_
        refine wpAny_bind ?_
        rw [hl]
        rcases two with ⟨_, e2⟩ | ⟨_, e2⟩
        · exact go 31 (by rw [e2, size_20]) (.inr (.inl rfl)) (by rw [e2, size_20]; decide) (by omega)
        · exact go 127 (by rw [e2, size_76]) (.inr (.inr rfl)) (by rw [e2, size_76]; decide) (by omega)
      · refine wp_if_neg (by simp [hf]) ?_
        rw [full, decide_eq_true_eq] at hf
        exact wpAny_pure (hQ true h1 L1 es1 (ep + 1) t2 sb ⟨⟨_, ho1, ⟨hex.1, hex.2.1, hex.2.2⟩, rfl⟩, hin, T2, nd1, key1, ld1, by rw [hlen, p3, q4]; omega, by rw [hlen]; exact few⟩ (fun z => absurd z hm) fun _ => pm)
    by_cases hpl : t1.plain = true
    · first
        | (refine wpAny_bind ?_; refine wp_if_pos hpl ?_; refine byv_key k _ 8 hx.1 fun b => ?_)
        | refine wp_if_pos hpl (wpAny_bind (byv_key k _ 8 hx.1 fun b => ?_))
      cases b with
      | true => exact tail t1 rfl rfl rfl rfl rfl
      | false => exact tail { t1 with plain := false } rfl rfl rfl rfl rfl
    · first
        | (refine wpAny_bind ?_; refine wp_if_neg hpl ?_; refine wpAny_pure ?_)
        | refine wp_if_neg hpl (wpAny_bind (wpAny_pure ?_))
      exact tail t1 rfl rfl rfl rfl rfl
end
end Rk

/-! Sets of texts and numbers; what both kinds of sets have in common. -/
set_option autoImplicit false
set_option linter.all false
set_option maxRecDepth 100000
namespace Rk
open PySem PySem.Spec PyProof.Rows L2

def kOf : Value → L2.Key
  | .int i _ => .inl i
  | .str x _ => .inr x
  | _ => .inl 0
def GoodK (P : Program) (w : World) (e : Int × Value) : Prop := (mixKind P w).is (kOf e.2) e.2 = true ∧ e.1 = (mixKind P w).hash (kOf e.2) ∧ e.2.scannable = true
structure SetS (P : Program) (w : World) (h : Heap) (a : Addr) (es : Array (Int × Value)) (ep : Nat) (t : SetTable) : Prop where
  ob : ∃ o, h.get? a = some o ∧ o.ExactSet ∧ o.data = .set es ep t
  good : ∀ e ∈ es.toList, GoodK P w e
  nd : (es.toList.map fun e => kOf e.2).Nodup
  fits : t.fits es.size = true
  ris : Ris t.place.toList
  led : w.params.followText "set-order" = true ∨ t.led = true
  few : es.size < 64
section
variable {P : Program} {w : World} {A : Around} {E : Value → Shared → Prop} {s : Shared} {a : Addr} {es : Array (Int × Value)} {ep : Nat} {t : SetTable}
theorem SetS.elems (R : SetS P w s.heap a es ep t) : ElemsOf (mixKind P w) es.toList := fun e he => let ⟨h1, h2, h3⟩ := R.good e he; ⟨⟨_, h1, h2⟩, h3⟩
theorem few_scan {n : Nat} (h : n < 64) : n < scanBound := by unfold scanBound; omega
/-- storing a changed table, and laying it anew where it is too full -/
theorem scan_tail {g : Bool → Sem Unit} (hg : ∀ (b : Bool) (s₁ : Shared) (Q' : Unit → Shared → Prop), Q' () s₁ → wpAny (model P w) A (g b) Q' E s₁) {o : Obj} (ho : s.heap.get? a = some o) (hex : o.ExactSet) (hd : o.data = .set es ep t)
    {es1 : Array (Int × Value)} {t2 : SetTable} (g1 : ∀ e ∈ es1.toList, GoodK P w e) (nd1 : (es1.toList.map fun e => kOf e.2).Nodup) (few : es1.size < 64) (hf : t2.fits es1.size = true) (hr : Ris t2.place.toList) (hl : w.params.followText "set-order" = true ∨ t2.led = true)
    {wd : Bool} {R : Option Bool → Shared → Prop} (hR : ∀ h' es' ep' t', Heap.SameBut a s.heap h' → SetS P w h' a es' ep' t' → es'.toList.Perm es1.toList → R (some true) { s with heap := h' }) :
    wpAny (model P w) A (do
        storeSet a es1 t2
        if (!wd && t2.tooFull) = true then do
            g (relayAll t2 es1 (SetTable.grown es1.size)).2.2
            storeSet a (relayAll t2 es1 (SetTable.grown es1.size)).1 (relayAll t2 es1 (SetTable.grown es1.size)).2.1
            pure (some true)
          else pure (some true)) R E s := by
  refine wpAny_bind (wpAny_storeSet_of ho hd ?_ (fits_of_scanBound (few_scan few)))
  have ho1 := store_at (es' := es1) (t' := t2) ho hd
  have sb1 := Heap.SameBut.update s.heap a (Obj.putSet es1 t2)
  split
  · have pm := relayAll_perm t2 es1 (SetTable.grown es1.size)
    have f3 := relayAll_fits t2 es1 (SetTable.grown es1.size)
    have r3 := relayAll_ris t2 es1 (SetTable.grown es1.size)
    have l3 := relayAll_led t2 es1 (SetTable.grown es1.size)
    generalize relayAll t2 es1 (SetTable.grown es1.size) = Z at pm f3 r3 l3 ⊢
    obtain ⟨es2, t3, gave⟩ := Z
    dsimp only at pm f3 r3 l3 ⊢
    have hsz : es2.size = es1.size := by rw [← Array.length_toList, pm.length_eq, Array.length_toList]
    have few2 : es2.size < 64 := by rw [hsz]; exact few
    refine wpAny_bind (hg _ _ _ (wpAny_bind (wpAny_storeSet_of ho1 rfl ?_ (fits_of_scanBound (few_scan few2)))))
    have ho2 := store_at (es' := es2) (t' := t3) ho1 rfl
    exact wpAny_pure (hR _ es2 _ t3 (sb1.trans (Heap.SameBut.update _ a _)) ⟨⟨_, ho2, hex, rfl⟩, fun e he => g1 e (pm.mem_iff.mp he), (pm.map _).nodup_iff.mpr nd1, f3, r3, hl.imp id fun z => by rw [l3]; exact z, few2⟩ pm)
  · exact wpAny_pure (hR _ es1 _ t2 sb1 ⟨⟨_, ho1, hex, rfl⟩, g1, nd1, hf, hr, hl, few⟩ (List.Perm.refl _))
theorem add_scan (R : SetS P w s.heap a es ep t) {v : Value} {k : L2.Key} (hk : (mixKind P w).is k v = true) (ek : kOf v = k) (hsc : v.scannable = true) (few : es.size + 1 < 64) {Q : Bool → Shared → Prop}
    (hQ : ∀ b h' es' ep' t', Heap.SameBut a s.heap h' → SetS P w h' a es' ep' t' → (k ∈ es.toList.map (fun e => kOf e.2) → es' = es) → (k ∉ es.toList.map (fun e => kOf e.2) → es'.toList.Perm (((mixKind P w).hash k, v) :: es.toList)) → Q b { s with heap := h' }) :
    wpAny (model P w) A (setAddHashed a v ((mixKind P w).hash k)) Q E s := by
  obtain ⟨o, ho, hex, hd⟩ := R.ob
  have hel := R.elems
  have mem_is : k ∈ es.toList.map (fun e => kOf e.2) ↔ ∃ e ∈ es.toList, (mixKind P w).is k e.2 = true := by
    rw [List.mem_map]
    constructor
    · rintro ⟨e, he, q⟩
      exact ⟨e, he, by rw [← q]; exact (R.good e he).1⟩
    · rintro ⟨e, he, q⟩
      exact ⟨e, he, (mixKind P w).inj _ _ _ (R.good e he).1 q⟩
  unfold setAddHashed setAddHashedIn
  refine wpAny_holding (wpAny_bind (wpAny_setState_of ho hd R.fits ?_))
  dsimp only
  rw [byScan_of hsc (few_scan R.few) hel]
  simp only [↓reduceIte]
  unfold setAddByScan
  refine wpAny_bind (wpAny_bind (wpAny_rule (wpAny_bind (wpAny_setScan_of hk ho hd R.fits hel ?_))))
  cases hfi : List.findIdx? (fun e => (mixKind P w).is k e.2) es.toList with
  | some j =>
    dsimp only
    obtain ⟨hj, pj, _⟩ := List.findIdx?_eq_some_iff_getElem.mp hfi
    have hin := mem_is.mpr ⟨es.toList[j], List.getElem_mem hj, pj⟩
    exact wpAny_pure (wpAny_pure (hQ false s.heap es ep t (Heap.SameBut.refl a s.heap) R (fun _ => rfl) fun z => absurd hin z))
  | none =>
    dsimp only
    have hn : k ∉ es.toList.map (fun e => kOf e.2) := fun z => by
      obtain ⟨e, he, q⟩ := mem_is.mp z
      have c := List.findIdx?_eq_none_iff.mp hfi e he
      rw [q] at c
      cases c
    have pm := layNew_perm t es ((mixKind P w).hash k) v
    have f1 := layNew_fits t es ((mixKind P w).hash k) v
    have r1 := layNew_ris t es ((mixKind P w).hash k) v R.ris
    have l1 := layNew_led t es ((mixKind P w).hash k) v
    generalize layNew t es ((mixKind P w).hash k) v = Z at pm f1 r1 l1 ⊢
    obtain ⟨es1, t1, wd, gave⟩ := Z
    dsimp only at pm f1 r1 l1 ⊢
    rw [Array.toList_push] at pm
    have pc : es1.toList.Perm (((mixKind P w).hash k, v) :: es.toList) := pm.trans (List.perm_append_singleton _ _)
    have g1 : ∀ e ∈ es1.toList, GoodK P w e := fun e he => by
      rcases List.mem_cons.mp (pc.mem_iff.mp he) with z | z
      · rw [z]; exact ⟨by rw [ek]; exact hk, by rw [ek], hsc⟩
      · exact R.good e z
    have nd1 : (es1.toList.map fun e => kOf e.2).Nodup := (pc.map _).nodup_iff.mpr (by rw [List.map_cons]; refine List.nodup_cons.mpr ⟨?_, R.nd⟩; show kOf v ∉ _; rw [ek]; exact hn)
    have hsz : es1.size = es.size + 1 := by rw [← Array.length_toList, pc.length_eq, List.length_cons, Array.length_toList]
    have few1 : es1.size < 64 := by rw [hsz]; exact few
    have led1 : w.params.followText "set-order" = true ∨ t1.led = true := R.led.imp id fun z => by rw [l1]; exact z
    have fin : ∀ h' es' ep' t', Heap.SameBut a s.heap h' → SetS P w h' a es' ep' t' → es'.toList.Perm es1.toList → wpAny (model P w) A (pure true) Q E { s with heap := h' } := fun h' es' ep' t' sb r p =>
      wpAny_pure (hQ true h' es' ep' t' sb r (fun z => absurd z hn) fun _ => p.trans pc)
    have rl : ∀ (b : Bool) (s₁ : Shared) (Q' : Unit → Shared → Prop), Q' () s₁ → wpAny (model P w) A (match b with | true => rule "set.scan.the-table-gave-way" | false => pure ()) Q' E s₁ := fun b s₁ Q' q => by
      cases b
      · exact wpAny_pure q
      · exact wpAny_rule q
    refine wpAny_bind (rl _ _ _ ?_)
    split
    · rw [hashByValue_scannable 8 hsc]
      refine wpAny_bind (wpAny_pure ?_)
      cases plainKind v with
      | true => exact scan_tail rl ho hex hd g1 nd1 few1 f1 r1 led1 fin
      | false => exact scan_tail rl ho hex hd g1 nd1 few1 (SetTable.fits_plain_off f1) r1 led1 fin
    · refine wpAny_bind (wpAny_pure ?_)
      exact scan_tail rl ho hex hd g1 nd1 few1 f1 r1 led1 fin
end

/-! ### what a filling loop wants -/
/-- elements κ, told by Is of values; In: what the set at S holds -/
structure Adds (P : Program) (w : World) (S : Addr) (h0 : Heap) (κ : Type) (Is : κ → Value → Prop) (In : Heap → List (Value × κ) → Prop) : Prop where
  keep : ∀ (h h' : Heap) (L : List (Value × κ)), In h L → (∀ o, h.get? S = some o → h'.get? S = some o) → (∀ b o, h0.get? b = some o → h'.get? b = some o) → In h' L
  add : ∀ (A : Around) (E : Value → Shared → Prop) (s : Shared) (L : List (Value × κ)) (v : Value) (k : κ) (Q : Bool → Shared → Prop), A.units + 8 < cLine → (∀ b o, h0.get? b = some o → s.heap.get? b = some o) → In s.heap L → Is k v → L.length + 1 < 64 →
    (∀ b h' tk L', s.toks ≤ tk → Heap.SameBut S s.heap h' → In h' L' → (k ∈ L.map (·.2) → L' = L) → (k ∉ L.map (·.2) → L'.Perm ((v, k) :: L)) → Q b { s with heap := h', toks := tk }) → wpAny (model P w) A (setAdd S v) Q E s
  view : ∀ (h : Heap) (L : List (Value × κ)), In h L → ∃ es ep t, SetAt h S es ep t ∧ t.fits es.size = true ∧ Ris t.place.toList ∧ (w.params.followText "set-order" = true ∨ t.led = true) ∧ es.toList.map (·.2) = L.map (·.1) ∧ (L.map (·.2)).Nodup
def IsTK (P : Program) (w : World) (h0 : Heap) (k : NestedKey) (v : Value) : Prop := ∃ b, v = .ref b ∧ TKey P w h0 k b
def IsMK (P : Program) (w : World) (k : L2.Key) (v : Value) : Prop := (mixKind P w).is k v = true ∧ kOf v = k ∧ v.scannable = true
def InT (P : Program) (w : World) (S : Addr) (h0 h : Heap) (L : List (Value × NestedKey)) : Prop := ∃ L0 es ep t, SetN P w h S L0 es ep t ∧ L = L0.map (fun p => (Value.ref p.1, p.2)) ∧ ∀ p ∈ L0, TKey P w h0 p.2 p.1
def InM (P : Program) (w : World) (S : Addr) (h : Heap) (L : List (Value × L2.Key)) : Prop := ∃ es ep t, SetS P w h S es ep t ∧ L = es.toList.map fun e => (e.2, kOf e.2)
theorem adds_T (P : Program) (w : World) (S : Addr) (h0 : Heap) : Adds P w S h0 NestedKey (IsTK P w h0) (InT P w S h0) where
  keep := fun h h' L ⟨L0, es, ep, t, R, e, hk⟩ hS h0' => by
    obtain ⟨o, ho, r⟩ := R.ob
    exact ⟨L0, es, ep, t, ⟨⟨o, hS o ho, r⟩, R.rows, R.tab, R.nd, fun p hp => tkey_keep (hk p hp) h0', R.led, R.room, R.few⟩, e, hk⟩
  add := fun A E s L v k Q hu h0' ⟨L0, es, ep, t, R, e, hk⟩ ⟨b, ev, kb⟩ few hQ => by
    subst e ev
    have hx : TKey P w s.heap k b := tkey_keep kb h0'
    unfold setAdd
    refine wpAny_holding (wpAny_bind ((nestedKind P w).pyHash hu hx ?_))
    have em : (L0.map fun p => (Value.ref p.1, p.2)).map (·.2) = L0.map (·.2) := by rw [List.map_map]; rfl
    rw [List.length_map] at few
    refine add_key (s := { s with toks := s.toks + (nestedKind P w).draws k }) R hx hu few fun c h' L' es' ep' t' sb R' c1 c2 => ?_
    have sub : ∀ p ∈ L', TKey P w h0 p.2 p.1 := fun p hp => by
      by_cases hm : k ∈ L0.map (·.2)
      · rw [c1 hm] at hp; exact hk p hp
      · rcases List.mem_cons.mp ((c2 hm).mem_iff.mp hp) with z | z
        · rw [z]; exact kb
        · exact hk p z
    refine hQ c h' _ (L'.map fun p => (Value.ref p.1, p.2)) (Nat.le_add_right _ _) sb ⟨L', es', ep', t', R', rfl, sub⟩ (fun hm => ?_) fun hm => ?_
    · rw [em] at hm
      rw [c1 hm]
    · rw [em] at hm
      exact (c2 hm).map fun p => (Value.ref p.1, p.2)
  view := fun h L ⟨L0, es, ep, t, R, e, hk⟩ => by
    subst e
    obtain ⟨o, ho, hex, hd⟩ := R.ob
    refine ⟨es, ep, t, ⟨o, ho, hex.1, hd⟩, R.fits, R.tab.ris, R.led, ?_, ?_⟩
    · rw [R.rows, rowsK, List.map_map, List.map_map]
      rfl
    · rw [List.map_map]
      exact R.nd
theorem adds_M (P : Program) (w : World) (S : Addr) (h0 : Heap) : Adds P w S h0 L2.Key (IsMK P w) (InM P w S) where
  keep := fun h h' L ⟨es, ep, t, R, e⟩ hS h0' => by
    obtain ⟨o, ho, r⟩ := R.ob
    exact ⟨es, ep, t, ⟨⟨o, hS o ho, r⟩, R.good, R.nd, R.fits, R.ris, R.led, R.few⟩, e⟩
  add := fun A E s L v k Q hu h0' ⟨es, ep, t, R, e⟩ ⟨hk, ek, hsc⟩ few hQ => by
    subst e
    unfold setAdd
    refine wpAny_holding (wpAny_bind ((mixKind P w).pyHash hk ?_))
    have em : (es.toList.map fun e => (e.2, kOf e.2)).map (·.2) = es.toList.map fun e => kOf e.2 := by rw [List.map_map]; rfl
    rw [List.length_map, Array.length_toList] at few
    refine add_scan (s := { s with toks := s.toks + 1 }) R hk ek hsc few fun c h' es' ep' t' sb R' c1 c2 => ?_
    refine hQ c h' _ (es'.toList.map fun e => (e.2, kOf e.2)) (Nat.le_add_right _ _) sb ⟨es', ep', t', R', rfl⟩ (fun hm => ?_) fun hm => ?_
    · rw [em] at hm
      rw [c1 hm]
    · rw [em] at hm
      have := (c2 hm).map fun e : Int × Value => (e.2, kOf e.2)
      rw [List.map_cons] at this
      rw [← ek]
      rw [ek]
      simpa [ek] using this
  view := fun h L ⟨es, ep, t, R, e⟩ => by
    subst e
    obtain ⟨o, ho, hex, hd⟩ := R.ob
    refine ⟨es, ep, t, ⟨o, ho, hex.1, hd⟩, R.fits, R.ris, R.led, ?_, ?_⟩
    · rw [List.map_map]
      rfl
    · rw [List.map_map]
      exact R.nd
end Rk

/-! set(xs) of a list. -/
set_option autoImplicit false
set_option linter.all false
set_option maxRecDepth 100000
namespace Rk
open PySem PySem.Spec PyProof.Rows L2

abbrev set0 (w : World) : Obj := { cls := .type "set", dict := none, data := .set #[] 0 (.fresh 0 0 (!w.params.followText "set-order")) }
theorem fresh_led (w : World) : w.params.followText "set-order" = true ∨ (SetTable.fresh 0 0 (!w.params.followText "set-order")).led = true := by
  show _ ∨ (!w.params.followText "set-order") = true
  cases w.params.followText "set-order"
  · exact .inr rfl
  · exact .inl rfl
theorem inT_fresh {P : Program} {w : World} {S : Addr} {h0 h : Heap} (ho : h.get? S = some (set0 w)) : InT P w S h0 h [] :=
  ⟨[], #[], 0, _, ⟨⟨_, ho, ⟨rfl, rfl, rfl⟩, rfl⟩, rfl, ⟨List.Pairwise.nil, rfl, rfl, .inl rfl, fun x hx => (by cases hx), fun i h j hi => (by simp at hi)⟩, List.nodup_nil, fun p hp => (by cases hp), fresh_led w, by show 0 * 5 < 7 * 3; decide, by decide⟩, rfl, fun p hp => by cases hp⟩
theorem inM_fresh {P : Program} {w : World} {S : Addr} {h : Heap} (ho : h.get? S = some (set0 w)) : InM P w S h [] :=
  ⟨#[], 0, _, ⟨⟨_, ho, ⟨rfl, rfl, rfl⟩, rfl⟩, fun e he => (by cases he), List.nodup_nil, rfl, List.Pairwise.nil, fresh_led w, by decide⟩, rfl⟩
/-- what is in the set behind the first i -/
structure GotV {κ : Type} (ks : List (Value × κ)) (i : Nat) (L : List (Value × κ)) : Prop where
  sub : ∀ p ∈ L, p ∈ ks.take i
  all : ∀ p ∈ ks.take i, p.2 ∈ L.map (·.2)
  len : L.length ≤ i
theorem GotV.start {κ : Type} (ks : List (Value × κ)) : GotV ks 0 [] := ⟨fun p h => (by cases h), fun p h => (by simp at h), Nat.le_refl _⟩
theorem GotV.next {κ : Type} {ks L L' : List (Value × κ)} {i : Nat} {x : Value × κ} (g : GotV ks i L) (h : ks[i]? = some x) (c1 : x.2 ∈ L.map (·.2) → L' = L) (c2 : x.2 ∉ L.map (·.2) → L'.Perm (x :: L)) : GotV ks (i + 1) L' := by
  have tk : ks.take (i + 1) = ks.take i ++ [x] := by rw [List.take_succ, h]; rfl
  by_cases hm : x.2 ∈ L.map (·.2)
  · rw [c1 hm]
    refine ⟨fun p hp => by rw [tk]; exact List.mem_append_left _ (g.sub p hp), fun p hp => ?_, Nat.le_succ_of_le g.len⟩
    rw [tk] at hp
    rcases List.mem_append.mp hp with z | z
    · exact g.all p z
    · rw [List.mem_singleton.mp z]; exact hm
  · have pm := c2 hm
    refine ⟨fun p hp => ?_, fun p hp => ?_, by rw [pm.length_eq, List.length_cons]; exact Nat.succ_le_succ g.len⟩
    · rw [tk]
      rcases List.mem_cons.mp (pm.mem_iff.mp hp) with e | z
      · rw [e]; exact List.mem_append_right _ (List.mem_singleton.mpr rfl)
      · exact List.mem_append_left _ (g.sub p z)
    · rw [(pm.map (·.2)).mem_iff, List.map_cons]
      rw [tk] at hp
      rcases List.mem_append.mp hp with z | z
      · exact List.mem_cons_of_mem _ (g.all p z)
      · rw [List.mem_singleton.mp z]; exact List.mem_cons_self
section
variable {P : Program} {w : World} {A : Around} {E : Value → Shared → Prop} {s : Shared} {κ : Type} {Is : κ → Value → Prop} {In : Heap → List (Value × κ) → Prop}
theorem fill_loop {I : Addr} {fp wr : List Addr} {G : Array GenState → Array GenState → Prop} {n : Nat} {Pv : Nat → Value → Prop} {St : Nat → Shared → Prop} {R : Result → Shared → Prop} (W : WalksS P w A.in1 I fp wr G n Pv St) {S : Addr} {h0 : Heap} (ad : Adds P w S h0 κ Is In)
    (hSf : S ∉ fp) (ks : List (Value × κ)) (hn : n = ks.length) (few : ∀ L : List (Value × κ), (∀ p ∈ L, p ∈ ks) → (L.map (·.2)).Nodup → L.length + 1 < 64) (hval : ∀ i v, Pv i v → ∃ p, ks[i]? = some p ∧ v = p.1) (his : ∀ p ∈ ks, Is p.2 p.1) (hS0 : h0.get? S = none) (hw0 : ∀ b ∈ wr, h0.get? b = none) (hu : A.in1.units + 8 < cLine) :
    ∀ (k i : Nat) (s : Shared), n - i = k → i ≤ n → St i s → (∀ b o, h0.get? b = some o → s.heap.get? b = some o) → (∃ L, In s.heap L ∧ GotV ks i L) →
      (∀ s' L, Moved (S :: wr) G s s' → In s'.heap L → GotV ks n L → (∀ b o, h0.get? b = some o → s'.heap.get? b = some o) → R (.ok (.ret .none)) s') → codeAny (model P w) A (.builtin "set.update.loop" ⟨[.ref S, .ref I], []⟩) R s := by
  have nw : S ∉ wr := fun h => hSf (W.sub _ h)
  have up : ∀ b ∈ wr, b ∈ S :: wr := fun b hb => List.mem_cons_of_mem _ hb
  have kp : ∀ {s s' : Shared}, Moved wr G s s' → (∀ b o, h0.get? b = some o → s.heap.get? b = some o) → ∀ b o, h0.get? b = some o → s'.heap.get? b = some o := fun hm k0 b o e => hm.heap b o (fun hb => by rw [hw0 b hb] at e; cases e) (k0 b o e)
  intro k
  induction k with
  | zero =>
    intro i s hk hi hst k0 ⟨L, hL, g⟩ hR
    obtain rfl : i = n := by omega
    refine codeAny_builtin F.entry_set_update_loop ?_
    rw [Around.under_plainId F.plain_set_update_loop _]
    refine wpAny_bind (W.done s _ _ hst fun s' hm => ?_)
    exact wpAny_pure (hR s' L (hm.mono up) (ad.keep _ _ _ hL (fun o e => hm.heap S o nw e) (kp hm k0)) g (kp hm k0))
  | succ k ih =>
    intro i s hk hi hst k0 ⟨L, hL, g⟩ hR
    have hlt : i < n := by omega
    refine codeAny_builtin F.entry_set_update_loop ?_
    rw [Around.under_plainId F.plain_set_update_loop _]
    refine wpAny_bind (W.item i s _ _ hlt hst fun v s' hP hst' hm => ?_)
    obtain ⟨p, hp, rfl⟩ := hval i v hP
    have k1 := kp hm k0
    have hL1 := ad.keep _ _ _ hL (fun o e => hm.heap S o nw e) k1
    show wpAny _ A.in1 (holding [p.1] (setAdd S p.1) >>= _) _ _ s'
    refine wpAny_bind (wpAny_holding (ad.add A.in1 _ s' L p.1 p.2 _ hu k1 hL1 (his p (List.mem_of_getElem? hp)) (few L (fun p hp => List.mem_of_mem_take (g.sub p hp)) (let ⟨_, _, _, _, _, _, _, _, nd⟩ := ad.view _ _ hL1; nd)) fun b h' tk L' htk sb hL2 c1 c2 => ?_))
    have g' : GotV ks (i + 1) L' := g.next hp c1 c2
    have k2 : ∀ b o, h0.get? b = some o → h'.get? b = some o := fun b o e => (sb.2 b (fun z => by rw [z, hS0] at e; cases e)).trans (k1 b o e)
    refine wpAny_pure ⟨plainId_quiet F.plain_set_update_loop _, ih (i + 1) _ (by omega) hlt (W.frame _ s' _ _ hst' htk fun b hb o e => ?_) k2 ⟨L', hL2, g'⟩ fun s'' L2 hm2 hL3 g3 k3 => ?_⟩
    · rw [sb.2 b (fun h : b = S => hSf (by rw [← h]; exact hb))]; exact e
    · refine hR s'' L2 (Moved.trans W.gtrans ((hm.mono up).then_heap htk fun b o hb e => ?_) hm2) hL3 g3 k3
      rw [sb.2 b (fun h : b = S => hb (by rw [h]; exact List.mem_cons_self))]; exact e

set_option maxHeartbeats 3200000 in
theorem call_setK {l : Addr} {items : Array Value} (ad : Adds P w s.heap.objs.size s.heap κ Is In) (ks : List (Value × κ)) {Q : Value → Shared → Prop} (hh : A.handled = none) (hl : s.heap.IsList l items) (hit : items.toList = ks.map (·.1)) (his : ∀ p ∈ ks, Is p.2 p.1) (few : ∀ L : List (Value × κ), (∀ p ∈ L, p ∈ ks) → (L.map (·.2)).Nodup → L.length + 1 < 64)
    (hu : A.units + 12 < cLine) (new : ∀ h : Heap, h.get? s.heap.objs.size = some (set0 w) → In h [])
    (h : ∀ (h' : Heap) (tk : Nat) L, In h' L → GotV ks ks.length L → (∀ b o, s.heap.get? b = some o → h'.get? b = some o) → Q (.ref s.heap.objs.size) { s with heap := h', toks := tk }) : wpAny (model P w) A (call (.type "set") [.ref l]) Q E s := by
  have hisz : items.size = ks.length := by
    have q := congrArg List.length hit
    simpa using q
  obtain ⟨c, tl, hmro⟩ := F.called_set.mro
  have hmade := F.called_set.made
  have hsub := F.called_set.sub
  refine wpAny_call (codeAny_of_tree ?_)
  show wpAny _ _ (callAny (.type "set") _) _ _ _
  refine wpAny_pure ⟨Code.quiet_builtin _ (by decide +kernel), codeAny_builtin F.entry_type_call ?_⟩
  rw [Around.under_plain (weight_type_call_type "set" [.ref l] []) rfl]
  have h1 := F.called_set.notType
  have h2 := F.called_set.canCreate
  have hct := F.typeCall_set_1 (.ref l)
  repeat (any_goals (first | assumption | wp_step))
  refine codeAny_mono (code_set_led1 (.ref l) (E := E) (Q₁ := fun obj s₁ => obj = .ref s.heap.objs.size ∧ s₁ = { s with heap := s.heap.push (set0 w) }) ⟨rfl, rfl⟩) fun r s₁ hr => ?_
  cases r with
  | error e => exact hr
  | ok fl =>
    cases fl with
    | ret obj =>
      obtain ⟨rfl, rfl⟩ := hr
      have hS : (s.heap.push (set0 w)).get? s.heap.objs.size = some (set0 w) := Heap.get?_push_size _ rfl
      have hT : Shared.TypeIs { s with heap := s.heap.push (set0 w) } (.ref s.heap.objs.size) "set" := ⟨_, hS, rfl⟩
      have hli := F.called_set.init.lookup
      have hbi := F.called_set.init.bind (.ref s.heap.objs.size)
      repeat (any_goals (first | assumption | wp_step))
      refine codeAny_mono (codeAny_call_builtin (R := wants (fun r s₂ => r = .none ∧ ∃ h' tk L, s₂ = { s with heap := h', toks := tk } ∧ In h' L ∧ GotV ks ks.length L ∧ (∀ b o, s.heap.get? b = some o → h'.get? b = some o)) E) F.called_set.init.plain F.entry_set_init (check_set_init_1 hT ?_)) fun r₂ s₂ hr₂ => ?_
      · obtain ⟨ol, hol, hcl, nl, hdl⟩ := hl
        obtain ⟨ocls, odict, odata, oslots⟩ := ol
        simp only at hcl hdl
        subst hcl; subst hdl
        have hol' : (s.heap.push (set0 w)).get? l = some { cls := .type "list", dict := odict, data := .seq items nl, slots := oslots } := Heap.get?_push_of_some _ hol
        have hsls := F.sub_list_set
        have hslf := F.sub_list_frozenset
        have hne : (Value.type "list" == Value.type "dict") = false := by decide
        have hl1 : (s.heap.push (set0 w)).IsList l items := ⟨_, hol', rfl, nl, rfl⟩
        unfold Builtin.«set.__init__» noKeywords Builtin.Frozenset.updateFrom
        generalize hPI : pyIter = PI
        wp_walk
        subst hPI
        refine wpAny_pyIter_list hl1 (wpAny_bind (wpAny_runValue ?_))
        have hlS : l < s.heap.objs.size := Heap.lt_size hol
        have hh3 : A.in1.in1.in1.handled = none := by simp [hh]
        have hneI : l ≠ (s.heap.push (set0 w)).objs.size := by rw [Heap.size_push]; exact Nat.ne_of_lt (Nat.lt_succ_of_lt hlS)
        have hSf : s.heap.objs.size ∉ [(s.heap.push (set0 w)).objs.size, l] := by
          rw [Heap.size_push]
          simp only [List.mem_cons, List.mem_singleton, List.not_mem_nil, or_false, not_or]
          exact ⟨Nat.ne_of_lt (Nat.lt_succ_self _), Nat.ne_of_gt hlS⟩
        have hval : ∀ (i : Nat) (v : Value), items[i]? = some v → ∃ p, ks[i]? = some p ∧ v = p.1 := fun i v hv => by
          have q : items.toList[i]? = some v := by rw [Array.getElem?_toList]; exact hv
          rw [hit, List.getElem?_map] at q
          obtain ⟨p, e1, e2⟩ := Option.map_eq_some_iff.mp q
          exact ⟨p, e1, e2.symm⟩
        have none_of : ∀ b, s.heap.objs.size ≤ b → s.heap.get? b = none := fun b hb => by
          cases q : s.heap.get? b with
          | none => rfl
          | some o => exact absurd (Nat.lt_of_lt_of_le (Heap.lt_size q) hb) (Nat.lt_irrefl _)
        refine fill_loop ((Walks.list hh3 _ l hneI items).toS) ad hSf ks hisz few hval his (none_of _ (Nat.le_refl _)) (fun b hb => none_of b (by
            rw [List.mem_singleton.mp hb, Heap.size_push]
            exact Nat.le_succ _)) (by show A.units + 1 + 1 + 1 + 8 < cLine; omega) (items.size - 0) 0 _ (by omega) (Nat.zero_le _)
          ⟨⟨_, Heap.get?_push_size _ rfl, rfl, rfl⟩, (hl1.push _)⟩ (fun b o e => Heap.get?_push_of_some _ (Heap.get?_push_of_some _ e)) ⟨[], new _ (Heap.get?_push_of_some _ hS), GotV.start ks⟩ ?hR
        case hR =>
          intro s' L hm hL g' hkp
          obtain ⟨h', g2, d', tk', os'⟩ := s'
          obtain rfl : g2 = s.gens := hm.gens
          obtain rfl : d' = s.drawn := hm.drawn
          obtain rfl : os' = s.os := hm.os
          refine wpAny_pure ?_
          rw [hisz] at g'
          exact wpAny_pure ⟨rfl, h', tk', L, rfl, hL, g', hkp⟩
      · cases r₂ with
        | error e => exact hr₂
        | ok fl₂ =>
          cases fl₂ with
          | ret r =>
            obtain ⟨rfl, h', tk, L, rfl, hL, g', hk'⟩ := hr₂
            repeat (any_goals (first | assumption | wp_step))
            exact h _ _ _ hL g' hk'
          | _ => exact hr₂.elim
    | _ => exact hr.elim
end
end Rk

/-! sorted of a set, of a dict. -/
set_option autoImplicit false
set_option linter.all false
set_option maxRecDepth 100000
namespace Rk
open PySem PySem.Spec PyProof.Rows L2

/-! ### keys in order -/
mutual
theorem toks_inj : ∀ (a b : D), keyIn a = true → keyIn b = true → PySem.W.alike a b = true → ∀ r r', PySem.W.keyToks a ++ r = PySem.W.keyToks b ++ r' → a = b ∧ r = r'
  | .int x, .int y, _, _, _, r, r', h => by
    simp only [PySem.W.keyToks, List.cons_append, List.nil_append, List.cons.injEq, Sum.inl.injEq] at h
    rw [h.1]; exact ⟨rfl, h.2⟩
  | .str x, .str y, _, _, _, r, r', h => by
    simp only [PySem.W.keyToks, List.cons_append, List.nil_append, List.cons.injEq, Sum.inr.injEq] at h
    rw [PySem.W.str_of_cps h.1]; exact ⟨rfl, h.2⟩
  | .tuple xs, .tuple ys, h1, h2, h3, r, r', h => by
    obtain ⟨e1, e2⟩ := toks_all xs ys (by simpa [keyIn] using h1) (by simpa [keyIn] using h2) (by simpa [PySem.W.alike] using h3) r r' (by simpa [PySem.W.keyToks] using h)
    rw [e1]; exact ⟨rfl, e2⟩
  | .none, _, h1, _, _, _, _, _ => by simp [keyIn] at h1
  | .bool _, _, h1, _, _, _, _, _ => by simp [keyIn] at h1
  | .list _, _, h1, _, _, _, _, _ => by simp [keyIn] at h1
  | .dict _, _, h1, _, _, _, _, _ => by simp [keyIn] at h1
  | .int _, .none, _, h2, _, _, _, _ => by simp [keyIn] at h2
  | .int _, .bool _, _, h2, _, _, _, _ => by simp [keyIn] at h2
  | .int _, .list _, _, h2, _, _, _, _ => by simp [keyIn] at h2
  | .int _, .dict _, _, h2, _, _, _, _ => by simp [keyIn] at h2
  | .int _, .str _, _, _, h3, _, _, _ => by simp [PySem.W.alike] at h3
  | .int _, .tuple _, _, _, h3, _, _, _ => by simp [PySem.W.alike] at h3
  | .str _, .none, _, h2, _, _, _, _ => by simp [keyIn] at h2
  | .str _, .bool _, _, h2, _, _, _, _ => by simp [keyIn] at h2
  | .str _, .list _, _, h2, _, _, _, _ => by simp [keyIn] at h2
  | .str _, .dict _, _, h2, _, _, _, _ => by simp [keyIn] at h2
  | .str _, .int _, _, _, h3, _, _, _ => by simp [PySem.W.alike] at h3
  | .str _, .tuple _, _, _, h3, _, _, _ => by simp [PySem.W.alike] at h3
  | .tuple _, .none, _, h2, _, _, _, _ => by simp [keyIn] at h2
  | .tuple _, .bool _, _, h2, _, _, _, _ => by simp [keyIn] at h2
  | .tuple _, .list _, _, h2, _, _, _, _ => by simp [keyIn] at h2
  | .tuple _, .dict _, _, h2, _, _, _, _ => by simp [keyIn] at h2
  | .tuple _, .int _, _, _, h3, _, _, _ => by simp [PySem.W.alike] at h3
  | .tuple _, .str _, _, _, h3, _, _, _ => by simp [PySem.W.alike] at h3
theorem toks_all : ∀ (xs ys : List D), keyInAll xs = true → keyInAll ys = true → PySem.W.alikeAll xs ys = true → ∀ r r', PySem.W.keyToksAll xs ++ r = PySem.W.keyToksAll ys ++ r' → xs = ys ∧ r = r'
  | [], [], _, _, _, r, r', h => by
    simp only [PySem.W.keyToksAll, List.cons_append, List.nil_append, List.cons.injEq, true_and] at h
    exact ⟨rfl, h⟩
  | [], _ :: _, _, _, _, r, r', h => by simp [PySem.W.keyToksAll] at h
  | _ :: _, [], _, _, _, r, r', h => by simp [PySem.W.keyToksAll] at h
  | x :: xs, y :: ys, h1, h2, h3, r, r', h => by
    simp only [keyInAll, Bool.and_eq_true] at h1 h2
    simp only [PySem.W.alikeAll, Bool.and_eq_true] at h3
    simp only [PySem.W.keyToksAll, List.cons_append, List.cons.injEq, true_and, List.append_assoc] at h
    obtain ⟨e1, e2⟩ := toks_inj x y h1.1 h2.1 h3.1 _ _ h
    obtain ⟨e3, e4⟩ := toks_all xs ys h1.2 h2.2 h3.2 _ _ e2
    rw [e1, e3]; exact ⟨rfl, e4⟩
end
theorem leD_anti {a b : D} (h1 : keyIn a = true) (h2 : keyIn b = true) (h3 : PySem.W.alike a b = true) (q1 : leD a b = true) (q2 : leD b a = true) : a = b := by
  rw [leD_eq] at q1 q2
  have e : PySem.W.keyToks a = PySem.W.keyToks b := lex_total (O := itemOrd) _ _ (by simpa [PySem.W.dataLt] using q2) (by simpa [PySem.W.dataLt] using q1)
  exact (toks_inj a b h1 h2 h3 [] [] (by rw [e])).1
theorem sorted_perm_eq {le : D → D → Bool} : ∀ {l1 l2 : List D}, l1.Perm l2 → l1.Pairwise (fun a b => le a b = true) → l2.Pairwise (fun a b => le a b = true) → (∀ a ∈ l1, ∀ b ∈ l1, le a b = true → le b a = true → a = b) → l1 = l2
  | [], l2, p, _, _, _ => p.nil_eq
  | a :: l1, [], p, _, _, _ => by cases p.length_eq
  | a :: l1, b :: l2, p, h1, h2, an => by
    rw [List.pairwise_cons] at h1 h2
    have ha : a ∈ b :: l2 := p.mem_iff.mp List.mem_cons_self
    have hb : b ∈ a :: l1 := p.mem_iff.mpr List.mem_cons_self
    have e : a = b := by
      rcases List.mem_cons.mp ha with e | e
      · exact e
      · rcases List.mem_cons.mp hb with z | z
        · exact z.symm
        · exact an a List.mem_cons_self b hb (h1.1 b z) (h2.1 a e)
    subst e
    rw [sorted_perm_eq p.cons_inv h1.2 h2.2 fun x hx y hy => an x (List.mem_cons_of_mem _ hx) y (List.mem_cons_of_mem _ hy)]
theorem isort_of_perm {l1 l2 : List D} (p : l1.Perm l2) (hk : ∀ d ∈ l1, keyIn d = true) (ha : ∀ a ∈ l1, ∀ b ∈ l1, PySem.W.alike a b = true) : isort l1 = isort l2 :=
  sorted_perm_eq ((isort_perm l1).trans (p.trans (isort_perm l2).symm)) (isort_sorted l1) (isort_sorted l2) fun a h1 b h2 q1 q2 => leD_anti (hk a (isort_mem.mp h1)) (hk b (isort_mem.mp h2)) (ha a (isort_mem.mp h1) b (isort_mem.mp h2)) q1 q2
/-- the pairing follows a permutation -/
theorem each_perm {α β : Type} {R : α → β → Prop} {l1 l2 : List α} (p : l1.Perm l2) : ∀ {bs : List β}, PySem.W.EachIs R l2 bs → ∃ bs', bs'.Perm bs ∧ PySem.W.EachIs R l1 bs' := by
  induction p with
  | nil => intro bs h; cases h; exact ⟨[], .refl _, .nil⟩
  | cons x p ih =>
    intro bs h
    cases h with
    | cons h t =>
      obtain ⟨bs', q, e⟩ := ih t
      exact ⟨_ :: bs', q.cons _, .cons h e⟩
  | swap x y l =>
    intro bs h
    cases h with
    | cons h t => cases t with
      | cons h' t' => exact ⟨_, List.Perm.swap .., .cons h' (.cons h t')⟩
  | trans p q ih1 ih2 =>
    intro bs h
    obtain ⟨b1, q1, e1⟩ := ih2 h
    obtain ⟨b2, q2, e2⟩ := ih1 e1
    exact ⟨b2, q2.trans q1, e2⟩
mutual
theorem reads_live {h : Heap} : ∀ {v : Value} {d : PyData} {as : List Addr}, Reads h v d as → ∀ x ∈ as, x < h.objs.size
  | _, _, _, .none, x, hx => by cases hx
  | _, _, _, .bool _, x, hx => by cases hx
  | _, _, _, .int _ _, x, hx => by cases hx
  | _, _, _, .str _ _, x, hx => by cases hx
  | _, _, _, .list h1 h2 h3 h4, x, hx => by
    rcases List.mem_cons.mp hx with e | e
    · rw [e]; exact Heap.lt_size h1
    · exact readsAll_live h4 x e
  | _, _, _, .tuple h1 h2 h3 h4, x, hx => readsAll_live h4 x hx
  | _, _, _, .dict h1 h2 h3 h4 h5, x, hx => by
    rcases List.mem_append.mp hx with e | e
    · rcases List.mem_cons.mp e with e | e
      · rw [e]; exact Heap.lt_size h1
      · exact readsAll_live h4 x e
    · exact readsAll_live h5 x e
theorem readsAll_live {h : Heap} : ∀ {vs : List Value} {ds : List PyData} {as : List Addr}, ReadsAll h vs ds as → ∀ x ∈ as, x < h.objs.size
  | _, _, _, .nil, x, hx => by cases hx
  | _, _, _, .cons h1 h2, x, hx => by
    rcases List.mem_append.mp hx with e | e
    · exact reads_live h1 x e
    · exact readsAll_live h2 x e
end
section
variable {F : FT} {X : Cx} {N : List Str} {sc : Scope} {fns : List (Nat × Str)} {cs : List (Str × D)}
/-- sorted of what yields these values in some order -/
theorem sort_collected {pins : List (Addr × Obj)} {s : Shared} {σ : L2.St} {H : Hp} {Q : VK} {O : Addr → Prop} {v : Value} {vals : List Value} {bs : List (D × V)} (hu : X.A.units + 200 < cLine) (I : Inv X pins σ H s)
    (C : ∀ Q' : List Value → Shared → Prop, (∀ s' out, (∀ b o, s.heap.get? b = some o → s'.heap.get? b = some o) → s'.gens = s.gens → s'.os = s.os → out.Perm vals → Q' out s') → wpAny (model X.prog X.w) X.A.in1 (collect v) Q' X.xe s)
    (ee : PySem.W.EachIs (fun u (p : D × V) => RelV p.2 u ∧ Rp X.prog X.w H O p.1 p.2) vals bs) (hs : sortable (bs.map (·.1)) = true) (hk : ∀ d ∈ bs.map (·.1), keyIn d = true) (hO : ∀ p, H p = none → ¬ O p)
    (k : ∀ v H', Same H H' → Post X.prog X.w H O H' v (.fr, .list (isort (bs.map (·.1)))) → Q v H') : wpAny (model X.prog X.w) X.A (call (.builtin "sorted") [v]) (EP X pins σ Q) X.xe s := by
  obtain ⟨h1, h2, h3, h4, h5⟩ := sortable_parts hs
  refine Calls.call_function_entry kind_sorted plain_sorted entry_sorted (args_sorted1 _) ?_
  unfold Builtin.«sorted»
  refine wpAny_bind (m := checkCount "sorted" 1 1 _) (wpAny_pure ?_)
  refine wpAny_bind (C _ fun s' out k1 g1 o1 pm => ?_)
  obtain ⟨bs', pb, e'⟩ := each_perm pm ee
  have pD : (bs'.map (·.1)).Perm (bs.map (·.1)) := pb.map _
  have hlen : bs'.length = bs.length := pb.length_eq
  have hbl : bs.length < sizeLine := by rw [List.length_map] at h4; exact h4
  have hol : out.length = bs'.length := e'.length
  refine wpAny_bind (wpAny_newList ?_ (by rw [hol, hlen]; exact Nat.le_of_lt hbl))
  have hoL : (s'.heap.push (seqObj "list" out.toArray 0)).get? s'.heap.objs.size = some (seqObj "list" out.toArray 0) := Heap.get?_push_size _ rfl
  have pl : ∀ p ∈ bs', (p.1 : D).plain = true := fun p hp => by
    have : p.1 ∈ bs.map (·.1) := pD.mem_iff.mp (List.mem_map.mpr ⟨p, hp, rfl⟩)
    exact plainAll_mem h5 this
  have er : PySem.W.EachIs (fun v (b : D × V) => ∃ as, Reads (s'.heap.push (seqObj "list" out.toArray 0)) v b.1 as ∧ s'.heap.objs.size ∉ as) out bs' := (PySem.W.each_mem e').mono fun u p ⟨⟨r1, r2⟩, hp⟩ => by
    obtain ⟨as, r⟩ := Rp.reads I (pl p hp) r2 r1
    have r' := PyProof.Rows.Reads.keeps k1 r
    exact ⟨as, PyProof.Rows.Reads.keeps (fun b o e => Heap.get?_push_of_some _ e) r', fun z => Nat.lt_irrefl _ (reads_live r' _ z)⟩
  have al : PySem.W.AllAlike (bs'.map (·.1)) := fun d hd d' hd' => h1 d (pD.mem_iff.mp hd) d' (pD.mem_iff.mp hd')
  have so : PySem.W.Sortable (bs'.map (·.1)) := h2.imp (fun q d hd => q d (pD.mem_iff.mp hd)) fun q d hd => q d (pD.mem_iff.mp hd)
  refine wpAny_bind (wpAny_holding (PySem.W.list_sort_data (s := { s' with heap := s'.heap.push (seqObj "list" out.toArray 0) }) (enc := fun p : D × V => p.1) hoL e' er al so (by rw [hlen]; exact Nat.le_of_lt hbl) (fun b hb => ?_) fun out2 hl2 ho2 => ?_))
  · have := h3 _ (pD.mem_iff.mp (List.mem_map.mpr ⟨b, hb, rfl⟩))
    show X.A.units + 1 + 1 + b.1.depth < cLine
    omega
  · obtain ⟨p1, p2⟩ := each_out ho2
    rw [sort_pairs, isort_of_perm pD (fun d hd => hk d (pD.mem_iff.mp hd)) al] at p2
    obtain ⟨c, hc⟩ := sortedHeap_at (vs := out) (out := out2.toArray) hoL
    have hp : H s'.heap.objs.size = none := (I.hok.kept k1).fresh (Nat.le_refl _)
    have na : s.heap.get? s'.heap.objs.size = none := by
      cases e : s.heap.get? s'.heap.objs.size with
      | none => rfl
      | some o => exact absurd (Heap.lt_size (k1 _ _ e)) (Nat.lt_irrefl _)
    have kp : ∀ b o, s.heap.get? b = some o → (sortedHeap (s'.heap.push (seqObj "list" out.toArray 0)) s'.heap.objs.size out out2.toArray).get? b = some o := fun b o e => by
      have q := k1 b o e
      have hlt := Heap.lt_size q
      rw [sortedHeap_old (Nat.ne_of_lt hlt) (by rw [size_push']; exact Nat.lt_succ_of_lt hlt)]
      exact Heap.get?_push_of_some _ q
    have J : Inv X pins σ (upd H s'.heap.objs.size (.lst _)) { s with heap := sortedHeap (s'.heap.push (seqObj "list" out.toArray 0)) s'.heap.objs.size out out2.toArray, gens := s'.gens, drawn := s'.drawn, toks := s'.toks } :=
      I.call (ch := []) (Un.laidN kp na hp) (I.hok.laidN kp hp ⟨by rw [← p2.length, isort_length]; exact Nat.le_of_lt h4, out2, c, p1, hc⟩) (by rw [g1]; exact I.bare) (fun _ z => nomatch z)
    have es : ({ s' with heap := sortedHeap (s'.heap.push (seqObj "list" out.toArray 0)) s'.heap.objs.size out out2.toArray } : Shared) = { s with heap := sortedHeap (s'.heap.push (seqObj "list" out.toArray 0)) s'.heap.objs.size out out2.toArray, gens := s'.gens, drawn := s'.drawn, toks := s'.toks } := by
      cases s'
      cases s
      cases o1
      rfl
    refine wpAny_pure ⟨_, rfl, ?_⟩
    rw [es]
    exact ⟨.ref _, _, J, rfl, k _ _ (same_new hp) (.newL p2 hp (hO _ hp) (Same.refl _))⟩
where
  plainAll_mem : ∀ {ds : List D} {d : D}, PyData.plainAll ds = true → d ∈ ds → d.plain = true
  | e :: ds, d, h, hd => by
    simp only [PyData.plainAll, Bool.and_eq_true] at h
    rcases List.mem_cons.mp hd with z | z
    · rw [z]; exact h.1
    · exact plainAll_mem h.2 z
end
end Rk

/-! sorted(set(xs)), sorted(d). -/
set_option autoImplicit false
set_option linter.all false
set_option maxRecDepth 100000
namespace Rk
open PySem PySem.Spec PyProof.Rows L2

/-- a set, by its values -/
def setHO (w : World) (a : Addr) (vals : List Value) : HO := .ext fun h => ∃ es ep t, SetAt h a es ep t ∧ t.fits es.size = true ∧ Ris t.place.toList ∧ (w.params.followText "set-order" = true ∨ t.led = true) ∧ es.toList.map (·.2) = vals
theorem dedup_mem {d : D} : ∀ {l : List D}, (∀ a ∈ l, ∀ b ∈ l, PyData.eqv a b = true → a = b) → (d ∈ dedup l ↔ d ∈ l)
  | [], _ => by simp [dedup]
  | x :: r, h => by
    have ih := dedup_mem (d := d) (l := r) fun a ha b hb => h a (List.mem_cons_of_mem _ ha) b (List.mem_cons_of_mem _ hb)
    simp only [dedup]
    split
    · rename_i hx
      rw [ih, List.mem_cons]
      refine ⟨.inr, fun z => z.elim (fun z => ?_) id⟩
      obtain ⟨y, hy, e⟩ := List.any_eq_true.mp hx
      have := h x List.mem_cons_self y (List.mem_cons_of_mem _ hy) e
      rw [z, this]
      exact hy
    · rw [List.mem_cons, List.mem_cons, ih]
theorem dedup_nodup : ∀ {l : List D}, (∀ a ∈ l, PyData.eqv a a = true) → (∀ a ∈ l, ∀ b ∈ l, PyData.eqv a b = true → a = b) → (dedup l).Nodup
  | [], _, _ => by simp [dedup]
  | x :: r, s, h => by
    have hr : ∀ a ∈ r, ∀ b ∈ r, PyData.eqv a b = true → a = b := fun a ha b hb => h a (List.mem_cons_of_mem _ ha) b (List.mem_cons_of_mem _ hb)
    have ih := dedup_nodup (l := r) (fun a ha => s a (List.mem_cons_of_mem _ ha)) hr
    simp only [dedup]
    split
    · exact ih
    · rename_i hx
      refine List.nodup_cons.mpr ⟨fun z => hx ?_, ih⟩
      exact List.any_eq_true.mpr ⟨x, (dedup_mem hr).mp z, s x List.mem_cons_self⟩
theorem key_eqv {a b : D} (ha : keyIn a = true) (hb : keyIn b = true) : PyData.eqv a b = true ↔ a = b := by
  have e1 := nk_data a ha
  have e2 := nk_data b hb
  constructor
  · intro h
    rw [← e1, ← e2, data_eqv] at h
    rw [← e1, ← e2, NestedKey.eq_of_beq _ _ h]
  · rintro rfl
    rw [← e1, data_eqv]
    exact NestedKey.beq_self _
theorem nodup_map_inj {α β : Type} {f : α → β} {l : List α} (inj : ∀ a ∈ l, ∀ b ∈ l, f a = f b → a = b) (h : l.Nodup) : (l.map f).Nodup := by
  induction l with
  | nil => simp
  | cons x r ih =>
    rw [List.map_cons]
    obtain ⟨h1, h2⟩ := List.nodup_cons.mp h
    refine List.nodup_cons.mpr ⟨fun z => ?_, ih (fun a ha b hb => inj a (List.mem_cons_of_mem _ ha) b (List.mem_cons_of_mem _ hb)) h2⟩
    obtain ⟨y, hy, e⟩ := List.mem_map.mp z
    have := inj y (List.mem_cons_of_mem _ hy) x List.mem_cons_self e
    rw [this] at hy
    exact h1 hy
theorem nodup_perm {l1 l2 : List D} (n1 : l1.Nodup) (n2 : l2.Nodup) (h : ∀ d, d ∈ l1 ↔ d ∈ l2) : l1.Perm l2 := (List.perm_ext_iff_of_nodup n1 n2).mpr h
section
variable {P : Program} {w : World} {H : Hp} {O : Addr → Prop}
theorem vals_get : ∀ {xs : List V} {us : List Value} {i : Nat} {u : Value}, Vals xs us → us[i]? = some u → ∃ v, xs[i]? = some v ∧ RelV v u
  | _, _, _, _, .nil, e => by simp at e
  | _, _, 0, _, .cons r _, e => by simp at e; subst e; exact ⟨_, rfl, r⟩
  | _, _, i + 1, u, .cons _ t, e => by
    obtain ⟨v, h1, h2⟩ := vals_get (i := i) (u := u) t (by simpa using e)
    exact ⟨v, by simpa using h1, h2⟩
/-- what a set's values stand for -/
theorem set_finish {κ : Type} (dat : κ → D) (inj : ∀ a b, dat a = dat b → a = b) {ks L : List (Value × κ)} (g : GotV ks ks.length L) (nd : (L.map (·.2)).Nodup) {ds : List D} {xs : List V} {its : List Value} (q : Rps P w H O ds xs) (rv : Vals xs its) (h1 : ks.map (·.1) = its)
    (h2 : ks.map (fun p => dat p.2) = ds) (hk : ∀ d ∈ ds, keyIn d = true) : ∃ bs, PySem.W.EachIs (fun u (p : D × V) => RelV p.2 u ∧ Rp P w H O p.1 p.2) (L.map (·.1)) bs ∧ (bs.map (·.1)).Perm (dedup ds) := by
  have sub : ∀ p ∈ L, p ∈ ks := fun p hp => List.mem_of_mem_take (g.sub p hp)
  have each : ∀ p ∈ L, ∃ v, RelV v p.1 ∧ Rp P w H O (dat p.2) v := fun p hp => by
    obtain ⟨i, hi, e⟩ := List.getElem_of_mem (sub p hp)
    have hp' : ks[i]? = some p := by rw [List.getElem?_eq_getElem hi, e]
    have e1 : its[i]? = some p.1 := by rw [← h1, List.getElem?_map, hp']; rfl
    have e2 : ds[i]? = some (dat p.2) := by rw [← h2, List.getElem?_map, hp']; rfl
    obtain ⟨v, a1, a2⟩ := vals_get rv e1
    obtain ⟨v', b1, b2⟩ := q.get e2
    rw [a1] at b1
    cases b1
    exact ⟨v, a2, b2⟩
  have go : ∀ L0 : List (Value × κ), (∀ p ∈ L0, p ∈ L) → ∃ bs, PySem.W.EachIs (fun u (p : D × V) => RelV p.2 u ∧ Rp P w H O p.1 p.2) (L0.map (·.1)) bs ∧ bs.map (·.1) = L0.map fun p => dat p.2 := by
    intro L0
    induction L0 with
    | nil => intro _; exact ⟨[], .nil, rfl⟩
    | cons p r ih =>
      intro hs
      obtain ⟨bs, e1, e2⟩ := ih fun x hx => hs x (List.mem_cons_of_mem _ hx)
      obtain ⟨v, a1, a2⟩ := each p (hs p List.mem_cons_self)
      exact ⟨(dat p.2, v) :: bs, .cons ⟨a1, a2⟩ e1, by rw [List.map_cons, List.map_cons, e2]⟩
  obtain ⟨bs, e1, e2⟩ := go L fun p z => z
  refine ⟨bs, e1, ?_⟩
  rw [e2]
  have kk : ∀ a ∈ ds, ∀ b ∈ ds, PyData.eqv a b = true → a = b := fun a ha b hb => (key_eqv (hk a ha) (hk b hb)).mp
  have e3 : (L.map fun p => dat p.2) = (L.map (·.2)).map dat := by rw [List.map_map]; rfl
  refine nodup_perm ?_ (dedup_nodup (fun a ha => (key_eqv (hk a ha) (hk a ha)).mpr rfl) kk) fun d => ?_
  · rw [e3]
    exact nodup_map_inj (fun a _ b _ => inj a b) nd
  · rw [dedup_mem kk]
    constructor
    · intro hd
      obtain ⟨p, hp, rfl⟩ := List.mem_map.mp hd
      rw [← h2]
      exact List.mem_map.mpr ⟨p, sub p hp, rfl⟩
    · intro hd
      rw [← h2] at hd
      obtain ⟨p, hp, rfl⟩ := List.mem_map.mp hd
      rw [e3]
      exact List.mem_map.mpr ⟨p.2, g.all p (by rw [List.take_length]; exact hp), rfl⟩
end

section
variable {F : FT} {X : Cx} {N : List Str} {sc : Scope} {fns : List (Nat × Str)} {cs : List (Str × D)}
/-- set(xs) -/
def rSetOf (P : Program) (w : World) : List V → Hp → VK → Prop := fun xs H Q => ∃ O ds v, xs = [v] ∧ RpB P w H O (.list ds) v ∧ setOk ds = true ∧ (dedup ds).length < 63 ∧
  ∀ p vals bs, H p = none → PySem.W.EachIs (fun u (q : D × V) => RelV q.2 u ∧ Rp P w H O q.1 q.2) vals bs → (bs.map (·.1)).Perm (dedup ds) → Q (.ref p) (upd H p (setHO w p vals))
theorem setOk_in {ds : List D} (h : setOk ds = true) : ∀ d ∈ ds, keyIn d = true := by
  simp only [setOk, Bool.or_eq_true, List.all_eq_true] at h
  intro d hd
  rcases h with (h | h) | h
  · have := h d hd
    cases d <;> simp [keyT, keyIn] at this ⊢
    exact this.1
  · have := h d hd
    cases d <;> simp [keyIn] at this ⊢
  · have := h d hd
    cases d <;> simp [keyIn] at this ⊢
theorem nodup_le {α : Type} : ∀ {l U : List α}, l.Nodup → (∀ x ∈ l, x ∈ U) → l.length ≤ U.length
  | [], _, _, _ => Nat.zero_le _
  | x :: l, U, h, hs => by
    classical
    obtain ⟨h1, h2⟩ := List.nodup_cons.mp h
    have hx := hs x List.mem_cons_self
    have ih := nodup_le (l := l) (U := U.erase x) h2 fun y hy => (List.mem_erase_of_ne (fun e => h1 (by rw [← e]; exact hy))).mpr (hs y (List.mem_cons_of_mem _ hy))
    rw [List.length_erase_of_mem hx] at ih
    have := List.length_pos_of_mem hx
    simp only [List.length_cons]
    omega
theorem cr_setOf (hc : X.calm = true) (hu : X.A.units + 200 < cLine) : CallR X (.type "set") (rSetOf X.prog X.w) := by
  intro pins s σ H xs us Q I r h
  obtain ⟨O, ds, v, rfl, ⟨a, vs, rfl, e, q⟩, hok, hlen, k⟩ := h
  rw [Vals.ref1 r]
  obtain ⟨its, rv, pl, _⟩ := I.list (.inl e)
  have hn : H s.heap.objs.size = none := I.hok.fresh (Nat.le_refl _)
  have hin := setOk_in hok
  have hl2 : its.length = ds.length := by rw [← rv.length, q.length]
  have fin : ∀ {κ : Type} (dat : κ → D) (inj : ∀ a b, dat a = dat b → a = b) {Is : κ → Value → Prop} {In : Heap → List (Value × κ) → Prop} (ad : Adds X.prog X.w s.heap.objs.size s.heap κ Is In) (new : ∀ h : Heap, h.get? s.heap.objs.size = some (set0 X.w) → In h [])
      (ks : List (Value × κ)), ks.map (·.1) = its → ks.map (fun p => dat p.2) = ds → (∀ p ∈ ks, Is p.2 p.1) → wpAny (model X.prog X.w) X.A (call (.type "set") [.ref a]) (EP X pins σ Q) X.xe s := by
    intro κ dat inj Is In ad new ks h1 h2 his
    have few : ∀ L : List (Value × κ), (∀ p ∈ L, p ∈ ks) → (L.map (·.2)).Nodup → L.length + 1 < 64 := fun L sub nd => by
      have kk : ∀ a ∈ ds, ∀ b ∈ ds, PyData.eqv a b = true → a = b := fun a ha b hb => (key_eqv (hin a ha) (hin b hb)).mp
      have nd2 : ((L.map (·.2)).map dat).Nodup := List.Pairwise.map dat (fun a b n e => n (inj a b e)) nd
      have := nodup_le nd2 (U := dedup ds) fun d hd => (dedup_mem kk).mpr (by
        rw [List.map_map] at hd
        obtain ⟨p, hp, rfl⟩ := List.mem_map.mp hd
        rw [← h2]
        exact List.mem_map.mpr ⟨p, sub p hp, rfl⟩)
      rw [List.length_map, List.length_map] at this
      omega
    refine call_setK ad ks (I.ok.hd hc) pl.isList (by simpa using h1.symm) his few (by omega) new fun h' tk L hL g kp => ?_
    obtain ⟨es, ep, t, s1, s2, s3, s4, s5, nd⟩ := ad.view _ _ hL
    obtain ⟨bs, e1, pm⟩ := set_finish dat inj g nd q rv h1 h2 hin
    refine ⟨.ref s.heap.objs.size, _, I.laid (a := s.heap.objs.size) (o := setHO X.w s.heap.objs.size (L.map (·.1))) (t' := tk) kp (Nat.le_refl _) ⟨⟨es, ep, t, s1, s2, s3, s4, s5⟩, ?_, ?_⟩, rfl, k _ _ bs hn e1 pm⟩
    · obtain ⟨o, ho, _⟩ := s1
      exact ⟨o, ho⟩
    · rintro g1 g2 ⟨es', ep', t', c1, c2⟩ kp'
      exact ⟨es', ep', t', c1.at kp', c2⟩
  have zip1 : ∀ {κ : Type} (f : D → κ), ((its.zip (ds.map f)).map (·.1)) = its := fun f => List.map_fst_zip (by rw [List.length_map, hl2]; exact Nat.le_refl _)
  have zip2 : ∀ {κ : Type} (f : D → κ) (dat : κ → D), (∀ d ∈ ds, dat (f d) = d) → (its.zip (ds.map f)).map (fun p => dat p.2) = ds := fun f dat hf => by
    have : (its.zip (ds.map f)).map (fun p => dat p.2) = ((its.zip (ds.map f)).map (·.2)).map dat := by rw [List.map_map]; rfl
    rw [this, List.map_snd_zip (by rw [List.length_map, hl2]; exact Nat.le_refl _), List.map_map]
    refine (List.map_congr_left (g := id) fun d hd => ?_).trans (List.map_id _)
    exact hf d hd
  have at_ : ∀ {κ : Type} (f : D → κ), ∀ p ∈ its.zip (ds.map f), ∃ d v, d ∈ ds ∧ p.2 = f d ∧ RelV v p.1 ∧ Rp X.prog X.w H O d v := fun f p hp => by
    obtain ⟨i, hi, e⟩ := List.getElem_of_mem hp
    have hp' : (its.zip (ds.map f))[i]? = some p := by rw [List.getElem?_eq_getElem hi, e]
    obtain ⟨h1, h2⟩ := List.getElem?_zip_eq_some.mp hp'
    rw [List.getElem?_map] at h2
    obtain ⟨d, d1, d2⟩ := Option.map_eq_some_iff.mp h2
    obtain ⟨v, a1, a2⟩ := vals_get rv h1
    obtain ⟨v', b1, b2⟩ := q.get d1
    rw [a1] at b1
    cases b1
    exact ⟨d, v, List.mem_of_getElem? d1, d2.symm, a2, b2⟩
  have hok' := hok
  simp only [setOk, Bool.or_eq_true, List.all_eq_true] at hok'
  have scan : (∀ d ∈ ds, (∃ i, d = .int i) ∨ ∃ x, d = .str x) → wpAny (model X.prog X.w) X.A (call (.type "set") [.ref a]) (EP X pins σ Q) X.xe s := fun hd => by
    let f : D → L2.Key := fun d => match d with
      | .int i => .inl i
      | .str x => .inr x
      | _ => .inl 0
    refine fin kD (fun a b e => by cases a <;> cases b <;> simp [kD] at e <;> rw [e]) (adds_M X.prog X.w _ _) (fun h ho => inM_fresh ho) (its.zip (ds.map f)) (zip1 f) (zip2 f kD fun d hd' => ?_) fun p hp => ?_
    · rcases hd d hd' with ⟨i, rfl⟩ | ⟨x, rfl⟩ <;> rfl
    · obtain ⟨d, v, d1, d2, d3, d4⟩ := at_ f p hp
      rw [d2]
      rcases hd d d1 with ⟨i, rfl⟩ | ⟨x, rfl⟩
      · cases d4
        obtain ⟨t, e⟩ := d3
        rw [e]
        exact ⟨mixKind_int _ _ i t, rfl, rfl⟩
      · cases d4
        obtain ⟨t, e⟩ := d3
        rw [e]
        exact ⟨mixKind_str _ _ x t, rfl, rfl⟩
  rcases hok' with (h | h) | h
  · refine fin NestedKey.data (fun a b e => ?_) (adds_T X.prog X.w _ _) (fun h ho => inT_fresh ho) (its.zip (ds.map nk)) (zip1 nk) (zip2 nk NestedKey.data fun d hd => nk_data d (hin d hd)) fun p hp => ?_
    · have := data_eqv a b
      rw [e, data_eqv, NestedKey.beq_self] at this
      exact NestedKey.eq_of_beq _ _ this.symm
    · obtain ⟨d, v, d1, d2, d3, d4⟩ := at_ nk p hp
      obtain ⟨kk, e1, e2⟩ := keyT_tup (h d d1)
      have d4' : Rp X.prog X.w H O (nk d).data v := by rw [nk_data d (hin d d1)]; exact d4
      subst e1
      cases d4 with
      | @tup b _ _ n1 e3 q3 =>
        refine ⟨b, d3, ?_⟩
        rw [d2]
        refine Rp.key I d4' ?_
        rw [← data_depth, nk_data _ (hin _ d1), data_depth]
        exact e2
  · exact scan fun d hd => .inr (by have := h d hd; cases d <;> simp at this ⊢)
  · exact scan fun d hd => .inl (by have := h d hd; cases d <;> simp at this ⊢)
theorem each_keys {P : Program} {w : World} {H : Hp} {O : Addr → Prop} : ∀ {kvs : List (D × D)} {es : List (NestedKey × Addr × V)}, Rpe P w H O kvs es →
    PySem.W.EachIs (fun u (q : D × V) => RelV q.2 u ∧ Rp P w H O q.1 q.2) (es.map fun e => Value.ref e.2.1) ((kvs.zip es).map fun q => (q.1.1, V.ref q.2.2.1)) ∧ ((kvs.zip es).map fun q => ((q.1.1, V.ref q.2.2.1) : D × V)).map (·.1) = kvs.map (·.1)
  | _, _, .nil => ⟨.nil, rfl⟩
  | _, _, .cons a n b t => by
    obtain ⟨h1, h2⟩ := each_keys t
    exact ⟨.cons ⟨rfl, a⟩ h1, by simp only [List.zip_cons_cons, List.map_cons]; rw [h2]⟩
theorem cr_sorted (hc : X.calm = true) (hu : X.A.units + 200 < cLine) : CallR X (.builtin "sorted") (rBl X.prog X.w .sorted) := by
  intro pins s σ H xs us Q I r h
  obtain ⟨O, ds, rr, hO, hp, hb, k⟩ := h
  cases ds with
  | nil => simp [bltD] at hb
  | cons d r1 =>
    cases r1 with
    | cons _ _ => cases d <;> simp [bltD] at hb
    | nil =>
      obtain ⟨v, rfl, hd⟩ := pair1 hp
      cases d with
      | list ys =>
        simp only [bltD] at hb
        split at hb
        · rename_i hs
          cases hb
          exact cr_sortL hu I r hd hs hO k
        · cases hb
      | dict kvs =>
        simp only [bltD] at hb
        split at hb
        · rename_i hs
          simp only [Bool.and_eq_true] at hs
          cases hb
          obtain ⟨a, es, rfl, hsm, ⟨ep, hH⟩, re, nd⟩ := hd.dictT hs.1
          rw [Vals.ref1 r]
          obtain ⟨⟨o, ents, ys, h1, h2, h3, h4, h5⟩, _, _⟩ := (show ObjOk X.prog X.w H s.heap a (dHO X.prog X.w a ep es) from I.hok a _ hH)
          obtain ⟨e1, e2⟩ := each_keys re
          have hl : ents.size = es.length := by
            rw [← Array.length_toList, h4, List.length_map]
            exact (Paired.length h5).symm
          have hkl : kvs.length = es.length := cr_len.rpe_len re
          have hsz : ents.size ≤ sizeLine := by
            rw [hl, ← hkl, ← List.length_map (f := (·.1)) (as := kvs)]
            exact Nat.le_of_lt (sortable_parts hs.2).2.2.2.1
          have hkeys : ents.toList.map (·.key) = es.map fun e => Value.ref e.2.1 := by
            rw [h4, List.map_map]
            exact paired_refs h5
          refine sort_collected hu I (vals := es.map fun e => Value.ref e.2.1) (fun Q' hQ => PySem.W.kdu_collect (kdl_raw hsm h2 h3) (I.ok.hd hc) h1 hsz fun h' tk acc kp it => ?_) e1 (by rw [e2]; exact hs.2) (fun d hd => ?_) hO (by rw [e2]; exact k)
          · refine hQ { s with heap := h', toks := tk } acc.toList kp rfl rfl ?_
            have ea : acc.toList = es.map fun e => Value.ref e.2.1 := by
              rw [← hkeys]
              apply List.ext_getElem?
              intro j
              rw [List.getElem?_map]
              have hlj : acc.toList.length = ents.toList.length := by rw [Array.length_toList, Array.length_toList, it.1]
              cases hj : acc.toList[j]? with
              | none =>
                have := List.getElem?_eq_none_iff.mp hj
                rw [List.getElem?_eq_none (by omega)]
                rfl
              | some u =>
                obtain ⟨en, hen, hv⟩ := it.2 j u (by rw [← Array.getElem?_toList]; exact hj)
                rw [Array.getElem?_toList, hen, hv]
                rfl
            rw [ea]
          · rw [e2] at hd
            obtain ⟨q, hq, rfl⟩ := List.mem_map.mp hd
            have := List.all_eq_true.mp hs.1 q hq
            cases hh : q.1 <;> rw [hh] at this <;> simp [keyT, keyIn] at this ⊢
            exact this.1
        · cases hb
      | _ => simp [bltD] at hb
where
  paired_refs : ∀ {es : List (NestedKey × Addr × V)} {ys : List (NestedKey × Addr × Value)}, Paired (fun (e : NestedKey × Addr × V) (x : NestedKey × Addr × Value) => e.1 = x.1 ∧ e.2.1 = x.2.1 ∧ RelV e.2.2 x.2.2) es ys →
      ys.map ((·.key) ∘ entryOfKey (nestedKind X.prog X.w)) = es.map fun e => Value.ref e.2.1
  | _, _, .nil => rfl
  | _, _, .cons h t => by
    rw [List.map_cons, List.map_cons, paired_refs t, h.2.1]
    rfl
/-- sorted of a set -/
def rSortS (P : Program) (w : World) : List V → Hp → VK → Prop := fun xs H Q => ∃ p vals bs O, xs = [V.ref p] ∧ H p = some (setHO w p vals) ∧ PySem.W.EachIs (fun u (q : D × V) => RelV q.2 u ∧ Rp P w H O q.1 q.2) vals bs ∧ sortable (bs.map (·.1)) = true ∧ (∀ d ∈ bs.map (·.1), keyIn d = true) ∧ bs.length < 64 ∧ (∀ p, H p = none → ¬ O p) ∧
  ∀ v H', Same H H' → Post P w H O H' v (.fr, .list (isort (bs.map (·.1)))) → Q v H'
theorem cr_sortS (hc : X.calm = true) (hu : X.A.units + 200 < cLine) : CallR X (.builtin "sorted") (rSortS X.prog X.w) := by
  intro pins s σ H xs us Q I r h
  obtain ⟨p, vals, bs, O, rfl, hp, ee, hs, hk, hl, hO, k⟩ := h
  rw [Vals.ref1 r]
  obtain ⟨⟨es, ep, t, s1, s2, s3, s4, s5⟩, _, _⟩ := (show ObjOk X.prog X.w H s.heap p (setHO X.w p vals) from I.hok p _ hp)
  have hsz : es.size < scanBound := by
    have : es.toList.length = bs.length := by rw [← ee.length, ← s5, List.length_map]
    rw [Array.length_toList] at this
    unfold scanBound
    omega
  refine sort_collected hu I (fun Q' hQ => collect_set (I.ok.hd hc) s1 s2 hsz s3 s4 fun s' out a1 a2 a3 a4 a5 => hQ s' out a1 a3 a4 (by rw [← s5]; exact a5)) ee hs hk hO k
theorem rp_each {P : Program} {w : World} {H H' : Hp} {O : Addr → Prop} (s : Same H H') {vals : List Value} {bs : List (D × V)} (h : PySem.W.EachIs (fun u (q : D × V) => RelV q.2 u ∧ Rp P w H O q.1 q.2) vals bs) : PySem.W.EachIs (fun u (q : D × V) => RelV q.2 u ∧ Rp P w H' O q.1 q.2) vals bs :=
  h.mono fun u q ⟨h1, h2⟩ => ⟨h1, h2.same s⟩
theorem dedup_len : ∀ ds : List D, (dedup ds).length ≤ ds.length
  | [] => Nat.le_refl _
  | x :: r => by
    have := dedup_len r
    simp only [dedup]
    split
    · simp only [List.length_cons]; omega
    · simp only [List.length_cons]; omega
theorem sortable_sub {l1 l2 : List D} (h : sortable l2 = true) (sub : ∀ d ∈ l1, d ∈ l2) (hl : l1.length ≤ l2.length) : sortable l1 = true := by
  simp only [sortable, Bool.and_eq_true, List.all_eq_true, Bool.or_eq_true, decide_eq_true_eq, fitsN] at h ⊢
  obtain ⟨⟨⟨⟨h1, h2⟩, h3⟩, h4⟩, h5⟩ := h
  refine ⟨⟨⟨⟨fun a ha b hb => h1 a (sub a ha) b (sub b hb), h2.imp (fun q a ha => q a (sub a ha)) fun q a ha => q a (sub a ha)⟩, fun a ha => h3 a (sub a ha)⟩, by omega⟩, ?_⟩
  have all : ∀ d ∈ l1, d.plain = true := fun d hd => sort_collected.plainAll_mem h5 (sub d hd)
  clear h1 h2 h3 h4 h5 sub hl
  induction l1 with
  | nil => rfl
  | cons x r ih =>
    simp only [PyData.plainAll, Bool.and_eq_true]
    exact ⟨all x List.mem_cons_self, ih fun d hd => all d (List.mem_cons_of_mem _ hd)⟩
end
end Rk

/-! a, b, .. = x, y, .. -/
set_option autoImplicit false
set_option linter.all false
set_option maxRecDepth 100000
namespace Rk
open PySem PySem.Spec PyProof.Rows L2
theorem env_with {env : PySem.Env} {sc : Scope} (h : env.scope = sc) : env = { env with scope := sc } := by cases env; cases h; rfl
/-- one behind another -/
def tNest (P : Program) (w : World) (F : FT) : List Ex → TA
  | [] => tNil
  | e :: es => tCons (tI P w F e) (tNest P w F es)
abbrev stores (σ : L2.St) (is : List Nat) (vs : List V) : L2.St := (is.zip vs).foldl (fun s p => s.set p.1 (some p.2)) σ
section
variable {F : FT} {X : Cx} {N : List Str} {sc : Scope} {fns : List (Nat × Str)} {cs : List (Str × D)}
abbrev SN (F : FT) (X : Cx) (e : List Expr) (i : List Ex) : Prop := PA X e (tNest X.prog X.w F i)
theorem sn_nil : SN F X [] [] := pa_nil
theorem sn_cons {e : Expr} {es : List Expr} {i : Ex} {is : List Ex} (he : SE F X e i) (hs : SN F X es is) (h0 : starEach (e :: es) X.env = (false, eval e X.env) :: starEach es X.env := by rfl) : SN F X (e :: es) (i :: is) := pa_cons he hs h0
/-- the values are stored as they come: (ρ0, σ0) is the environment with those that came, (ρ, σ) the one in which the others are asked -/
theorem par_all {P : Program} {w : World} {Of : Addr → Prop} {Hb : Hp} {ρ : Env} {σ : L2.St} {Q : List V → Hp → Prop} : ∀ (es : List Ex) (is : List Nat) (rs : List (Tag × D)) (ρ0 ρ' : Env) (σ0 : L2.St) (H : Hp) (O1 : Addr → Prop), EnvOk P w O1 ρ σ H → EnvOk P w Of ρ0 σ0 H →
    (∀ a, Ow Of ρ0 σ0 a → Ow O1 ρ σ a) → (∀ a, OwnA ρ0 σ0 a → Hb a = none) → Same Hb H → evL F es ρ = some rs → lent rs = false → putAll is rs ρ0 = some ρ' →
    (∀ vs H', vs.length = is.length → Same H H' → EnvOk P w Of ρ' (stores σ0 is vs) H' → (∀ a, OwnA ρ' (stores σ0 is vs) a → Hb a = none) → Same Hb H' → Q vs H') → tNest P w F es σ H Q
  | [], is, rs, ρ0, ρ', σ0, H, O1, E1, E0, sub, ho, s, h, hl, hp, k => by
    simp only [evL, Option.some.injEq] at h
    subst h
    cases is with
    | nil =>
      simp only [putAll, Option.some.injEq] at hp
      subst hp
      exact k [] H rfl (Same.refl H) E0 ho s
    | cons _ _ => simp [putAll] at hp
  | e :: es, is, rs, ρ0, ρ', σ0, H, O1, E1, E0, sub, ho, s, h, hl, hp, k => by
    simp only [evL] at h
    split at h
    · rename_i r hr
      obtain ⟨rs', h', rfl⟩ := Option.map_eq_some_iff.mp h
      cases is with
      | nil => simp [putAll] at hp
      | cons i is =>
        simp only [putAll] at hp
        simp only [lent, List.any_cons, Bool.or_eq_false_iff, decide_eq_false_iff_not] at hl
        refine ⟨O1, ρ, r, E1, hr, fun v H1 s1 p1 => ?_⟩
        have p0 : Post P w H (Ow Of ρ0 σ0) H1 v r := p1.weak sub
        obtain ⟨E0', o0⟩ := E0.put (i := i) ho s s1 p0 hl.1
        have fin : ∀ vs H', vs.length = is.length → Same H1 H' → EnvOk P w Of ρ' (stores (σ0.set i (some v)) is vs) H' → (∀ a, OwnA ρ' (stores (σ0.set i (some v)) is vs) a → Hb a = none) → Same Hb H' → Q (v :: vs) H' := fun vs H' hv s' E' o' sb => k (v :: vs) H' (by simp [hv]) (s1.trans s') E' o' sb
        obtain ⟨t, d⟩ := r
        cases t with
        | ow => exact absurd rfl hl.1
        | im =>
          refine par_all es is rs' _ ρ' _ H1 O1 (E1.same s1) E0' (fun a z => sub a (z.elim .inl fun z => .inr (EnvOk.own_set z))) o0 (s.trans s1) h' hl.2 hp fun vs H' hv s' E' o' sb => ?_
          exact fin vs H' hv s' E' o' sb
        | fr =>
          obtain ⟨p, e1, n, st⟩ := p1.2.2 rfl
          subst e1
          obtain ⟨o, eo⟩ := st.ex
          refine par_all es is rs' _ ρ' _ H1 (fun a => O1 a ∨ a = p) (E1.foreign s1 n ⟨o, eo, fun xs z => by subst z; exact st.ntup eo⟩) E0' (fun a z => ?_) o0 (s.trans s1) h' hl.2 hp fun vs H' hv s' E' o' sb => ?_
          · have up : Ow O1 ρ σ a → Ow (fun a => O1 a ∨ a = p) ρ σ a := fun y => y.elim (fun y => .inl (.inl y)) .inr
            rcases z with z | ⟨j, e, z1, z2⟩
            · exact up (sub a (.inl z))
            · rcases set_get z2 with ⟨rfl, y⟩ | ⟨n, y⟩
              · exact .inl (.inr (by cases y; rfl))
              · rcases set_get z1 with ⟨rfl, y1⟩ | ⟨_, y1⟩
                · exact absurd rfl n
                · exact up (sub a (.inr ⟨j, e, y1, y⟩))
          · exact fin vs H' hv s' E' o' sb
    · cases h
/-- the tuple is made, then taken apart -/
theorem ss_parT (G : Gx F X N sc fns cs) {is : List Nat} {tg : Expr} {es : List Expr} {ies : List Ex} {x1 : Nat} {pt pos : Pos} (he : SN F X es ies) (hg : SG X tg (.tp is)) (hw : swappedStores [tg] (.Tuple es x1 pt) X.env = pure none) (hz : is.length ≤ 1000 := by decide) (hs : swapsWithSole [tg] (.Tuple es x1 pt) pos.line X.env = pure false := by rfl)
    (h1 : (assignEach [tg] X.env).map (·.2) = [assign tg X.env] := by rfl) : SS F X (.Assign [tg] (.Tuple es x1 pt) pos) (.par is ies) :=
  (ps_asg (pe_tup he) hg hs hw h1).of fun D σ H ⟨Of, ρ, Hb, out, E, ho, s, h, k⟩ => by
  simp only [ex] at h
  split at h
  · rename_i rs hrs
    split at h
    · cases h
    · rename_i hl
      obtain ⟨ρ', hp, rfl⟩ := Option.map_eq_some_iff.mp h
      refine par_all ies is rs ρ ρ' σ H Of E E (fun a z => z) ho s hrs (by simpa using hl) hp fun vs H' hv s' E' o' sb => ⟨by rw [hv, sizeLine_eq]; omega, fun T hT => ?_⟩
      refine ⟨T, vs, rfl, .inl upd_same, hv, ?_⟩
      have go : ∀ (is : List Nat) (vs : List V) (σ : L2.St) (Hx : Hp) (Q : L2.St → Hp → Prop), vs.length = is.length → Q (stores σ is vs) Hx → gNms is vs σ Hx Q := by
        intro is
        induction is with
        | nil => intro vs σ Hx Q hl q; cases vs with
          | nil => exact ⟨rfl, q⟩
          | cons _ _ => simp at hl
        | cons i is ih => intro vs σ Hx Q hl q; cases vs with
          | nil => simp at hl
          | cons v vs => exact ⟨v, vs, rfl, ih vs _ Hx Q (by simpa using hl) q⟩
      exact go is vs σ _ _ hv (k _ _ (E'.same (same_new hT)) o' (sb.trans (same_new hT)))
  · cases h
end
end Rk

/-! dict(..) of pairs whose keys are numbers or texts. -/
set_option autoImplicit false
set_option linter.all false
set_option maxRecDepth 100000
namespace Rk
open PySem PySem.Spec PyProof.Rows L2
def eput (k : L2.Key) (v : V) : List (L2.Key × V) → List (L2.Key × V)
  | [] => [(k, v)]
  | p :: r => if p.1 = k then (p.1, v) :: r else p :: eput k v r
theorem eput_eq (k : L2.Key) (v : V) : ∀ es : List (L2.Key × V), (es.map (·.1)).Nodup → eput k v es = putK es k v
  | [], _ => rfl
  | p :: r, h => by
    rw [List.map_cons, List.nodup_cons] at h
    have ih := eput_eq k v r h.2
    by_cases e : p.1 = k
    · have hr : (r.map fun kv => if kv.1 = k then (kv.1, v) else kv) = r := by
        conv => rhs; rw [← List.map_id r]
        refine List.map_congr_left fun q hq => ?_
        have : ¬ q.1 = k := fun z => h.1 (by rw [e, ← z]; exact List.mem_map.mpr ⟨q, hq, rfl⟩)
        simp [this]
      simp [eput, putK, e, hr]
    · simp only [eput, e, if_false, ih]
      unfold putK
      simp only [List.any_cons, e, decide_false, Bool.false_or]
      split
      · simp [e]
      · simp
theorem eput_keys (k : L2.Key) (v : V) : ∀ es : List (L2.Key × V), (es.map (·.1)).Nodup → ((eput k v es).map (·.1)).Nodup ∧ ∀ j ∈ (eput k v es).map (·.1), j = k ∨ j ∈ es.map (·.1)
  | [], _ => by simp [eput]
  | p :: r, h => by
    rw [List.map_cons, List.nodup_cons] at h
    obtain ⟨h1, h2⟩ := eput_keys k v r h.2
    by_cases e : p.1 = k
    · simp only [eput, e, if_true, List.map_cons, List.nodup_cons]
      rw [e] at h
      refine ⟨h, fun j hj => ?_⟩
      rcases List.mem_cons.mp hj with z | z
      · exact .inl z
      · exact .inr (List.mem_cons_of_mem _ z)
    · simp only [eput, e, if_false, List.map_cons, List.nodup_cons]
      refine ⟨⟨fun z => (h2 _ z).elim e h.1, h1⟩, fun j hj => ?_⟩
      rcases List.mem_cons.mp hj with z | z
      · exact .inr (by rw [z]; exact List.mem_cons_self)
      · exact (h2 j z).imp id fun z => List.mem_cons_of_mem _ z
section
variable {P : Program} {w : World} {H : Hp} {O : Addr → Prop}
theorem Rpk.put {k : L2.Key} {x : D} {v : V} (rv : Rp P w H O x v) : ∀ {kvs : List (D × D)} {es : List (L2.Key × V)}, Rpk P w H O kvs es → Rpk P w H O (dput kvs (kD k) x) (eput k v es)
  | _, _, .nil => .cons rv .nil
  | _, _, .cons (k := k') (x := x') (v := v') (kvs := kvs) h t => by
    have ed : dput ((kD k', x') :: kvs) (kD k) x = if k' = k then (kD k', x) :: kvs else (kD k', x') :: dput kvs (kD k) x := by
      simp only [dput, eqv_kD, decide_eq_true_eq]
    rw [ed]
    simp only [eput]
    by_cases e : k' = k
    · simp only [e, if_true]; exact .cons rv t
    · simp only [e, if_false]; exact .cons h (Rpk.put rv t)
theorem Rpk.merge : ∀ {more : List (D × D)} {ms : List (L2.Key × V)} {kvs : List (D × D)} {es : List (L2.Key × V)}, Rpk P w H O more ms → Rpk P w H O kvs es → (es.map (·.1)).Nodup → Rpk P w H O (more.foldl (fun acc p => dput acc p.1 p.2) kvs) (mergeK es ms)
  | _, _, _, _, .nil, h, _ => h
  | _, _, kvs, es, .cons (k := k) (v := v) (es := ms) a b, h, n => by
    have e : mergeK es ((k, v) :: ms) = mergeK (putK es k v) ms := rfl
    rw [List.foldl_cons, e, ← eput_eq k v es n]
    exact Rpk.merge b (h.put a) (eput_keys k v es n).1
theorem dput_ne (kvs : List (D × D)) (k x : D) : dput kvs k x ≠ [] := by
  cases kvs with
  | nil => simp [dput]
  | cons p r => simp only [dput]; split <;> simp
theorem foldl_ne : ∀ (more kvs : List (D × D)), kvs ≠ [] → more.foldl (fun acc p => dput acc p.1 p.2) kvs ≠ []
  | [], kvs, h => h
  | p :: r, kvs, _ => foldl_ne r _ (dput_ne _ _ _)
theorem dmerge_ne {kvs : List (D × D)} (h : kvs ≠ []) : dmerge kvs ≠ [] := by
  cases kvs with
  | nil => exact absurd rfl h
  | cons p r => exact foldl_ne r _ (dput_ne _ _ _)
theorem pairs_rp : ∀ {ds : List D} {vs : List V} {kvs : List (D × D)}, Rps P w H O ds vs → pairsOf ds = some kvs → (kvs.all fun p => keyI p.1) = true → ∃ ps es, vs = ps.map V.ref ∧ Paired (fun p (kv : L2.Key × V) => H p = some (.tup [kV kv.1, kv.2])) ps es ∧ Rpk P w H O kvs es
  | _, _, kvs, .nil, h, _ => by
    simp only [pairsOf, Option.some.injEq] at h
    subst h
    exact ⟨[], [], rfl, .nil, .nil⟩
  | _, _, kvs, .cons (d := d) (ds := ds) (vs := vs) a b, h, hk => by
    cases a with
    | @tup p xs es n e q =>
      cases q with
      | nil => simp [pairsOf] at h
      | @cons d1 v1 _ _ q1 q2 => cases q2 with
        | nil => simp [pairsOf] at h
        | @cons d2 v2 _ _ q2 q3 => cases q3 with
          | cons _ _ => simp [pairsOf] at h
          | nil =>
            simp only [pairsOf] at h
            obtain ⟨r, h1, rfl⟩ := Option.map_eq_some_iff.mp h
            simp only [List.all_cons, Bool.and_eq_true] at hk
            obtain ⟨ps, es, rfl, h2, h3⟩ := pairs_rp b h1 hk.2
            obtain ⟨k, rfl, rfl⟩ := keyI_at hk.1 q1.b
            exact ⟨p :: ps, (k, v2) :: es, rfl, .cons e h2, .cons q2 h3⟩
    | lst n r s => simp [pairsOf] at h
    | non => simp [pairsOf] at h
    | bl b => simp [pairsOf] at h
    | int b => simp [pairsOf] at h
    | str b => simp [pairsOf] at h
    | dic n y e s u => simp [pairsOf] at h
    | dik n e s u => simp [pairsOf] at h
end
/-! ### tuple keys -/
abbrev ERel (es : List (NestedKey × Addr × V)) (xs : List (NestedKey × Addr × Value)) : Prop := Paired (fun (e : NestedKey × Addr × V) (x : NestedKey × Addr × Value) => e.1 = x.1 ∧ e.2.1 = x.2.1 ∧ RelV e.2.2 x.2.2) es xs
theorem pairs_rpT {P : Program} {w : World} {H : Hp} {O : Addr → Prop} : ∀ {ds : List D} {vs : List V} {kvs : List (D × D)}, Rps P w H O ds vs → pairsOf ds = some kvs → keysT kvs = true → ∃ (ps : List Addr) (es : List (NestedKey × Addr × V)), vs = ps.map V.ref ∧ Paired (fun p (e : NestedKey × Addr × V) => H p = some (.tup [.ref e.2.1, e.2.2])) ps es ∧ Rpe P w H O kvs es
  | _, _, kvs, .nil, h, _ => by
    simp only [pairsOf, Option.some.injEq] at h
    subst h
    exact ⟨[], [], rfl, .nil, .nil⟩
  | _, _, kvs, .cons (d := d) (ds := ds) (vs := vs) a b, h, hk => by
    cases a with
    | @tup p xs es n e q =>
      cases q with
      | nil => simp [pairsOf] at h
      | @cons d1 v1 _ _ q1 q2 => cases q2 with
        | nil => simp [pairsOf] at h
        | @cons d2 v2 _ _ q2 q3 => cases q3 with
          | cons _ _ => simp [pairsOf] at h
          | nil =>
            simp only [pairsOf] at h
            obtain ⟨r, h1, rfl⟩ := Option.map_eq_some_iff.mp h
            simp only [keysT, List.all_cons, Bool.and_eq_true] at hk
            obtain ⟨ps, es, rfl, h2, h3⟩ := pairs_rpT b h1 hk.2
            obtain ⟨k, pa, rfl, hd, rfl, rk⟩ := key_at hk.1 q1.b
            exact ⟨p :: ps, (k, pa, v2) :: es, rfl, .cons e h2, .cons rk hd q2 h3⟩
    | lst n r s => simp [pairsOf] at h
    | non => simp [pairsOf] at h
    | bl b => simp [pairsOf] at h
    | int b => simp [pairsOf] at h
    | str b => simp [pairsOf] at h
    | dic n y e s u => simp [pairsOf] at h
    | dik n e s u => simp [pairsOf] at h
/-- what stands at the pairs -/
theorem pairs_at {X : Cx} {pins : List (Addr × Obj)} {σ : L2.St} {H : Hp} {s : Shared} {O : Addr → Prop} (I : Inv X pins σ H s) : ∀ (ps : List Addr) (es : List (NestedKey × Addr × V)) (kvs : List (D × D)), Paired (fun p (e : NestedKey × Addr × V) => H p = some (.tup [.ref e.2.1, e.2.2])) ps es → Rpe X.prog X.w H O kvs es →
    ∃ xs : List (NestedKey × Addr × Value), ERel es xs ∧ xs.length = ps.length ∧ (∀ x ∈ xs, (nestedKind X.prog X.w).is s.heap x.1 x.2.1) ∧ ∀ (j : Nat) (x : NestedKey × Addr × Value), xs[j]? = some x → ∃ p, ps[j]? = some p ∧ IsTup s.heap p #[.ref x.2.1, x.2.2]
  | [], es, kvs, hp, hr => by
    cases hp
    exact ⟨[], .nil, rfl, fun x hx => (by cases hx), fun j x h => by simp at h⟩
  | p :: ps, es, kvs, hp, hr => by
    cases hp with
    | @cons _ e _ es' h t =>
      cases hr with
      | @cons k b x v kvs' _ rk hd rv rt =>
        obtain ⟨xs, h1, h2, h3, h4⟩ := pairs_at I ps es' kvs' t rt
        obtain ⟨its, rr, tp, _⟩ := I.tuple (SqT.of h)
        obtain ⟨u1, u2, e, r1, r2⟩ := Vals.two rr
        subst e
        cases r1
        refine ⟨(k, b, u2) :: xs, .cons ⟨rfl, rfl, r2⟩ h1, by simp [h2], fun x hx => ?_, fun j x hx => ?_⟩
        · rcases List.mem_cons.mp hx with e | e
          · rw [e]; exact Rp.key I rk hd
          · exact h3 x e
        · cases j with
          | zero =>
            simp only [List.getElem?_cons_zero, Option.some.injEq] at hx
            subst hx
            exact ⟨p, rfl, tp⟩
          | succ j => exact h4 j x (by simpa using hx)
def esAll (acc es : List (NestedKey × Addr × V)) : List (NestedKey × Addr × V) := es.foldl (fun acc e => esput e.1 e.2.1 e.2.2 acc) acc
theorem hput_keys {k : NestedKey} {b : Addr} {v : Value} : ∀ {xs : List (NestedKey × Addr × Value)}, (xs.map (·.1)).Nodup → ((hput k b v xs).map (·.1)).Nodup ∧ ∀ j ∈ (hput k b v xs).map (·.1), j = k ∨ j ∈ xs.map (·.1)
  | [], _ => by simp [hput]
  | p :: r, h => by
    rw [List.map_cons, List.nodup_cons] at h
    obtain ⟨h1, h2⟩ := hput_keys (k := k) (b := b) (v := v) h.2
    by_cases e : p.1 = k
    · simp only [hput, e, if_true, List.map_cons, List.nodup_cons]
      rw [e] at h
      refine ⟨h, fun j hj => ?_⟩
      rcases List.mem_cons.mp hj with z | z
      · exact .inl z
      · exact .inr (List.mem_cons_of_mem _ z)
    · simp only [hput, e, if_false, List.map_cons, List.nodup_cons]
      refine ⟨⟨fun z => (h2 _ z).elim e h.1, h1⟩, fun j hj => ?_⟩
      rcases List.mem_cons.mp hj with z | z
      · exact .inr (by rw [z]; exact List.mem_cons_self)
      · exact (h2 j z).imp id fun z => List.mem_cons_of_mem _ z
theorem all_rel : ∀ {es : List (NestedKey × Addr × V)} {xs : List (NestedKey × Addr × Value)} {acc : List (NestedKey × Addr × V)} {axs : List (NestedKey × Addr × Value)}, ERel es xs → ERel acc axs → (axs.map (·.1)).Nodup → ERel (esAll acc es) (storedAllH axs xs) ∧ ((storedAllH axs xs).map (·.1)).Nodup
  | _, _, _, _, .nil, h, n => ⟨h, n⟩
  | _, _, acc, axs, .cons (a := e) (b := x) (l₁ := es) (l₂ := xs) h t, ha, n => by
    obtain ⟨h1, h2, h3⟩ := h
    have e1 : storedAllH axs (x :: xs) = storedAllH (hput x.1 x.2.1 x.2.2 axs) xs := by
      show storedAllH (storedH axs x.1 x.2.1 x.2.2) xs = _
      rw [hput_stored n]
    have e2 : esAll acc (e :: es) = esAll (esput e.1 e.2.1 e.2.2 acc) es := rfl
    rw [e1, e2, h1, h2]
    exact all_rel t (esput_paired h3 ha) (hput_keys n).1
theorem rpe_all {P : Program} {w : World} {H : Hp} {O : Addr → Prop} : ∀ {more : List (D × D)} {ms : List (NestedKey × Addr × V)} {kvs : List (D × D)} {es : List (NestedKey × Addr × V)}, Rpe P w H O more ms → Rpe P w H O kvs es → Rpe P w H O (more.foldl (fun acc p => dput acc p.1 p.2) kvs) (esAll es ms)
  | _, _, _, _, .nil, h => h
  | _, _, kvs, es, .cons (k := k) (b := b) (v := v) (es := ms) a n c t, h => by
    rw [List.foldl_cons]
    show Rpe P w H O _ (esAll (esput k b v es) ms)
    exact rpe_all t (h.put a n c)
section
variable {F : FT} {X : Cx} {N : List Str} {sc : Scope} {fns : List (Nat × Str)} {cs : List (Str × D)}
theorem cr_dictOf (hc : X.calm = true) (hu : X.A.units + 200 < cLine) : CallR X (.type "dict") (rBl X.prog X.w .dictOf) := by
  intro pins s σ H xs us Q I r h
  obtain ⟨O, ds, res, hO, hp, hb, k⟩ := h
  cases ds with
  | nil => simp [bltD] at hb
  | cons d t => cases t with
    | cons _ _ => cases d <;> simp [bltD] at hb
    | nil =>
      obtain ⟨v, rfl, hd⟩ := pair1 hp
      cases d with
      | list ys =>
        obtain ⟨a, vs, rfl, e, q⟩ := hd
        simp only [bltD] at hb
        obtain ⟨kvs, h1, h2⟩ := Option.bind_eq_some_iff.mp hb
        split at h2
        · rename_i hk
          cases h2
          simp only [Bool.and_eq_true] at hk
          obtain ⟨ps, es, rfl, hpp, hr⟩ := pairs_rpT q h1 hk.1
          rw [Vals.ref1 r]
          obtain ⟨its, rv, pl, hz⟩ := I.list (.inl e)
          have ei := refs_at rv
          subst ei
          obtain ⟨xs, x1, x2, x3, x4⟩ := pairs_at I _ _ _ hpp hr
          let Ts : Nat → Addr := fun j => (ps[j]?).getD 0
          have items : PairItems s.heap (ps.map Value.ref).toArray Ts (xs.map fun x => (.ref x.2.1, x.2.2)) := by
            refine ⟨by simp [x2], fun j k' v' hj => ?_⟩
            rw [List.getElem?_map] at hj
            obtain ⟨x, hx, ex⟩ := Option.map_eq_some_iff.mp hj
            cases ex
            obtain ⟨p, hp', tp⟩ := x4 j x hx
            have eT : Ts j = p := by show (ps[j]?).getD 0 = p; rw [hp']; rfl
            rw [eT]
            refine ⟨by simp [hp'], .inl ?_⟩
            obtain ⟨o, ho, hc', n, hd⟩ := tp
            exact ⟨o, ho, hc', n, hd⟩
          have hst : KeysStay (nestedKind X.prog X.w) s.heap s.heap.objs.size [] xs := fun h' hk' x hx => nestedKind_stays.all h' (fun b o hw e => hk' b o (Nat.ne_of_lt (Heap.lt_size e)) hw e) _ _ (x3 x hx)
          refine call_dict_pairsH (knd := nestedKind X.prog X.w) (ps := xs) (PairArg.list a (ps.map Value.ref).toArray Ts (xs.map fun x => (.ref x.2.1, x.2.2))) (I.ok.hd hc) (by show X.A.units + 1 + 1 + 8 < cLine; omega) ⟨?_, items⟩ ⟨by simp, fun i key v hrel => ?_⟩ hst ?_ fun h' tk hd' hkp => ?_
          · obtain ⟨o, n, ho, hc', hd, hdat⟩ := pl
            exact ⟨o, n, ho, hc', hd, hdat⟩
          · have hrel' : (xs.map fun x => ((.ref x.2.1 : Value), x.2.2))[i]? = some (key, v) := hrel
            rw [List.getElem?_map] at hrel'
            obtain ⟨x, hx, ex⟩ := Option.map_eq_some_iff.mp hrel'
            cases ex
            exact ⟨x.1, x.2.1, hx, rfl⟩
          · rw [List.length_map, x2]
            simpa using hz
          · obtain ⟨o', ents, ep', q1, q2, q3, q4, q5, q6⟩ := hd'
            obtain ⟨rel, nd⟩ := all_rel x1 (acc := []) (axs := []) .nil (by simp)
            have hn : H s.heap.objs.size = none := I.hok.fresh (Nat.le_refl _)
            have hb : (s.heap.objs.size == sysModules) = false := beq_eq_false_iff_ne.mpr (Ne.symm (Nat.ne_of_lt I.big))
            have kp : ∀ b o, s.heap.get? b = some o → h'.get? b = some o := fun b o e => hkp b o (fun z => nomatch z) e
            have hra := rpe_all hr (kvs := []) (es := []) .nil
            have ndE : ((esAll [] es).map (·.1)).Nodup := by rw [paired_keys rel]; exact nd
            have hnO := hO _ hn
            refine ⟨.ref s.heap.objs.size, upd H s.heap.objs.size (dHO X.prog X.w s.heap.objs.size ep' (esAll [] es)), I.laid (t' := tk) kp (Nat.le_refl _) (dHO_ok q1 q2 q3 q4 rel), rfl, k _ _ (same_new hn) (.new ?_ hn ?_)⟩
            · exact .dic hnO hb upd_same (hra.same (same_new hn)) ndE
            · exact ⟨_, hb, ⟨ep', upd_same⟩, hra.go (fun a o e _ => same_new hn a o e) (fun a o e n z => z.elim n fun z => by rw [z, hn] at e; cases e), ndE⟩
        · split at h2
          · rename_i hk
            cases h2
            simp only [Bool.and_eq_true, keysI, Bool.not_eq_true', List.isEmpty_eq_false_iff] at hk
            obtain ⟨ps, es, rfl, hpp, hr⟩ := pairs_rp q h1 hk.1.2
            refine call_dictP hc pins s σ H _ us Q I r ⟨a, ps, es, rfl, .inl e, L2.Paired.mapP hpp fun _ _ z => SqT.of z, fun p hp => k _ _ (same_new hp) (.im (.dik (hO p hp) upd_same ?_ (dmerge_ne hk.1.1)))⟩
            have m := Rpk.merge hr .nil (by simp)
            exact m.go (fun a o e _ => same_new hp a o e) fun _ _ _ n => n
          · cases h2
      | _ => simp [bltD] at hb
end
end Rk

/-! set(xs) of a tuple. -/
set_option autoImplicit false
set_option linter.all false
set_option maxRecDepth 100000
namespace Rk
open PySem PySem.Spec PyProof.Rows L2
open PySem PySem.Spec PyProof.Rows L2
section
variable {P : Program} {w : World} {A : Around} {E : Value → Shared → Prop} {s : Shared} {κ : Type} {Is : κ → Value → Prop} {In : Heap → List (Value × κ) → Prop}
set_option maxHeartbeats 3200000 in
theorem call_setKT {l : Addr} {items : Array Value} (ad : Adds P w s.heap.objs.size s.heap κ Is In) (ks : List (Value × κ)) {Q : Value → Shared → Prop} (hh : A.handled = none) (hl : s.heap.IsTuple l items) (hit : items.toList = ks.map (·.1)) (his : ∀ p ∈ ks, Is p.2 p.1) (few : ∀ L : List (Value × κ), (∀ p ∈ L, p ∈ ks) → (L.map (·.2)).Nodup → L.length + 1 < 64)
    (hu : A.units + 12 < cLine) (new : ∀ h : Heap, h.get? s.heap.objs.size = some (set0 w) → In h [])
    (h : ∀ (h' : Heap) (tk : Nat) L, In h' L → GotV ks ks.length L → (∀ b o, s.heap.get? b = some o → h'.get? b = some o) → Q (.ref s.heap.objs.size) { s with heap := h', toks := tk }) : wpAny (model P w) A (call (.type "set") [.ref l]) Q E s := by
  have hisz : items.size = ks.length := by
    have q := congrArg List.length hit
    simpa using q
  obtain ⟨c, tl, hmro⟩ := F.called_set.mro
  have hmade := F.called_set.made
  have hsub := F.called_set.sub
  refine wpAny_call (codeAny_of_tree ?_)
  show wpAny _ _ (callAny (.type "set") _) _ _ _
  refine wpAny_pure ⟨Code.quiet_builtin _ (by decide +kernel), codeAny_builtin F.entry_type_call ?_⟩
  rw [Around.under_plain (weight_type_call_type "set" [.ref l] []) rfl]
  have h1 := F.called_set.notType
  have h2 := F.called_set.canCreate
  have hct := F.typeCall_set_1 (.ref l)
  repeat (any_goals (first | assumption | wp_step))
  refine codeAny_mono (code_set_led1 (.ref l) (E := E) (Q₁ := fun obj s₁ => obj = .ref s.heap.objs.size ∧ s₁ = { s with heap := s.heap.push (set0 w) }) ⟨rfl, rfl⟩) fun r s₁ hr => ?_
  cases r with
  | error e => exact hr
  | ok fl =>
    cases fl with
    | ret obj =>
      obtain ⟨rfl, rfl⟩ := hr
      have hS : (s.heap.push (set0 w)).get? s.heap.objs.size = some (set0 w) := Heap.get?_push_size _ rfl
      have hT : Shared.TypeIs { s with heap := s.heap.push (set0 w) } (.ref s.heap.objs.size) "set" := ⟨_, hS, rfl⟩
      have hli := F.called_set.init.lookup
      have hbi := F.called_set.init.bind (.ref s.heap.objs.size)
      repeat (any_goals (first | assumption | wp_step))
      refine codeAny_mono (codeAny_call_builtin (R := wants (fun r s₂ => r = .none ∧ ∃ h' tk L, s₂ = { s with heap := h', toks := tk } ∧ In h' L ∧ GotV ks ks.length L ∧ (∀ b o, s.heap.get? b = some o → h'.get? b = some o)) E) F.called_set.init.plain F.entry_set_init (check_set_init_1 hT ?_)) fun r₂ s₂ hr₂ => ?_
      · obtain ⟨ol, hol, hcl, nl, hdl⟩ := hl
        obtain ⟨ocls, odict, odata, oslots⟩ := ol
        simp only at hcl hdl
        subst hcl; subst hdl
        have hol' : (s.heap.push (set0 w)).get? l = some { cls := .type "tuple", dict := odict, data := .seq items nl, slots := oslots } := Heap.get?_push_of_some _ hol
        have hsls := F.sub_tuple_set
        have hslf := F.sub_tuple_frozenset
        have hne : (Value.type "tuple" == Value.type "dict") = false := by decide
        have hl1 : (s.heap.push (set0 w)).IsTuple l items := ⟨_, hol', rfl, nl, rfl⟩
        unfold Builtin.«set.__init__» noKeywords Builtin.Frozenset.updateFrom
        generalize hPI : pyIter = PI
        wp_walk
        subst hPI
        refine wpAny_pyIter_tuple hl1 (wpAny_bind (wpAny_runValue ?_))
        have hlS : l < s.heap.objs.size := Heap.lt_size hol
        have hh3 : A.in1.in1.in1.handled = none := by simp [hh]
        have hneI : l ≠ (s.heap.push (set0 w)).objs.size := by rw [Heap.size_push]; exact Nat.ne_of_lt (Nat.lt_succ_of_lt hlS)
        have hSf : s.heap.objs.size ∉ [(s.heap.push (set0 w)).objs.size, l] := by
          rw [Heap.size_push]
          simp only [List.mem_cons, List.mem_singleton, List.not_mem_nil, or_false, not_or]
          exact ⟨Nat.ne_of_lt (Nat.lt_succ_self _), Nat.ne_of_gt hlS⟩
        have hval : ∀ (i : Nat) (v : Value), items[i]? = some v → ∃ p, ks[i]? = some p ∧ v = p.1 := fun i v hv => by
          have q : items.toList[i]? = some v := by rw [Array.getElem?_toList]; exact hv
          rw [hit, List.getElem?_map] at q
          obtain ⟨p, e1, e2⟩ := Option.map_eq_some_iff.mp q
          exact ⟨p, e1, e2.symm⟩
        have none_of : ∀ b, s.heap.objs.size ≤ b → s.heap.get? b = none := fun b hb => by
          cases q : s.heap.get? b with
          | none => rfl
          | some o => exact absurd (Nat.lt_of_lt_of_le (Heap.lt_size q) hb) (Nat.lt_irrefl _)
        refine fill_loop ((Walks.tuple hh3 _ l hneI items).toS) ad hSf ks hisz few hval his (none_of _ (Nat.le_refl _)) (fun b hb => none_of b (by
            rw [List.mem_singleton.mp hb, Heap.size_push]
            exact Nat.le_succ _)) (by show A.units + 1 + 1 + 1 + 8 < cLine; omega) (items.size - 0) 0 _ (by omega) (Nat.zero_le _)
          ⟨⟨_, Heap.get?_push_size _ rfl, rfl, rfl⟩, (hl1.push _)⟩ (fun b o e => Heap.get?_push_of_some _ (Heap.get?_push_of_some _ e)) ⟨[], new _ (Heap.get?_push_of_some _ hS), GotV.start ks⟩ ?hR
        case hR =>
          intro s' L hm hL g' hkp
          obtain ⟨h', g2, d', tk', os'⟩ := s'
          obtain rfl : g2 = s.gens := hm.gens
          obtain rfl : d' = s.drawn := hm.drawn
          obtain rfl : os' = s.os := hm.os
          refine wpAny_pure ?_
          rw [hisz] at g'
          exact wpAny_pure ⟨rfl, h', tk', L, rfl, hL, g', hkp⟩
      · cases r₂ with
        | error e => exact hr₂
        | ok fl₂ =>
          cases fl₂ with
          | ret r =>
            obtain ⟨rfl, h', tk, L, rfl, hL, g', hk'⟩ := hr₂
            repeat (any_goals (first | assumption | wp_step))
            exact h _ _ _ hL g' hk'
          | _ => exact hr₂.elim
    | _ => exact hr.elim
end
section
variable {F : FT} {X : Cx} {N : List Str} {sc : Scope} {fns : List (Nat × Str)} {cs : List (Str × D)}
/-- set(xs) -/
def rSetOfT (P : Program) (w : World) : List V → Hp → VK → Prop := fun xs H Q => ∃ O ds v, xs = [v] ∧ Rp P w H O (.tuple ds) v ∧ setOk ds = true ∧ (dedup ds).length < 63 ∧
  ∀ p vals bs, H p = none → PySem.W.EachIs (fun u (q : D × V) => RelV q.2 u ∧ Rp P w H O q.1 q.2) vals bs → (bs.map (·.1)).Perm (dedup ds) → Q (.ref p) (upd H p (setHO w p vals))
theorem cr_setOfT (hc : X.calm = true) (hu : X.A.units + 200 < cLine) : CallR X (.type "set") (rSetOfT X.prog X.w) := by
  intro pins s σ H xs us Q I r h
  obtain ⟨O, ds, v, rfl, htp, hok, hlen, k⟩ := h
  obtain ⟨a, vs, rfl, e, q⟩ : ∃ a vs, v = .ref a ∧ H a = some (.tup vs) ∧ Rps X.prog X.w H O ds vs := by
    cases htp with
    | tup n e q => exact ⟨_, _, rfl, e, q⟩
  rw [Vals.ref1 r]
  obtain ⟨its, rv, pl, _⟩ := I.tuple (SqT.of e)
  have hn : H s.heap.objs.size = none := I.hok.fresh (Nat.le_refl _)
  have hin := setOk_in hok
  have hl2 : its.length = ds.length := by rw [← rv.length, q.length]
  have fin : ∀ {κ : Type} (dat : κ → D) (inj : ∀ a b, dat a = dat b → a = b) {Is : κ → Value → Prop} {In : Heap → List (Value × κ) → Prop} (ad : Adds X.prog X.w s.heap.objs.size s.heap κ Is In) (new : ∀ h : Heap, h.get? s.heap.objs.size = some (set0 X.w) → In h [])
      (ks : List (Value × κ)), ks.map (·.1) = its → ks.map (fun p => dat p.2) = ds → (∀ p ∈ ks, Is p.2 p.1) → wpAny (model X.prog X.w) X.A (call (.type "set") [.ref a]) (EP X pins σ Q) X.xe s := by
    intro κ dat inj Is In ad new ks h1 h2 his
    have few : ∀ L : List (Value × κ), (∀ p ∈ L, p ∈ ks) → (L.map (·.2)).Nodup → L.length + 1 < 64 := fun L sub nd => by
      have kk : ∀ a ∈ ds, ∀ b ∈ ds, PyData.eqv a b = true → a = b := fun a ha b hb => (key_eqv (hin a ha) (hin b hb)).mp
      have nd2 : ((L.map (·.2)).map dat).Nodup := List.Pairwise.map dat (fun a b n e => n (inj a b e)) nd
      have := nodup_le nd2 (U := dedup ds) fun d hd => (dedup_mem kk).mpr (by
        rw [List.map_map] at hd
        obtain ⟨p, hp, rfl⟩ := List.mem_map.mp hd
        rw [← h2]
        exact List.mem_map.mpr ⟨p, sub p hp, rfl⟩)
      rw [List.length_map, List.length_map] at this
      omega
    refine call_setKT ad ks (I.ok.hd hc) pl (by simpa using h1.symm) his few (by omega) new fun h' tk L hL g kp => ?_
    obtain ⟨es, ep, t, s1, s2, s3, s4, s5, nd⟩ := ad.view _ _ hL
    obtain ⟨bs, e1, pm⟩ := set_finish dat inj g nd q rv h1 h2 hin
    refine ⟨.ref s.heap.objs.size, _, I.laid (a := s.heap.objs.size) (o := setHO X.w s.heap.objs.size (L.map (·.1))) (t' := tk) kp (Nat.le_refl _) ⟨⟨es, ep, t, s1, s2, s3, s4, s5⟩, ?_, ?_⟩, rfl, k _ _ bs hn e1 pm⟩
    · obtain ⟨o, ho, _⟩ := s1
      exact ⟨o, ho⟩
    · rintro g1 g2 ⟨es', ep', t', c1, c2⟩ kp'
      exact ⟨es', ep', t', c1.at kp', c2⟩
  have zip1 : ∀ {κ : Type} (f : D → κ), ((its.zip (ds.map f)).map (·.1)) = its := fun f => List.map_fst_zip (by rw [List.length_map, hl2]; exact Nat.le_refl _)
  have zip2 : ∀ {κ : Type} (f : D → κ) (dat : κ → D), (∀ d ∈ ds, dat (f d) = d) → (its.zip (ds.map f)).map (fun p => dat p.2) = ds := fun f dat hf => by
    have : (its.zip (ds.map f)).map (fun p => dat p.2) = ((its.zip (ds.map f)).map (·.2)).map dat := by rw [List.map_map]; rfl
    rw [this, List.map_snd_zip (by rw [List.length_map, hl2]; exact Nat.le_refl _), List.map_map]
    refine (List.map_congr_left (g := id) fun d hd => ?_).trans (List.map_id _)
    exact hf d hd
  have at_ : ∀ {κ : Type} (f : D → κ), ∀ p ∈ its.zip (ds.map f), ∃ d v, d ∈ ds ∧ p.2 = f d ∧ RelV v p.1 ∧ Rp X.prog X.w H O d v := fun f p hp => by
    obtain ⟨i, hi, e⟩ := List.getElem_of_mem hp
    have hp' : (its.zip (ds.map f))[i]? = some p := by rw [List.getElem?_eq_getElem hi, e]
    obtain ⟨h1, h2⟩ := List.getElem?_zip_eq_some.mp hp'
    rw [List.getElem?_map] at h2
    obtain ⟨d, d1, d2⟩ := Option.map_eq_some_iff.mp h2
    obtain ⟨v, a1, a2⟩ := vals_get rv h1
    obtain ⟨v', b1, b2⟩ := q.get d1
    rw [a1] at b1
    cases b1
    exact ⟨d, v, List.mem_of_getElem? d1, d2.symm, a2, b2⟩
  have hok' := hok
  simp only [setOk, Bool.or_eq_true, List.all_eq_true] at hok'
  have scan : (∀ d ∈ ds, (∃ i, d = .int i) ∨ ∃ x, d = .str x) → wpAny (model X.prog X.w) X.A (call (.type "set") [.ref a]) (EP X pins σ Q) X.xe s := fun hd => by
    let f : D → L2.Key := fun d => match d with
      | .int i => .inl i
      | .str x => .inr x
      | _ => .inl 0
    refine fin kD (fun a b e => by cases a <;> cases b <;> simp [kD] at e <;> rw [e]) (adds_M X.prog X.w _ _) (fun h ho => inM_fresh ho) (its.zip (ds.map f)) (zip1 f) (zip2 f kD fun d hd' => ?_) fun p hp => ?_
    · rcases hd d hd' with ⟨i, rfl⟩ | ⟨x, rfl⟩ <;> rfl
    · obtain ⟨d, v, d1, d2, d3, d4⟩ := at_ f p hp
      rw [d2]
      rcases hd d d1 with ⟨i, rfl⟩ | ⟨x, rfl⟩
      · cases d4
        obtain ⟨t, e⟩ := d3
        rw [e]
        exact ⟨mixKind_int _ _ i t, rfl, rfl⟩
      · cases d4
        obtain ⟨t, e⟩ := d3
        rw [e]
        exact ⟨mixKind_str _ _ x t, rfl, rfl⟩
  rcases hok' with (h | h) | h
  · refine fin NestedKey.data (fun a b e => ?_) (adds_T X.prog X.w _ _) (fun h ho => inT_fresh ho) (its.zip (ds.map nk)) (zip1 nk) (zip2 nk NestedKey.data fun d hd => nk_data d (hin d hd)) fun p hp => ?_
    · have := data_eqv a b
      rw [e, data_eqv, NestedKey.beq_self] at this
      exact NestedKey.eq_of_beq _ _ this.symm
    · obtain ⟨d, v, d1, d2, d3, d4⟩ := at_ nk p hp
      obtain ⟨kk, e1, e2⟩ := keyT_tup (h d d1)
      have d4' : Rp X.prog X.w H O (nk d).data v := by rw [nk_data d (hin d d1)]; exact d4
      subst e1
      cases d4 with
      | @tup b _ _ n1 e3 q3 =>
        refine ⟨b, d3, ?_⟩
        rw [d2]
        refine Rp.key I d4' ?_
        rw [← data_depth, nk_data _ (hin _ d1), data_depth]
        exact e2
  · exact scan fun d hd => .inr (by have := h d hd; cases d <;> simp at this ⊢)
  · exact scan fun d hd => .inl (by have := h d hd; cases d <;> simp at this ⊢)
/-- of a list or a tuple -/
def rSetOfB (P : Program) (w : World) : List V → Hp → VK → Prop := fun xs H Q => rSetOf P w xs H Q ∨ rSetOfT P w xs H Q
theorem cr_setOfB (hc : X.calm = true) (hu : X.A.units + 200 < cLine) : CallR X (.type "set") (rSetOfB X.prog X.w) := by
  intro pins s σ H xs us Q I r h
  rcases h with h | h
  · exact cr_setOf hc hu pins s σ H xs us Q I r h
  · exact cr_setOfT hc hu pins s σ H xs us Q I r h
theorem se_sortedSet (G : Gx F X N sc fns cs) {e : Expr} {i : Ex} {p1 p2 q1 q2 : Pos} (he : SE F X e i) (hg1 : sc.names.lookup ("sorted" : Str) = some .globalImplicit := by rfl) (hg2 : sc.names.lookup ("set" : Str) = some .globalImplicit := by rfl)
    (hs1 : starEach [e] X.env = (false, eval e X.env) :: starEach [] X.env := by rfl) (hs2 : starEach [.Call (.Name "set" p2) [e] [] q2] X.env = (false, eval (.Call (.Name "set" p2) [e] [] q2) X.env) :: starEach [] X.env := by rfl) :
    SE F X (.Call (.Name "sorted" p1) [.Call (.Name "set" p2) [e] [] q2] [] q1) (.blt .sortedSet [i]) := by
  have inner := pe_callTy (pos := q2) (p := p2) (cr_setOfB G.calm G.units) (show X.env.kindOf ("set" : Str) = some .globalImplicit by unfold Env.kindOf; rw [G.hsc]; exact hg2) (G.blt _ (by decide)) boot_set (sl_cons he sl_nil hs1) (by decide) (by decide) hs1 rfl
  have outer := pe_callB (pos := q1) (p := p1) (cr_sortS G.calm G.units) (show X.env.kindOf ("sorted" : Str) = some .globalImplicit by unfold Env.kindOf; rw [G.hsc]; exact hg1) (G.blt _ (by decide)) boot_sorted (pa_cons inner pa_nil hs2) (by decide) (by decide) hs2 rfl
  refine outer.of fun σ H Q ⟨Of, ρ, r, E, h, k⟩ => ?_
  simp only [ev] at h
  split at h
  · rename_i rs hrs
    obtain ⟨r0, hr0, rfl⟩ := evL_one hrs
    obtain ⟨t, d⟩ := r0
    cases d with
    | list ds =>
      simp only [List.map_cons, List.map_nil, bltD] at h
      split at h
      · rename_i hh
        cases h
        simp only [Bool.and_eq_true, decide_eq_true_eq] at hh
        obtain ⟨⟨h1, h2⟩, h3⟩ := hh
        refine ⟨Of, ρ, _, E, hrs, fun vs H1 s1 q1 => ?_⟩
        obtain ⟨v, rfl, p1⟩ := pair1 q1
        refine .inl ⟨Ow Of ρ σ, ds, v, rfl, p1.1, h2, h3, fun p vals bs hp ee pm => ?_⟩
        have sp := same_new (o := setHO X.w p vals) hp
        have hin := setOk_in h2
        have kk : ∀ a ∈ ds, ∀ b ∈ ds, PyData.eqv a b = true → a = b := fun a ha b hb => (key_eqv (hin a ha) (hin b hb)).mp
        have sub : ∀ d ∈ bs.map (·.1), d ∈ ds := fun d hd => (dedup_mem kk).mp (pm.mem_iff.mp hd)
        have so := sortable_sub h1 sub (by rw [pm.length_eq]; exact dedup_len ds)
        refine ⟨p, vals, bs, Ow Of ρ σ, rfl, upd_same, rp_each sp ee, so, fun d hd => hin d (sub d hd), ?_, fun p' hp' => ((E.same s1).same sp).fresh hp', fun v' H' s' p' => ?_⟩
        · have : bs.length = (dedup ds).length := by rw [← pm.length_eq, List.length_map]
          omega
        · have e : isort (bs.map (·.1)) = isort (dedup ds) := isort_of_perm pm (fun d hd => hin d (sub d hd)) fun a ha b hb => (sortable_parts h1).1 a (sub a ha) b (sub b hb)
          rw [e] at p'
          exact k _ _ ((s1.trans sp).trans s') ((p'.from sp).from s1)
      · cases h
    | tuple ds =>
      simp only [List.map_cons, List.map_nil, bltD] at h
      split at h
      · rename_i hh
        cases h
        simp only [Bool.and_eq_true, decide_eq_true_eq] at hh
        obtain ⟨⟨h1, h2⟩, h3⟩ := hh
        refine ⟨Of, ρ, _, E, hrs, fun vs H1 s1 q1 => ?_⟩
        obtain ⟨v, rfl, p1⟩ := pair1 q1
        refine .inr ⟨Ow Of ρ σ, ds, v, rfl, p1.1, h2, h3, fun p vals bs hp ee pm => ?_⟩
        have sp := same_new (o := setHO X.w p vals) hp
        have hin := setOk_in h2
        have kk : ∀ a ∈ ds, ∀ b ∈ ds, PyData.eqv a b = true → a = b := fun a ha b hb => (key_eqv (hin a ha) (hin b hb)).mp
        have sub : ∀ d ∈ bs.map (·.1), d ∈ ds := fun d hd => (dedup_mem kk).mp (pm.mem_iff.mp hd)
        have so := sortable_sub h1 sub (by rw [pm.length_eq]; exact dedup_len ds)
        refine ⟨p, vals, bs, Ow Of ρ σ, rfl, upd_same, rp_each sp ee, so, fun d hd => hin d (sub d hd), ?_, fun p' hp' => ((E.same s1).same sp).fresh hp', fun v' H' s' p' => ?_⟩
        · have : bs.length = (dedup ds).length := by rw [← pm.length_eq, List.length_map]
          omega
        · have e : isort (bs.map (·.1)) = isort (dedup ds) := isort_of_perm pm (fun d hd => hin d (sub d hd)) fun a ha b hb => (sortable_parts h1).1 a (sub a ha) b (sub b hb)
          rw [e] at p'
          exact k _ _ ((s1.trans sp).trans s') ((p'.from sp).from s1)
      · cases h
    | _ => simp [bltD] at h
  · cases h
end
end Rk

/-! d.get(..), dict(..) of pairs with tuple keys, negative constants, a, b, c = x, y, z. -/
set_option autoImplicit false
set_option linter.all false
set_option maxRecDepth 100000
namespace Rk
open PySem PySem.Spec PyProof.Rows L2
section
variable {F : FT} {X : Cx} {N : List Str} {sc : Scope} {fns : List (Nat × Str)} {cs : List (Str × D)}
theorem se_neg {c : Int} {j : Nat} {p1 pos : Pos} : SE F X (.UnaryOp .USub (.Constant (.int c) j p1) pos) (.c (.int (-c))) :=
  (pe_un un_neg pe_int).of fun σ H Q ⟨Of, ρ, r, E, h, k⟩ => by
  simp only [ev, Option.some.injEq] at h
  subst h
  exact ⟨c, rfl, k (.int (-c)) H (Same.refl H) (.im (.int _))⟩
/-- a, b, c = x, y, z -/
theorem ss_par3 (G : Gx F X N sc fns cs) {i j l : Nat} {x y z : Str} {a b c : Expr} {ies : List Ex} {px py pz pt pos : Pos} {kt k2 : Nat} {pt2 : Pos} (he : SN F X [a, b, c] ies) (hw : swappedStores [.Tuple [.Name x px, .Name y py, .Name z pz] kt pt] (.Tuple [a, b, c] k2 pt2) X.env = pure (some [x, y, z]))
    (hij : i ≠ j := by decide) (hil : i ≠ l := by decide) (hjl : j ≠ l := by decide) (hi : N[i]? = some x := by rfl) (hj : N[j]? = some y := by rfl) (hl : N[l]? = some z := by rfl)
    (hx : sc.names.lookup x = some .local := by rfl) (hy : sc.names.lookup y = some .local := by rfl) (hz : sc.names.lookup z = some .local := by rfl)
    (hs : swapsWithSole [.Tuple [.Name x px, .Name y py, .Name z pz] kt pt] (.Tuple [a, b, c] k2 pt2) pos.line X.env = pure false := by rfl) :
    SS F X (.Assign [.Tuple [.Name x px, .Name y py, .Name z pz] kt pt] (.Tuple [a, b, c] k2 pt2) pos) (.par [i, j, l] ies) :=
  (ps_par3 (i := i) (j := j) (l := l) G.calm (by rw [G.hN]; exact G.nd) (by rw [G.hN]; exact hi) (by rw [G.hN]; exact hj) (by rw [G.hN]; exact hl) hij hil hjl (by rw [G.hsc]; exact hx) (by rw [G.hsc]; exact hy) (by rw [G.hsc]; exact hz) he hw hs).of fun D σ H ⟨Of, ρ, Hb, out, E, ho, s, h, k⟩ => by
  simp only [ex] at h
  split at h
  · rename_i rs hrs
    split at h
    · cases h
    · rename_i hl
      obtain ⟨ρ', hp, rfl⟩ := Option.map_eq_some_iff.mp h
      refine par_all ies [i, j, l] rs ρ ρ' σ H Of E E (fun a z => z) ho s hrs (by simpa using hl) hp fun vs H' hv s' E' o' sb => ?_
      match vs, hv, E', o' with
      | [u, v, t], _, E', o' => exact ⟨u, v, t, rfl, k _ _ E' o' sb⟩
  · cases h

/-! ### d.get -/
/-- a dict with tuple keys stands there -/
def tyD (P : Program) (w : World) (x : V) (H : Hp) : Prop := ∃ a ep es, x = .ref a ∧ H a = some (dHO P w a ep es)
theorem tyD_is {pins : List (Addr × Obj)} {σ : L2.St} {H : Hp} {s : Shared} {x : V} {v : Value} (I : Inv X pins σ H s) (r : RelV x v) (ty : tyD X.prog X.w x H) : s.TypeIs v "dict" ∧ ∀ a, v = .ref a → ∃ ob, s.heap.get? a = some ob ∧ ob.dict = none := by
  obtain ⟨a, ep, es, rfl, h⟩ := ty
  cases r
  obtain ⟨⟨o, ents, xs, h1, h2, h3, h4, h5⟩, _, _⟩ := (show ObjOk X.prog X.w H s.heap a (dHO X.prog X.w a ep es) from I.hok a _ h)
  refine ⟨⟨o, h1, h2.1⟩, fun a e => ?_⟩
  cases e
  exact ⟨o, h1, h2.2.1⟩
def tBMG (ty : V → Hp → Prop) (r : V → List V → Hp → VK → Prop) (to : TE) (t : TA) : TE := fun σ H Q => to σ H fun x H1 => ty x H1 ∧ t σ H1 fun xs H2 => r x xs H2 Q
theorem pe_bmG {o e : Expr} {es : List Expr} {to : TE} {t : TA} {name : Str} {apos cpos : Pos} {T id : String} {r : V → List V → Hp → VK → Prop} {ty : V → Hp → Prop}
    (hT : ∀ {pins : List (Addr × Obj)} {σ : L2.St} {H : Hp} {s : Shared} {x : V} {v : Value}, Inv X pins σ H s → RelV x v → ty x H → s.TypeIs v T ∧ ∀ a, v = .ref a → ∃ ob, s.heap.get? a = some ob ∧ ob.dict = none)
    (pa : PlainAttrs T) (slot : PySem.Slot T name id) (hty : typeOf (.builtin id) = pure (.type "method_descriptor")) (hm : MtR X id r) (ho : PE X o to) (ha : PA X (e :: es) t)
    (hbase : attributeBase o name X.env (eval o X.env) = eval o X.env := by rfl)
    (hfew : ((backTo cpos (starEach (e :: es) X.env)).all (fun x => !x.1) && (backToKw cpos (keywordEach [] X.env)).all (fun x => x.1.isSome)
      && decide ((e :: es).length + ([] : List Keyword).length + (if ([] : List Keyword).isEmpty then 0 else 1) < 30)) = true := by rfl)
    (hline : (apos.endLine == cpos.line) = true := by rfl) (hs : starEach (e :: es) X.env = (false, eval e X.env) :: starEach es X.env := by rfl) (hplain : (backTo cpos (starEach es X.env)).any (·.1) = false := by rfl) :
    PE X (.Call (.Attribute o name apos) (e :: es) [] cpos) (tBMG ty r to t) := by
  refine ⟨fun pins s σ H Q I h => ?_⟩
  refine wpAny_Call_method_late hbase hfew hline rfl (thn (ho.run pins s σ H _ I h) fun v s1 ⟨x, H1, I1, r1, ty, q1⟩ => ?_)
  obtain ⟨h1, h2⟩ := hT I1 r1 ty
  refine ⟨T, id, pa, slot, hty, h1, h2, ?_⟩
  have hA := ha.run cpos pins s1 σ H1 _ I1 q1
  rw [hs] at hA ⊢
  refine Calls.callWith_builtin (by show (false || (backTo cpos (starEach es X.env)).any (·.1)) = false; rw [hplain] <;> rfl) (Calls.evalArgs_plain ?_)
  exact thn hA fun us s2 ⟨vs, H2, I2, r2, q2⟩ => hm pins s2 σ H2 x vs v us Q I2 r1 r2 q2
theorem get_parts {b : Bl} (hb : b = .get1 ∨ b = .get2) {d : D} {ds : List D} {r : Tag × D} (h : bltD b (d :: ds) = some r) :
    ∃ kvs k more, d = .dict kvs ∧ ds = k :: more ∧ keyT k = true ∧ keysT kvs = true ∧ ((more = [] ∧ r = (.im, (dget kvs k).getD .none)) ∨ ∃ x, more = [x] ∧ pur x = true ∧ r = (.im, (dget kvs k).getD x)) := by
  rcases hb with rfl | rfl
  · cases d with
    | dict kvs =>
      match ds, h with
      | [k], h =>
        simp only [bltD] at h
        split at h
        · rename_i hk
          simp only [Bool.and_eq_true] at hk
          cases h
          exact ⟨kvs, k, [], rfl, rfl, hk.1, hk.2, .inl ⟨rfl, rfl⟩⟩
        · cases h
      | [], h => simp [bltD] at h
      | _ :: _ :: _, h => simp [bltD] at h
    | _ => cases ds <;> simp [bltD] at h
  · cases d with
    | dict kvs =>
      match ds, h with
      | [k, x], h =>
        simp only [bltD] at h
        split at h
        · rename_i hk
          simp only [Bool.and_eq_true] at hk
          cases h
          exact ⟨kvs, k, [x], rfl, rfl, hk.1.1, hk.1.2, .inr ⟨x, rfl, hk.2, rfl⟩⟩
        · cases h
      | [], h => simp [bltD] at h
      | [_], h => simp [bltD] at h
      | _ :: _ :: _ :: _, h => simp [bltD] at h
    | _ => cases ds <;> simp [bltD] at h
theorem RpB.ofPur {P : Program} {w : World} {H : Hp} {O : Addr → Prop} {d : D} {v : V} (h : RpB P w H O d v) (hp : pur d = true) : Rp P w H O d v := by
  cases d with
  | list ds => simp [pur] at hp
  | dict ds => simp [pur] at hp
  | none => exact h
  | bool b => exact h
  | int b => exact h
  | str b => exact h
  | tuple b => exact h
def rGet (P : Program) (w : World) (b : Bl) : V → List V → Hp → VK → Prop := fun x xs H Q => ∃ O d ds r, (∀ p, H p = none → ¬ O p) ∧ RpB P w H O d x ∧ Paired (fun d v => RpB P w H O d v) ds xs ∧ bltD b (d :: ds) = some r ∧
  ∀ v H', Same H H' → Post P w H O H' v r → Q v H'
theorem mt_getD (hu : X.A.units + 200 < cLine) {b : Bl} (hb : b = .get1 ∨ b = .get2) : MtR X "dict.get" (rGet X.prog X.w b) := by
  intro pins s σ H x xs v us Q I rx rs h
  obtain ⟨O, d, ds, r, hO, hd, hp, hbl, k⟩ := h
  obtain ⟨kvs, kd, more, rfl, rfl, hk, hks, hr⟩ := get_parts hb hbl
  obtain ⟨a, es, rfl, hs, hH, re, nd⟩ := hd.dictT hks
  obtain ⟨ys, hx, hpr⟩ := Inv.dictOf I hH re nd
  cases rx
  cases hp with
  | @cons _ vk _ vs hkd htl =>
    obtain ⟨kk, pa, rfl, hdp, rfl, rk⟩ := key_at hk hkd
    cases rs with
    | @cons _ _ u _ r1 rest =>
      cases r1
      have lk := re.look kk hpr
      rcases hr with ⟨rfl, rfl⟩ | ⟨xd, rfl, hpx, rfl⟩
      · cases htl
        cases rest
        refine get_keyed (knd := nestedKind X.prog X.w) (k := kk) (by show X.A.units + 1 + 8 < cLine; omega) (Rp.key I rk hdp) hs ⟨ys, hx, rfl⟩ ?_
        cases q : dget kvs kk.data with
        | none =>
          rw [q] at lk
          simp only at lk
          rw [lk]
          rw [q] at k
          exact ⟨.non, H, I.tok _, rfl, k _ _ (Same.refl H) (.im .non)⟩
        | some d =>
          rw [q] at lk
          obtain ⟨z, zv, e1, e2, e3⟩ := lk
          rw [e1]
          rw [q] at k
          exact ⟨zv, H, I.tok _, e2, k _ _ (Same.refl H) (.im e3)⟩
      · cases htl with
        | @cons _ v2 _ _ h2 h3 =>
          cases h3
          cases rest with
          | @cons _ _ u2 _ r2 r3 =>
            cases r3
            refine getOr_keyed (knd := nestedKind X.prog X.w) (k := kk) (by show X.A.units + 1 + 8 < cLine; omega) (Rp.key I rk hdp) hs ⟨ys, hx, rfl⟩ ?_
            cases q : dget kvs kk.data with
            | none =>
              rw [q] at lk
              simp only at lk
              rw [lk]
              rw [q] at k
              exact ⟨v2, H, I.tok _, r2, k _ _ (Same.refl H) (.im (h2.ofPur hpx))⟩
            | some d =>
              rw [q] at lk
              obtain ⟨z, zv, e1, e2, e3⟩ := lk
              rw [e1]
              rw [q] at k
              exact ⟨zv, H, I.tok _, e2, k _ _ (Same.refl H) (.im e3)⟩
theorem se_get (G : Gx F X N sc fns cs) {b : Bl} {o e : Expr} {es : List Expr} {i : Ex} {js : List Ex} {apos cpos : Pos} (ho : SE F X o i) (ha : SL F X (e :: es) js) (hb : b = .get1 ∨ b = .get2 := by first | exact .inl rfl | exact .inr rfl)
    (hbase : attributeBase o "get" X.env (eval o X.env) = eval o X.env := by rfl)
    (hfew : ((backTo cpos (starEach (e :: es) X.env)).all (fun x => !x.1) && (backToKw cpos (keywordEach [] X.env)).all (fun x => x.1.isSome)
      && decide ((e :: es).length + ([] : List Keyword).length + (if ([] : List Keyword).isEmpty then 0 else 1) < 30)) = true := by rfl)
    (hline : (apos.endLine == cpos.line) = true := by rfl) (hs : starEach (e :: es) X.env = (false, eval e X.env) :: starEach es X.env := by rfl) (hplain : (backTo cpos (starEach es X.env)).any (·.1) = false := by rfl) :
    SE F X (.Call (.Attribute o "get" apos) (e :: es) [] cpos) (.blt b (i :: js)) := by
  refine (pe_bmG (ty := tyD X.prog X.w) (fun I r t => tyD_is I r t) PySem.F.plainAttrs_dict PySem.F.slot_dict_get PySem.F.type_dict_get (mt_getD G.units hb) ho ha hbase hfew hline hs hplain).of fun σ H Q ⟨Of, ρ, r, E, h, k⟩ => ?_
  simp only [ev] at h
  split at h
  · rename_i rs hrs
    simp only [evL] at hrs
    split at hrs
    · rename_i x hx
      obtain ⟨rs', h1, rfl⟩ := Option.map_eq_some_iff.mp hrs
      rw [List.map_cons] at h
      obtain ⟨kvs, kd, more, e1, e2, hk, hks, _⟩ := get_parts hb h
      refine ⟨Of, ρ, x, E, hx, fun v H1 s1 p1 => ⟨?_, ?_⟩⟩
      · have p := p1.1
        rw [e1] at p
        obtain ⟨a, es', rfl, _, ⟨ep, hH⟩, _, _⟩ := p.dictT hks
        exact ⟨a, ep, es', rfl, hH⟩
      · refine ⟨Of, ρ, rs', E.same s1, h1, fun vs H2 s2 q2 => ?_⟩
        exact ⟨Ow Of ρ σ, x.2, rs'.map (·.2), r, fun p hp => ((E.same s1).same s2).fresh hp, p1.1.same s2, paired_b q2, h, fun z H3 s3 p3 => k _ _ (s1.trans (s2.trans s3)) (p3.from (s1.trans s2))⟩
    · cases hrs
  · cases h
end
end Rk

/-! sum(d.values()). -/
set_option autoImplicit false
set_option linter.all false
set_option maxRecDepth 100000
namespace Rk
open PySem PySem.Spec PyProof.Rows L2
/-- the view of a dict's values -/
def vwHO (p a : Addr) : HO := .ext fun h => h.get? p = some { cls := .type "dict_values", data := .fields #[.ref a] }
theorem vwHO_ok {P : Program} {w : World} {H : Hp} {h : Heap} {p a : Addr} (h1 : h.get? p = some { cls := .type "dict_values", data := .fields #[.ref a] }) : ObjOk P w H h p (vwHO p a) :=
  ⟨h1, ⟨_, h1⟩, fun g1 g2 q k => k _ q⟩
section
variable {F : FT} {X : Cx} {N : List Str} {sc : Scope} {fns : List (Nat × Str)} {cs : List (Str × D)}
def tBM0G (ty : V → Hp → Prop) (r : V → List V → Hp → VK → Prop) (to : TE) : TE := fun σ H Q => to σ H fun x H1 => ty x H1 ∧ r x [] H1 Q
theorem pe_bm0G {o : Expr} {to : TE} {name : Str} {apos cpos : Pos} {T id : String} {r : V → List V → Hp → VK → Prop} {ty : V → Hp → Prop}
    (hT : ∀ {pins : List (Addr × Obj)} {σ : L2.St} {H : Hp} {s : Shared} {x : V} {v : Value}, Inv X pins σ H s → RelV x v → ty x H → s.TypeIs v T ∧ ∀ a, v = .ref a → ∃ ob, s.heap.get? a = some ob ∧ ob.dict = none)
    (pa : PlainAttrs T) (slot : PySem.Slot T name id) (hty : typeOf (.builtin id) = pure (.type "method_descriptor")) (hm : MtR X id r) (ho : PE X o to)
    (hbase : attributeBase o name X.env (eval o X.env) = eval o X.env := by rfl) (hline : (apos.endLine == cpos.line) = true := by rfl) : PE X (.Call (.Attribute o name apos) [] [] cpos) (tBM0G ty r to) := by
  refine ⟨fun pins s σ H Q I h => ?_⟩
  refine wpAny_Call_method0_late hbase hline (thn (ho.run pins s σ H _ I h) fun v s1 ⟨x, H1, I1, r1, ty, q1⟩ => ?_)
  obtain ⟨h1, h2⟩ := hT I1 r1 ty
  exact ⟨T, id, pa, slot, hty, h1, h2, Calls.callWith_builtin rfl (PySem.evalArgs_none (hm pins s1 σ H1 x [] v [] Q I1 r1 .nil q1))⟩
theorem meets_valuesRaw {prog : Program} {w : World} (d : Addr) (hd : (d == sysModules) = false) :
    MeetsIn prog w (Builtin.«dict.values» ⟨[.ref d], []⟩) (fun _ R s => s.TypeIs (.ref d) "dict" ∧
      R (.ok (.ret (.ref s.heap.objs.size))) { s with heap := s.heap.push { cls := .type "dict_values", data := .fields #[.ref d] } }) :=
  .of_wp fun A R s ⟨hm, h⟩ => by
    refine wpAny_bind ?_
    unfold Builtin.Dict.noArgs
    refine wpAny_bind (wpAny_notOrdered_dict hm ?_)
    show wpAny _ _ (pure d) _ _ s
    refine wpAny_pure ?_
    show wpAny _ _ (Builtin.Dict.showsAll d >>= _) _ _ s
    unfold Builtin.Dict.showsAll
    rw [if_neg (by rw [hd]; exact Bool.false_ne_true)]
    refine wpAny_bind (wpAny_pure ?_)
    exact wpAny_bind (wpAny_newObj_type (wpAny_pure ⟨_, rfl, h⟩))
def rVals (P : Program) (w : World) : V → List V → Hp → VK → Prop := fun x xs H Q => ∃ a ep es, x = .ref a ∧ xs = [] ∧ (a == sysModules) = false ∧ H a = some (dHO P w a ep es) ∧ ∀ p, H p = none → Q (.ref p) (upd H p (vwHO p a))
theorem mt_values : MtR X "dict.values" (rVals X.prog X.w) := by
  intro pins s σ H x xs v us Q I rx rs h
  obtain ⟨a, ep, es, rfl, rfl, hs, hH, k⟩ := h
  have ty := (tyD_is I rx ⟨a, ep, es, rfl, hH⟩).1
  cases rx
  cases rs
  refine call_meetsIn PySem.F.slot_dict_values ty PySem.F.entry_dict_values (PySem.F.args_dict_values_1 _) (meets_valuesRaw a hs) ⟨ty, ?_⟩
  have hn : H s.heap.objs.size = none := I.hok.fresh (Nat.le_refl _)
  exact ⟨.ref s.heap.objs.size, _, I.laid (a := s.heap.objs.size) (o := vwHO s.heap.objs.size a) (t' := s.toks) (fun b o e => Heap.get?_push_of_some _ e) (Nat.le_refl _) (vwHO_ok (Heap.get?_push_size _ rfl)), rfl, k _ hn⟩
/-- whole numbers as values -/
def IntsAre : List (NestedKey × Addr × V) → List Int → Prop := Paired fun e i => e.2.2 = .int i
def rSumV (P : Program) (w : World) : List V → Hp → VK → Prop := fun xs H Q => ∃ p a ep es is, xs = [.ref p] ∧ H p = some (vwHO p a) ∧ H a = some (dHO P w a ep es) ∧ IntsAre es is ∧ Q (.int is.sum) H
theorem preSum_eq : ∀ (is : List Int) (f : Nat → Int), (∀ i x, is[i]? = some x → f i = x) → preSum f is.length = is.sum
  | [], f, _ => rfl
  | x :: is, f, h => by
    rw [List.length_cons, PySem.W.kdu_shift, List.sum_cons, h 0 x rfl, preSum_eq is (fun i => f (i + 1)) fun i y hy => h (i + 1) y (by simpa using hy)]
theorem cr_sumV (hc : X.calm = true) : CallR X (.builtin "sum") (rSumV X.prog X.w) := by
  intro pins s σ H xs us Q I r h
  obtain ⟨p, a, ep, es, is, rfl, hp, ha, hi, q⟩ := h
  rw [Vals.ref1 r]
  obtain ⟨h1, _, _⟩ := (show ObjOk X.prog X.w H s.heap p (vwHO p a) from I.hok p _ hp)
  obtain ⟨⟨o, ents, ys, g1, g2, g3, g4, g5⟩, _, _⟩ := (show ObjOk X.prog X.w H s.heap a (dHO X.prog X.w a ep es) from I.hok a _ ha)
  have K := KdlSrc.rawValues (prog := X.prog) (w := X.w) (r := p) (d := a) (es := ents) (ep := ep)
  have hok : s.heap.IsValuesView p a ∧ s.heap.DictRaw a ents ep := ⟨⟨_, h1, rfl, rfl⟩, ⟨o, g1, g2, g3⟩⟩
  have hlen : ents.size = is.length := by
    rw [← Array.length_toList, g4, List.length_map, ← Paired.length g5, Paired.length hi]
  have hval : ∀ (i : Nat) (v : Value), (∃ hi : i < ents.size, v = ents[i].val) → ∃ t : Tok, v = Value.int ((is[i]?).getD 0) t := fun i v ⟨hlt, e⟩ => by
    have e1 : ents.toList[i]? = some ents[i] := by rw [Array.getElem?_toList, Array.getElem?_eq_getElem hlt]
    rw [g4, List.getElem?_map] at e1
    obtain ⟨y, hy, ey⟩ := Option.map_eq_some_iff.mp e1
    obtain ⟨z, hz, _, _, rz⟩ : ∃ z, es[i]? = some z ∧ z.1 = y.1 ∧ z.2.1 = y.2.1 ∧ RelV z.2.2 y.2.2 := paired_get g5 hy
    obtain ⟨j, hj, ej⟩ : ∃ j, is[i]? = some j ∧ z.2.2 = .int j := paired_get' hi hz
    rw [ej] at rz
    obtain ⟨t, et⟩ := rz
    refine ⟨t, ?_⟩
    rw [hj, e, ← ey]
    exact et
  refine call_sum_walkAnyS ?_
  obtain ⟨oI, St, hit, W, st⟩ := K.iter X.A.in1 s (I.ok.hd hc) hok
  refine hit _ _ ⟨s.heap.objs.size, _, _, _, ents.size, _, _, fun i => (is[i]?).getD 0, rfl, W.toS, st, fun b hb => ?_, hval, fun s' t' hm => ?_⟩
  · show b < (s.heap.push oI).objs.size
    rw [PyProof.Rows.size_push']
    rcases List.mem_cons.mp hb with e | hb
    · rw [e]; exact Nat.lt_succ_self _
    · rw [List.mem_singleton.mp hb]; exact Nat.lt_succ_of_lt (K.there _ hok).2
  · have hk : ∀ b o, s.heap.get? b = some o → s'.heap.get? b = some o := fun b o e =>
      hm.heap b o (fun hI => absurd (Heap.lt_size e) (by rw [List.mem_singleton.mp hI]; exact Nat.lt_irrefl _)) (Heap.get?_push_of_some _ e)
    rw [Moved.eq_with hm]
    have es : preSum (fun i => (is[i]?).getD 0) ents.size = is.sum := by
      rw [hlen]
      exact preSum_eq is _ fun i x hx => by rw [hx]; rfl
    rw [es]
    exact ⟨.int is.sum, H, I.kept (t' := s'.toks) hk, ⟨_, rfl⟩, q⟩
where
  paired_get {α β : Type} {R : α → β → Prop} : ∀ {l : List α} {m : List β} {i : Nat} {y : β}, Paired R l m → m[i]? = some y → ∃ z, l[i]? = some z ∧ R z y
  | _, _, _, _, .nil, h => by simp at h
  | _, _, 0, _, .cons r _, h => by simp at h; subst h; exact ⟨_, rfl, r⟩
  | _, _, i + 1, _, .cons _ t, h => by simpa using paired_get t (by simpa using h)
  paired_get' {α β : Type} {R : α → β → Prop} : ∀ {l : List α} {m : List β} {i : Nat} {z : α}, Paired R l m → l[i]? = some z → ∃ y, m[i]? = some y ∧ R z y
  | _, _, _, _, .nil, h => by simp at h
  | _, _, 0, _, .cons r _, h => by simp at h; subst h; exact ⟨_, rfl, r⟩
  | _, _, i + 1, _, .cons _ t, h => by simpa using paired_get' t (by simpa using h)
theorem ints_rpe {P : Program} {w : World} {H : Hp} {O : Addr → Prop} : ∀ {kvs : List (D × D)} {es : List (NestedKey × Addr × V)} {is : List Int}, Rpe P w H O kvs es → intsOf (kvs.map (·.2)) = some is → IntsAre es is
  | _, _, is, .nil, h => by
    simp only [List.map_nil, intsOf, Option.some.injEq] at h
    subst h
    exact .nil
  | _, _, is, .cons (x := x) a n c t, h => by
    cases c with
    | int i =>
      simp only [List.map_cons, intsOf] at h
      obtain ⟨r, h1, rfl⟩ := Option.map_eq_some_iff.mp h
      exact .cons rfl (ints_rpe t h1)
    | non => simp [intsOf] at h
    | bl b => simp [intsOf] at h
    | str b => simp [intsOf] at h
    | lst n r s => simp [intsOf] at h
    | tup n r s => simp [intsOf] at h
    | dic n y e s u => simp [intsOf] at h
    | dik n e s u => simp [intsOf] at h
theorem se_sumV (G : Gx F X N sc fns cs) {o : Expr} {i : Ex} {p1 apos cpos pos : Pos} (ho : SE F X o i) (hg : sc.names.lookup ("sum" : Str) = some .globalImplicit := by rfl)
    (hbase : attributeBase o "values" X.env (eval o X.env) = eval o X.env := by rfl) (hline : (apos.endLine == cpos.line) = true := by rfl)
    (hs1 : starEach [.Call (.Attribute o "values" apos) [] [] cpos] X.env = (false, eval (.Call (.Attribute o "values" apos) [] [] cpos) X.env) :: starEach [] X.env := by rfl) :
    SE F X (.Call (.Name "sum" p1) [.Call (.Attribute o "values" apos) [] [] cpos] [] pos) (.blt .sumV [i]) := by
  have inner := pe_bm0G (ty := tyD X.prog X.w) (cpos := cpos) (apos := apos) (fun I r t => tyD_is I r t) PySem.F.plainAttrs_dict PySem.F.slot_dict_values PySem.F.type_dict_values mt_values ho hbase hline
  have outer := pe_callB (pos := pos) (p := p1) (cr_sumV G.calm) (show X.env.kindOf ("sum" : Str) = some .globalImplicit by unfold Env.kindOf; rw [G.hsc]; exact hg) (G.blt _ (by decide)) boot_sum (pa_cons inner pa_nil hs1) (by decide) (by decide) hs1 rfl
  refine outer.of fun σ H Q ⟨Of, ρ, r, E, h, k⟩ => ?_
  simp only [ev] at h
  split at h
  · rename_i rs hrs
    obtain ⟨r0, hr0, rfl⟩ := evL_one hrs
    obtain ⟨t, d⟩ := r0
    cases d with
    | dict kvs =>
      simp only [List.map_cons, List.map_nil, bltD] at h
      split at h
      · rename_i hk
        obtain ⟨is, h1, rfl⟩ := Option.map_eq_some_iff.mp h
        refine ⟨Of, ρ, _, E, hr0, fun v H1 s1 p1 => ?_⟩
        obtain ⟨a, es, rfl, hsm, ⟨ep, hH⟩, re, nd⟩ := p1.1.dictT hk
        refine ⟨⟨a, ep, es, rfl, hH⟩, a, ep, es, rfl, rfl, hsm, hH, fun p hp => ?_⟩
        have sp := same_new (o := vwHO p a) hp
        refine ⟨p, a, ep, es, is, rfl, upd_same, sp _ _ hH, ints_rpe re h1, k _ _ (s1.trans sp) (.im (.int _))⟩
      · cases h
    | _ => simp [bltD] at h
  · cases h
end
end Rk

/-! The last step: from the interpreter's word to the law. -/
set_option autoImplicit false
set_option linter.all false
set_option maxRecDepth 100000
namespace Rk
open PySem PySem.Spec PyProof.Rows L2
theorem all_nil {α : Type} {p : α → Prop} : ∀ x ∈ ([] : List α), p x := fun _ h => by cases h
theorem all_cons {α : Type} {p : α → Prop} {a : α} {l : List α} (h : p a) (t : ∀ x ∈ l, p x) : ∀ x ∈ a :: l, p x := fun x hx => by
  rcases List.mem_cons.mp hx with e | e
  · rw [e]; exact h
  · exact t x e
abbrev ConOk (mg : Str → Option Value) (p : Str × D) : Prop := ∃ v u, cV p.2 = some v ∧ mg p.1 = some u ∧ RelV v u
theorem con_str {mg : Str → Option Value} {x z : Str} (h : ∃ t, mg x = some (.str z t)) : ConOk mg (x, .str z) := let ⟨t, e⟩ := h; ⟨.str z, _, rfl, e, t, rfl⟩
theorem con_int {mg : Str → Option Value} {x : Str} {z : Int} (h : ∃ t, mg x = some (.int z t)) : ConOk mg (x, .int z) := let ⟨t, e⟩ := h; ⟨.int z, _, rfl, e, t, rfl⟩
theorem con_all {mg : Str → Option Value} {cs : List (Str × D)} (h : ∀ p ∈ cs, ConOk mg p) : ∀ x d, (x, d) ∈ cs → ∃ v u, cV d = some v ∧ mg x = some u ∧ RelV v u := fun x d m => h (x, d) m
theorem rps_ints {P : Program} {w : World} {H : Hp} {O : Addr → Prop} : ∀ ns : List Int, Rps P w H O (ns.map .int) (ns.map V.int)
  | [] => .nil
  | n :: ns => .cons (.int n) (rps_ints ns)
/-- the promise at the script -/
theorem law_sp {P : Program} {w : World} {F : FT} {f : Nat} {ns : List Int} {a : Addr} {H : Hp} {E : XK} (h : F f [.list (ns.map .int)] = some (false, .bool true)) (r : Rd H a (.lst (ns.map V.int))) : spI P w F f [.ref a] H (fun v _ => v = .bl true) E :=
  ⟨fun _ => False, _, _, fun _ z => z.elim, .cons (.lst (fun z => z) r (rps_ints ns)) .nil, h, fun v H' _ q _ => by cases q; rfl⟩
end Rk

set_option autoImplicit false
set_option maxRecDepth 100000
namespace K52
open PySem Rk
/-- 0 is_int(value, least, most): 0=value 1=least 2=most -/
def f_is_int : Fn := ⟨3, 3, [.ret (.and (.blt .isInt [.v 0]) (.and (.not (.blt .isBool [.v 0])) (.le2 (.v 1) (.v 0) (.v 2))))]⟩
/-- 1 is_rising(values): 0=values 1=one 2=other -/
def f_is_rising : Fn := ⟨1, 3, [.ret (.blt .all [.comp (.tp [1, 2]) .zip [.v 0, .from_ (.v 0) (.c (.int 1))] (.cmp .lt (.v 1) (.v 2))])]⟩
/-- 2 is_word(candidate): 0=candidate 1=sign -/
def f_is_word : Fn := ⟨1, 2, [.ite (.or (.not (.blt .isStr [.v 0])) (.not (.le2 (.c (.int 1)) (.blt .len [.v 0]) (.c (.int 6))))) [.ret (.c (.bool false))] [],
    .ret (.blt .all [.comp (.nm 1) .seq [.v 0] (.cmp .isin (.v 1) (.c (.str "abcdefghijklmnopqrstuvwxyz")))])]⟩
/-- 3 are_marks(candidate): 0=candidate 1=sign -/
def f_are_marks : Fn := ⟨1, 2, [.ret (.and (.blt .isStr [.v 0]) (.and (.blt .all [.comp (.nm 1) .seq [.v 0] (.cmp .isin (.v 1) (.c (.str "abcd")))]) (.call 1 [.v 0])))]⟩
/-- 4 are_apart(one, other): 0=one 1=other 2=mark -/
def f_are_apart : Fn := ⟨2, 3, [.ret (.and (.call 3 [.v 0]) (.and (.call 3 [.v 1]) (.not (.blt .any [.comp (.nm 2) .seq [.v 0] (.cmp .isin (.v 2) (.v 1))]))))]⟩
/-- 5 is_outcome(many, value): 0=many 1=value -/
def f_is_outcome : Fn := ⟨2, 2, [.ite (.or (.not (.blt .isTuple [.v 1])) (.cmp .ne (.blt .len [.v 1]) (.c (.int 3)))) [.ret (.c (.bool false))] [],
    .ret (.and (.call 0 [.idx (.v 1) (.c (.int 0)), .c (.int 0), .bin .sub (.v 0) (.c (.int 1))]) (.call 4 [.idx (.v 1) (.c (.int 1)), .idx (.v 1) (.c (.int 2))]))]⟩
/-- 6 is_option(many, value): 0=many 1=value 2=label 3=must 4=mustnot 5=outcomes 6=outcome -/
def f_is_option : Fn := ⟨2, 7, [.ite (.or (.not (.blt .isTuple [.v 1])) (.cmp .ne (.blt .len [.v 1]) (.c (.int 4)))) [.ret (.c (.bool false))] [],
    .set (.tp [2, 3, 4, 5]) (.v 1),
    .ite (.or (.not (.call 2 [.v 2])) (.not (.call 4 [.v 3, .v 4]))) [.ret (.c (.bool false))] [],
    .ite (.or (.not (.blt .isTuple [.v 5])) (.not (.le2 (.c (.int 1)) (.blt .len [.v 5]) (.c (.int 2))))) [.ret (.c (.bool false))] [],
    .ret (.and (.blt .all [.comp (.nm 6) .seq [.v 5] (.call 5 [.v 0, .v 6])]) (.call 1 [.v 5]))]⟩
/-- 7 is_passage(many, value): 0=many 1=value 2=text 3=shows 4=options 5=option -/
def f_is_passage : Fn := ⟨2, 6, [.ite (.or (.not (.blt .isTuple [.v 1])) (.cmp .ne (.blt .len [.v 1]) (.c (.int 3)))) [.ret (.c (.bool false))] [],
    .set (.tp [2, 3, 4]) (.v 1),
    .ite (.or (.not (.call 2 [.v 2])) (.or (.not (.call 3 [.v 3])) (.or (.not (.blt .isTuple [.v 4])) (.cmp .gt (.blt .len [.v 4]) (.c (.int 4)))))) [.ret (.c (.bool false))] [],
    .ret (.and (.blt .all [.comp (.nm 5) .seq [.v 4] (.call 6 [.v 0, .v 5])]) (.call 1 [.comp (.nm 5) .seq [.v 4] (.idx (.v 5) (.c (.int 0)))]))]⟩
/-- 8 is_story(candidate): 0=candidate 1=starts 2=passages 3=passage 4=start -/
def f_is_story : Fn := ⟨1, 5, [.ite (.or (.not (.blt .isTuple [.v 0])) (.cmp .ne (.blt .len [.v 0]) (.c (.int 2)))) [.ret (.c (.bool false))] [],
    .set (.tp [1, 2]) (.v 0),
    .ite (.or (.not (.blt .isTuple [.v 1])) (.not (.le2 (.c (.int 1)) (.blt .len [.v 1]) (.c (.int 4))))) [.ret (.c (.bool false))] [],
    .ite (.or (.not (.blt .all [.comp (.nm 4) .seq [.v 1] (.call 3 [.v 4])])) (.not (.call 1 [.v 1]))) [.ret (.c (.bool false))] [],
    .ite (.or (.not (.blt .isTuple [.v 2])) (.not (.le2 (.c (.int 1)) (.blt .len [.v 2]) (.c (.int 6))))) [.ret (.c (.bool false))] [],
    .ret (.blt .all [.comp (.nm 3) .seq [.v 2] (.call 7 [.blt .len [.v 2], .v 3])])]⟩
/-- 9 check_story(value): 0=value -/
def f_check_story : Fn := ⟨1, 1, [.ite (.not (.call 8 [.v 0])) [.fail] []]⟩
/-- 10 find_firsts(story): 0=story 1=number 2=marks -/
def f_find_firsts : Fn := ⟨1, 3, [.ret (.comp (.tp [1, 2]) .enum [.idx (.v 0) (.c (.int 0))] (.tup [.v 1, .c (.int 0), .v 2]))]⟩
/-- 11 is_offered(option, marks): 0=option 1=marks 2=mark -/
def f_is_offered : Fn := ⟨2, 3, [.ret (.and (.blt .all [.comp (.nm 2) .seq [.idx (.v 0) (.c (.int 1))] (.cmp .isin (.v 2) (.v 1))]) (.not (.blt .any [.comp (.nm 2) .seq [.idx (.v 0) (.c (.int 2))] (.cmp .isin (.v 2) (.v 1))])))]⟩
/-- 12 options_at(story, state): 0=story 1=state 2=option -/
def f_options_at : Fn := ⟨2, 3, [.ret (.compIf (.nm 2) .seq [.idx (.idx (.idx (.v 0) (.c (.int 1))) (.idx (.v 1) (.c (.int 1)))) (.c (.int 2))] (.call 11 [.v 2, .idx (.v 1) (.c (.int 2))]) (.v 2))]⟩
/-- 13 find_offered(story, state): 0=story 1=state 2=option -/
def f_find_offered : Fn := ⟨2, 3, [.ret (.comp (.nm 2) .seq [.call 12 [.v 0, .v 1]] (.idx (.v 2) (.c (.int 0))))]⟩
/-- 14 changed(marks, sets, clears): 0=marks 1=sets 2=clears 3=mark -/
def f_changed : Fn := ⟨3, 4, [.ret (.blt .join [.c (.str ""), .compIf (.nm 3) .seq [.c (.str "abcd")] (.and (.or (.cmp .isin (.v 3) (.v 0)) (.cmp .isin (.v 3) (.v 1))) (.cmp .notin (.v 3) (.v 2))) (.v 3)])]⟩
/-- 15 outcomes_at(story, state, label): 0=story 1=state 2=label 3=found 4=option 5=passage 6=sets 7=clears -/
def f_outcomes_at : Fn := ⟨3, 8, [.set (.nm 3) (.lst []),
    .for_ (.nm 4) .seq [.call 12 [.v 0, .v 1]] [.ite (.cmp .eq (.idx (.v 4) (.c (.int 0))) (.v 2)) [.for_ (.tp [5, 6, 7]) .seq [.idx (.v 4) (.c (.int 3))] [.app 3 (.tup [.idx (.v 1) (.c (.int 0)), .v 5, .call 14 [.idx (.v 1) (.c (.int 2)), .v 6, .v 7]])]] []],
    .ret (.v 3)]⟩
/-- 16 find_next(story, state, label): 0=story 1=state 2=label -/
def f_find_next : Fn := ⟨3, 3, [.ret (.blt .sortedSet [.call 15 [.v 0, .v 1, .v 2]])]⟩
/-- 17 steps_from(story, state): 0=story 1=state 2=found 3=label -/
def f_steps_from : Fn := ⟨2, 4, [.set (.nm 2) (.lst []),
    .for_ (.nm 3) .seq [.call 13 [.v 0, .v 1]] [.ext 2 (.call 16 [.v 0, .v 1, .v 3])],
    .ret (.blt .sortedSet [.v 2])]⟩
/-- 18 states_ahead(story, states): 0=story 1=states 2=known 3=last 4=state -/
def f_states_ahead : Fn := ⟨2, 5, [.par [2, 3] [.emp, .blt .list [.v 1]],
    .whl (.cmp .ne (.v 3) (.lst [])) [.pop 4 3,
    .ite (.cmp .notin (.v 4) (.v 2)) [.put 2 (.v 4) (.call 17 [.v 0, .v 4]),
    .ext 3 (.idx (.v 2) (.v 4))] []],
    .ret (.v 2)]⟩
/-- 19 find_met(story): 0=story -/
def f_find_met : Fn := ⟨1, 1, [.ret (.call 18 [.v 0, .call 10 [.v 0]])]⟩
/-- 27 find_count(story, many): 0=story 1=many 2=counts 3=turn 4=later 5=state 6=other -/
def f_find_count : Fn := ⟨2, 7, [.set (.nm 2) (.blt .dictOf [.comp (.nm 5) .seq [.call 10 [.v 0]] (.tup [.v 5, .c (.int 1)])]),
    .for_ (.nm 3) .range1 [.v 1] [.set (.nm 4) (.emp),
    .for_ (.nm 5) .seq [.v 2] [.for_ (.nm 6) .seq [.call 17 [.v 0, .v 5]] [.put 4 (.v 6) (.bin .add (.blt .get2 [.v 4, .v 6, .c (.int 0)]) (.idx (.v 2) (.v 5)))]],
    .set (.nm 2) (.v 4)],
    .ret (.blt .sumV [.v 2])]⟩
/-- 28 count_plays(story, many): 0=story 1=many -/
def f_count_plays : Fn := ⟨2, 2, [.exp (.call 9 [.v 0]),
    .ite (.not (.call 0 [.v 1, .c (.int 0), .c (.int 20)])) [.fail] [],
    .ret (.call 27 [.v 0, .v 1])]⟩
/-- 40 find_ends(story): 0=story 1=met 2=state -/
def f_find_ends : Fn := ⟨1, 3, [.set (.nm 1) (.call 19 [.v 0]),
    .ret (.blt .sorted [.compIf (.nm 2) .seq [.v 1] (.cmp .eq (.idx (.v 1) (.v 2)) (.lst [])) (.v 2)])]⟩
/-- 41 met_ends(story): 0=story -/
def f_met_ends : Fn := ⟨1, 1, [.exp (.call 9 [.v 0]),
    .ret (.call 40 [.v 0])]⟩
/-- 42 end_texts(story): 0=story 1=state -/
def f_end_texts : Fn := ⟨1, 2, [.exp (.call 9 [.v 0]),
    .ret (.blt .sortedSet [.comp (.nm 1) .seq [.call 40 [.v 0]] (.idx (.idx (.idx (.v 0) (.c (.int 1))) (.idx (.v 1) (.c (.int 1)))) (.c (.int 0)))])]⟩
/-- 43 find_traps(story): 0=story 1=met 2=good 3=size 4=state 5=other -/
def f_find_traps : Fn := ⟨1, 6, [.set (.nm 1) (.call 19 [.v 0]),
    .set (.nm 2) (.blt .dictOf [.compIf (.nm 4) .seq [.v 1] (.cmp .eq (.idx (.v 1) (.v 4)) (.lst [])) (.tup [.v 4, .c (.bool true)])]),
    .set (.nm 3) (.c (.int (-1))),
    .whl (.cmp .ne (.v 3) (.blt .len [.v 2])) [.set (.nm 3) (.blt .len [.v 2]),
    .for_ (.nm 4) .seq [.v 1] [.ite (.blt .any [.comp (.nm 5) .seq [.idx (.v 1) (.v 4)] (.cmp .isin (.v 5) (.v 2))]) [.put 2 (.v 4) (.c (.bool true))] []]],
    .ret (.blt .sorted [.compIf (.nm 4) .seq [.v 1] (.cmp .notin (.v 4) (.v 2)) (.v 4)])]⟩
/-- 44 traps(story): 0=story -/
def f_traps : Fn := ⟨1, 1, [.exp (.call 9 [.v 0]),
    .ret (.call 43 [.v 0])]⟩
/-- 45 is_round(met, state): 0=met 1=state 2=known 3=last 4=other -/
def f_is_round : Fn := ⟨2, 5, [.par [2, 3] [.emp, .blt .list [.idx (.v 0) (.v 1)]],
    .whl (.cmp .ne (.v 3) (.lst [])) [.pop 4 3,
    .ite (.cmp .eq (.v 4) (.v 1)) [.ret (.c (.bool true))] [],
    .ite (.cmp .notin (.v 4) (.v 2)) [.put 2 (.v 4) (.c (.bool true)),
    .ext 3 (.idx (.v 0) (.v 4))] []],
    .ret (.c (.bool false))]⟩
/-- 46 find_rounds(story): 0=story 1=met 2=state -/
def f_find_rounds : Fn := ⟨1, 3, [.set (.nm 1) (.call 19 [.v 0]),
    .ret (.blt .sorted [.compIf (.nm 2) .seq [.v 1] (.call 45 [.v 1, .v 2]) (.v 2)])]⟩
/-- 47 rounds(story): 0=story -/
def f_rounds : Fn := ⟨1, 1, [.exp (.call 9 [.v 0]),
    .ret (.call 46 [.v 0])]⟩
/-- 48 longest_play(story): 0=story 1=met 2=level 3=many 4=later 5=state -/
def f_longest_play : Fn := ⟨1, 6, [.exp (.call 9 [.v 0]),
    .ite (.cmp .ne (.call 46 [.v 0]) (.lst [])) [.ret (.c (.none))] [],
    .par [1, 2, 3] [.call 19 [.v 0], .call 10 [.v 0], .c (.int 0)],
    .whl (.cmp .ne (.v 2) (.lst [])) [.set (.nm 4) (.lst []),
    .for_ (.nm 5) .seq [.v 2] [.ext 4 (.idx (.v 1) (.v 5))],
    .par [2, 3] [.blt .sortedSet [.v 4], .bin .add (.v 3) (.c (.int 1))]],
    .ret (.bin .sub (.v 3) (.c (.int 1)))]⟩
/-- 34 _law_pick(script, k, many): 0=script 1=k 2=many 3=cell 4=drawn 5=rest 6=again -/
def f__law_pick : Fn := ⟨3, 7, [.set (.nm 3) (.ite (.cmp .ne (.v 0) (.lst [])) (.idx (.v 0) (.bin .mod (.blt .int [.v 1]) (.blt .len [.v 0]))) (.c (.int 0))),
    .par [5, 6] [.bin .fdiv (.v 3) (.bin .pow (.c (.int 10)) (.c (.int 18))), .bin .fdiv (.v 1) (.blt .max2 [.blt .len [.v 0], .c (.int 1)])],
    .whl (.and (.cmp .gt (.v 5) (.c (.int 0))) (.cmp .gt (.v 6) (.c (.int 0)))) [.par [5, 6] [.bin .fdiv (.v 5) (.c (.int 840)), .bin .sub (.v 6) (.c (.int 1))]],
    .ite (.cmp .gt (.v 5) (.c (.int 0))) [.ret (.bin .mod (.blt .int [.bin .mod (.blt .int [.v 5]) (.c (.int 840))]) (.v 2))] [],
    .set (.nm 4) (.bin .mod (.blt .int [.bin .mul (.bin .add (.bin .mul (.v 3) (.c (.int 31))) (.bin .mul (.c (.int 6151)) (.bin .add (.v 1) (.c (.int 1))))) (.c (.int 40692))]) (.c (.int 2147483399))),
    .ret (.bin .mod (.blt .int [.bin .mod (.blt .int [.bin .add (.bin .mul (.v 4) (.v 4)) (.bin .fdiv (.v 4) (.c (.int 31)))]) (.c (.int 2147483629))]) (.v 2))]⟩
/-- 35 _law_option(script, at, many, label): 0=script 1=at 2=many 3=label 4=found 5=k 6=must 7=mustnot 8=sets 9=clears 10=n -/
def f__law_option : Fn := ⟨4, 11, [.set (.tp [6, 7]) (.comp (.nm 5) .range1 [.c (.int 2)] (.idx (.tup [.c (.str ""), .c (.str ""), .c (.str "a"), .c (.str "b")]) (.call 34 [.v 0, .bin .add (.v 1) (.v 5), .c (.int 4)]))),
    .set (.nm 4) (.lst []),
    .for_ (.nm 5) .range1 [.bin .add (.c (.int 1)) (.bin .fdiv (.call 34 [.v 0, .bin .add (.v 1) (.c (.int 2)), .c (.int 4)]) (.c (.int 3)))] [.set (.tp [8, 9]) (.comp (.nm 10) .range1 [.c (.int 2)] (.idx (.tup [.c (.str ""), .c (.str ""), .c (.str "a"), .c (.str "b")]) (.call 34 [.v 0, .bin .add (.bin .add (.bin .add (.v 1) (.c (.int 3))) (.bin .mul (.c (.int 3)) (.v 5))) (.v 10), .c (.int 4)]))),
    .app 4 (.tup [.call 34 [.v 0, .bin .add (.bin .add (.v 1) (.c (.int 5))) (.bin .mul (.c (.int 3)) (.v 5)), .v 2], .v 8, .ite (.cmp .ne (.v 9) (.v 8)) (.v 9) (.c (.str ""))])],
    .ret (.tup [.v 3, .v 6, .ite (.cmp .ne (.v 7) (.v 6)) (.v 7) (.c (.str "")), .blt .tuple [.blt .sortedSet [.v 4]]])]⟩
/-- 36 _law_story(script, at): 0=script 1=at 2=starts 3=number 4=many 5=passages 6=spot 7=labels 8=options 9=text 10=k 11=label -/
def f__law_story : Fn := ⟨2, 12, [.par [4, 5] [.bin .add (.c (.int 2)) (.call 34 [.v 0, .v 1, .c (.int 3)]), .lst []],
    .set (.nm 2) (.comp (.nm 10) .range1 [.bin .add (.c (.int 1)) (.call 34 [.v 0, .bin .add (.v 1) (.c (.int 5)), .c (.int 3)])] (.idx (.tup [.c (.str ""), .c (.str "a"), .c (.str "b"), .c (.str "ab")]) (.call 34 [.v 0, .bin .add (.bin .add (.v 1) (.c (.int 1))) (.v 10), .c (.int 4)]))),
    .for_ (.nm 3) .range1 [.v 4] [.set (.nm 6) (.bin .add (.bin .add (.v 1) (.c (.int 10))) (.bin .mul (.c (.int 40)) (.v 3))),
    .set (.nm 7) (.comp (.nm 10) .range1 [.call 34 [.v 0, .bin .add (.v 6) (.c (.int 3)), .c (.int 4)]] (.idx (.tup [.c (.str "go"), .c (.str "left"), .c (.str "up")]) (.call 34 [.v 0, .bin .add (.v 6) (.v 10), .c (.int 3)]))),
    .set (.nm 7) (.blt .sortedSet [.v 7]),
    .set (.nm 8) (.comp (.tp [10, 11]) .enum [.v 7] (.call 35 [.v 0, .bin .add (.bin .add (.v 6) (.c (.int 6))) (.bin .mul (.c (.int 9)) (.v 10)), .v 4, .v 11])),
    .set (.nm 9) (.idx (.tup [.c (.str "cave"), .c (.str "hall"), .c (.str "cave"), .c (.str "lake")]) (.call 34 [.v 0, .bin .add (.v 6) (.c (.int 4)), .c (.int 4)])),
    .app 5 (.tup [.v 9, .idx (.tup [.c (.str ""), .c (.str ""), .c (.str "a"), .c (.str "b")]) (.call 34 [.v 0, .bin .add (.v 6) (.c (.int 5)), .c (.int 4)]), .blt .tuple [.v 8]])],
    .ret (.tup [.blt .tuple [.blt .sortedSet [.v 2]], .blt .tuple [.v 5]])]⟩
/-- 30 _law_open(option, marks): 0=option 1=marks 2=mark -/
def f__law_open : Fn := ⟨2, 3, [.ret (.and (.blt .all [.comp (.nm 2) .seq [.idx (.v 0) (.c (.int 1))] (.cmp .isin (.v 2) (.v 1))]) (.not (.blt .any [.comp (.nm 2) .seq [.idx (.v 0) (.c (.int 2))] (.cmp .isin (.v 2) (.v 1))])))]⟩
/-- 31 _law_goes(story, state, label): 0=story 1=state 2=label 3=found 4=option 5=start 6=passage 7=marks 8=other 9=sets 10=clears 11=left 12=mark -/
def f__law_goes : Fn := ⟨3, 13, [.set (.tp [5, 6, 7]) (.v 1),
    .set (.nm 3) (.lst []),
    .for_ (.nm 4) .seq [.idx (.idx (.idx (.v 0) (.c (.int 1))) (.v 6)) (.c (.int 2))] [.ite (.and (.cmp .eq (.idx (.v 4) (.c (.int 0))) (.v 2)) (.call 30 [.v 4, .v 7])) [.for_ (.tp [8, 9, 10]) .seq [.idx (.v 4) (.c (.int 3))] [.set (.nm 11) (.compIf (.nm 12) .seq [.c (.str "abcd")] (.and (.cmp .isin (.v 12) (.bin .add (.v 7) (.v 9))) (.cmp .notin (.v 12) (.v 10))) (.v 12)),
    .app 3 (.tup [.v 5, .v 8, .blt .join [.c (.str ""), .v 11]])]] []],
    .ret (.blt .sortedSet [.v 3])]⟩
/-- 32 _law_steps(story, state): 0=story 1=state 2=found 3=option -/
def f__law_steps : Fn := ⟨2, 4, [.set (.nm 2) (.lst []),
    .for_ (.nm 3) .seq [.idx (.idx (.idx (.v 0) (.c (.int 1))) (.idx (.v 1) (.c (.int 1)))) (.c (.int 2))] [.ext 2 (.call 31 [.v 0, .v 1, .idx (.v 3) (.c (.int 0))])],
    .ret (.blt .sortedSet [.v 2])]⟩
/-- 37 _law_met(story, firsts): 0=story 1=firsts 2=known 3=last 4=state -/
def f__law_met : Fn := ⟨2, 5, [.par [2, 3] [.emp, .blt .list [.v 1]],
    .whl (.cmp .ne (.v 3) (.lst [])) [.pop 4 3,
    .ite (.cmp .notin (.v 4) (.v 2)) [.put 2 (.v 4) (.call 32 [.v 0, .v 4]),
    .ext 3 (.idx (.v 2) (.v 4))] []],
    .ret (.v 2)]⟩
/-- 29 _law_firsts(story): 0=story 1=number 2=marks -/
def f__law_firsts : Fn := ⟨1, 3, [.ret (.comp (.tp [1, 2]) .enum [.idx (.v 0) (.c (.int 0))] (.tup [.v 1, .c (.int 0), .v 2]))]⟩
/-- 49 _law_longest(met, firsts): 0=met 1=firsts 2=level 3=many 4=later 5=state -/
def f__law_longest : Fn := ⟨2, 6, [.par [2, 3] [.blt .list [.v 1], .c (.int 0)],
    .whl (.cmp .le (.v 3) (.blt .len [.v 0])) [.set (.nm 4) (.lst []),
    .for_ (.nm 5) .seq [.v 2] [.ext 4 (.idx (.v 0) (.v 5))],
    .ite (.cmp .eq (.v 4) (.lst [])) [.ret (.v 3)] [],
    .par [2, 3] [.blt .sortedSet [.v 4], .bin .add (.v 3) (.c (.int 1))]],
    .ret (.c (.none))]⟩
/-- 50 law(script): 0=script 1=i 2=loop 3=story 4=met 5=ends 6=texts 7=ahead 8=again 9=state 10=due 11=later 12=end -/
def f_law_2 : Fn := ⟨1, 13, [.for_ (.nm 1) .range1 [.c (.int 4)] [.set (.nm 3) (.call 36 [.v 0, .bin .mul (.c (.int 180)) (.v 1)]),
    .set (.nm 4) (.call 37 [.v 3, .call 29 [.v 3]]),
    .set (.nm 5) (.blt .sorted [.compIf (.nm 9) .seq [.v 4] (.cmp .eq (.idx (.v 4) (.v 9)) (.lst [])) (.v 9)]),
    .set (.nm 6) (.blt .sortedSet [.comp (.nm 9) .seq [.v 5] (.idx (.idx (.idx (.v 3) (.c (.int 1))) (.idx (.v 9) (.c (.int 1)))) (.c (.int 0)))]),
    .ite (.or (.cmp .ne (.call 41 [.v 3]) (.v 5)) (.cmp .ne (.call 42 [.v 3]) (.v 6))) [.ret (.c (.bool false))] [],
    .set (.nm 7) (.blt .dictOf [.comp (.nm 9) .seq [.v 4] (.tup [.v 9, .call 37 [.v 3, .lst [.v 9]]])]),
    .ite (.cmp .ne (.call 44 [.v 3]) (.blt .sorted [.compIf (.nm 9) .seq [.v 4] (.cmp .eq (.compIf (.nm 12) .seq [.v 5] (.cmp .isin (.v 12) (.idx (.v 7) (.v 9))) (.v 12)) (.lst [])) (.v 9)])) [.ret (.c (.bool false))] [],
    .set (.nm 8) (.lst []),
    .for_ (.nm 9) .seq [.v 4] [.set (.nm 11) (.call 37 [.v 3, .idx (.v 4) (.v 9)]),
    .ext 8 (.ite (.cmp .isin (.v 9) (.v 11)) (.lst [.v 9]) (.lst []))],
    .ite (.cmp .ne (.call 47 [.v 3]) (.blt .sorted [.v 8])) [.ret (.c (.bool false))] [],
    .set (.nm 10) (.call 49 [.v 4, .call 29 [.v 3]]),
    .ite (.or (.cmp .ne (.call 48 [.v 3]) (.v 10)) (.cmp .ne (.cmp .isN (.v 10) (.c (.none))) (.cmp .ne (.v 8) (.lst [])))) [.ret (.c (.bool false))] [],
    .ite (.and (.cmp .notN (.v 10) (.c (.none))) (.or (.cmp .ne (.call 44 [.v 3]) (.lst [])) (.cmp .ne (.call 28 [.v 3, .blt .min2 [.bin .add (.v 10) (.c (.int 1)), .c (.int 20)]]) (.c (.int 0))))) [.ret (.c (.bool false))] []],
    .set (.nm 2) (.tup [.tup [.c (.str "")], .tup [.tup [.c (.str "cave"), .c (.str ""), .tup [.tup [.c (.str "go"), .c (.str ""), .c (.str ""), .tup [.tup [.c (.int 1), .c (.str ""), .c (.str "")]]]]], .tup [.c (.str "hall"), .c (.str ""), .tup [.tup [.c (.str "go"), .c (.str ""), .c (.str ""), .tup [.tup [.c (.int 1), .c (.str ""), .c (.str "")]]]]]]]),
    .ite (.or (.cmp .ne (.call 44 [.v 2]) (.lst [.tup [.c (.int 0), .c (.int 0), .c (.str "")], .tup [.c (.int 0), .c (.int 1), .c (.str "")]])) (.or (.cmp .ne (.call 47 [.v 2]) (.lst [.tup [.c (.int 0), .c (.int 1), .c (.str "")]])) (.cmp .notN (.call 48 [.v 2]) (.c (.none))))) [.ret (.c (.bool false))] [],
    .ret (.and (.cmp .eq (.call 41 [.v 2]) (.lst [])) (.cmp .eq (.call 48 [.tup [.tup [.c (.str "a")], .tup [.tup [.c (.str "end"), .c (.str ""), .tup []]]]]) (.c (.int 0))))]⟩
end K52

set_option autoImplicit false
set_option linter.all false
set_option maxRecDepth 100000
set_option maxHeartbeats 0
namespace K52
open PySem PySem.Spec PyProof.Rows L2 Rk
def consts : List (Str × D) := [("LETTERS", .str "abcdefghijklmnopqrstuvwxyz"), ("MARKS", .str "abcd"), ("MAX_WORD", .int 6), ("MAX_STARTS", .int 4), ("MAX_PASSAGES", .int 6), ("MAX_OPTIONS", .int 4), ("MAX_OUTCOMES", .int 2), ("MAX_COUNTED", .int 20)]
def fnames : List (Nat × Str) := [(0, ("is_int" : Str)), (1, ("is_rising" : Str)), (2, ("is_word" : Str)), (3, ("are_marks" : Str)), (4, ("are_apart" : Str)), (5, ("is_outcome" : Str)), (6, ("is_option" : Str)), (7, ("is_passage" : Str)), (8, ("is_story" : Str)), (9, ("check_story" : Str)), (10, ("find_firsts" : Str)), (11, ("is_offered" : Str)), (12, ("options_at" : Str)), (13, ("find_offered" : Str)), (14, ("changed" : Str)), (15, ("outcomes_at" : Str)), (16, ("find_next" : Str)), (17, ("steps_from" : Str)), (18, ("states_ahead" : Str)), (19, ("find_met" : Str)), (27, ("find_count" : Str)), (28, ("count_plays" : Str)), (40, ("find_ends" : Str)), (41, ("met_ends" : Str)), (42, ("end_texts" : Str)), (43, ("find_traps" : Str)), (44, ("traps" : Str)), (45, ("is_round" : Str)), (46, ("find_rounds" : Str)), (47, ("rounds" : Str)), (48, ("longest_play" : Str)), (34, ("_law_pick" : Str)), (35, ("_law_option" : Str)), (36, ("_law_story" : Str)), (30, ("_law_open" : Str)), (31, ("_law_goes" : Str)), (32, ("_law_steps" : Str)), (37, ("_law_met" : Str)), (29, ("_law_firsts" : Str)), (49, ("_law_longest" : Str)), (50, ("law" : Str))]
def d_is_int : Df := ⟨0, "is_int", Hd.top 12, ["value", "least", "most"], ["value", "least", "most"], f_is_int⟩
def d_is_rising : Df := ⟨1, "is_rising", Hd.top 13, ["values", "one", "other"], ["values"], f_is_rising⟩
def d_is_word : Df := ⟨2, "is_word", Hd.top 14, ["candidate", "sign"], ["candidate"], f_is_word⟩
def d_are_marks : Df := ⟨3, "are_marks", Hd.top 15, ["candidate", "sign"], ["candidate"], f_are_marks⟩
def d_are_apart : Df := ⟨4, "are_apart", Hd.top 16, ["one", "other", "mark"], ["one", "other"], f_are_apart⟩
def d_is_outcome : Df := ⟨5, "is_outcome", Hd.top 17, ["many", "value"], ["many", "value"], f_is_outcome⟩
def d_is_option : Df := ⟨6, "is_option", Hd.top 18, ["many", "value", "label", "must", "mustnot", "outcomes", "outcome"], ["many", "value"], f_is_option⟩
def d_is_passage : Df := ⟨7, "is_passage", Hd.top 19, ["many", "value", "text", "shows", "options", "option"], ["many", "value"], f_is_passage⟩
def d_is_story : Df := ⟨8, "is_story", Hd.top 20, ["candidate", "starts", "passages", "passage", "start"], ["candidate"], f_is_story⟩
def d_check_story : Df := ⟨9, "check_story", Hd.top 21, ["value"], ["value"], f_check_story⟩
def d_find_firsts : Df := ⟨10, "find_firsts", Hd.top 23, ["story", "number", "marks"], ["story"], f_find_firsts⟩
def d_is_offered : Df := ⟨11, "is_offered", Hd.top 24, ["option", "marks", "mark"], ["option", "marks"], f_is_offered⟩
def d_options_at : Df := ⟨12, "options_at", Hd.top 25, ["story", "state", "option"], ["story", "state"], f_options_at⟩
def d_find_offered : Df := ⟨13, "find_offered", Hd.top 26, ["story", "state", "option"], ["story", "state"], f_find_offered⟩
def d_changed : Df := ⟨14, "changed", Hd.top 27, ["marks", "sets", "clears", "mark"], ["marks", "sets", "clears"], f_changed⟩
def d_outcomes_at : Df := ⟨15, "outcomes_at", Hd.top 28, ["story", "state", "label", "found", "option", "passage", "sets", "clears"], ["story", "state", "label"], f_outcomes_at⟩
def d_find_next : Df := ⟨16, "find_next", Hd.top 29, ["story", "state", "label"], ["story", "state", "label"], f_find_next⟩
def d_steps_from : Df := ⟨17, "steps_from", Hd.top 31, ["story", "state", "found", "label"], ["story", "state"], f_steps_from⟩
def d_states_ahead : Df := ⟨18, "states_ahead", Hd.top 32, ["story", "states", "known", "last", "state"], ["story", "states"], f_states_ahead⟩
def d_find_met : Df := ⟨19, "find_met", Hd.top 35, ["story"], ["story"], f_find_met⟩
def d_find_count : Df := ⟨27, "find_count", Hd.top 36, ["story", "many", "counts", "turn", "later", "state", "other"], ["story", "many"], f_find_count⟩
def d_count_plays : Df := ⟨28, "count_plays", Hd.top 37, ["story", "many"], ["story", "many"], f_count_plays⟩
def d_find_ends : Df := ⟨40, "find_ends", Hd.top 39, ["story", "met", "state"], ["story"], f_find_ends⟩
def d_met_ends : Df := ⟨41, "met_ends", Hd.top 40, ["story"], ["story"], f_met_ends⟩
def d_end_texts : Df := ⟨42, "end_texts", Hd.top 41, ["story", "state"], ["story"], f_end_texts⟩
def d_find_traps : Df := ⟨43, "find_traps", Hd.top 42, ["story", "met", "good", "size", "state", "other"], ["story"], f_find_traps⟩
def d_traps : Df := ⟨44, "traps", Hd.top 43, ["story"], ["story"], f_traps⟩
def d_is_round : Df := ⟨45, "is_round", Hd.top 44, ["met", "state", "known", "last", "other"], ["met", "state"], f_is_round⟩
def d_find_rounds : Df := ⟨46, "find_rounds", Hd.top 45, ["story", "met", "state"], ["story"], f_find_rounds⟩
def d_rounds : Df := ⟨47, "rounds", Hd.top 46, ["story"], ["story"], f_rounds⟩
def d_longest_play : Df := ⟨48, "longest_play", Hd.top 47, ["story", "met", "level", "many", "later", "state"], ["story"], f_longest_play⟩
def d__law_pick : Df := ⟨34, "_law_pick", Hd.top 49, ["script", "k", "many", "cell", "drawn", "rest", "again"], ["script", "k", "many"], f__law_pick⟩
def d__law_option : Df := ⟨35, "_law_option", Hd.top 50, ["script", "at", "many", "label", "found", "k", "must", "mustnot", "sets", "clears", "n"], ["script", "at", "many", "label"], f__law_option⟩
def d__law_story : Df := ⟨36, "_law_story", Hd.top 51, ["script", "at", "starts", "number", "many", "passages", "spot", "labels", "options", "text", "k", "label"], ["script", "at"], f__law_story⟩
def d__law_open : Df := ⟨30, "_law_open", Hd.top 52, ["option", "marks", "mark"], ["option", "marks"], f__law_open⟩
def d__law_goes : Df := ⟨31, "_law_goes", Hd.top 53, ["story", "state", "label", "found", "option", "start", "passage", "marks", "other", "sets", "clears", "left", "mark"], ["story", "state", "label"], f__law_goes⟩
def d__law_steps : Df := ⟨32, "_law_steps", Hd.top 54, ["story", "state", "found", "option"], ["story", "state"], f__law_steps⟩
def d__law_met : Df := ⟨37, "_law_met", Hd.top 55, ["story", "firsts", "known", "last", "state"], ["story", "firsts"], f__law_met⟩
def d__law_firsts : Df := ⟨29, "_law_firsts", Hd.top 56, ["story", "number", "marks"], ["story"], f__law_firsts⟩
def d__law_longest : Df := ⟨49, "_law_longest", Hd.top 57, ["met", "firsts", "level", "many", "later", "state"], ["met", "firsts"], f__law_longest⟩
def d_law : Df := ⟨50, "law", Hd.top 58, ["script", "i", "loop", "story", "met", "ends", "texts", "ahead", "again", "state", "due", "later", "end"], ["script"], f_law_2⟩
theorem s_is_int : d_is_int.Sound fnames consts := fun F X G0 hf0 hp =>
  show SBk F X (defBody (Hd.top 12)) f_is_int.body from
    (sbk_cons (ss_ret (se_and (se_isInt G0 (se_v G0)) (se_and (se_not (se_isBool G0 (se_v G0))) (se_one (se_le2 G0.units (se_v G0) (se_v G0) (se_v G0))))))
    sbk_nil)
theorem s_is_rising : d_is_rising.Sound fnames consts := fun F X G0 hf0 hp =>
  show SBk F X (defBody (Hd.top 13)) f_is_rising.body from
    (sbk_cons (ss_ret (se_bF G0 (cr_allD G0.calm) (sl_cons (se_comp G0 [("one", 1), ("other", 2)] (si_zip G0 (se_v G0) (se_from (se_v G0) se_int)) (fun X1 G1 hf1 => (sg_tup G1.calm (sgs_cons (sg_name G1.hN G1.nd G1.hsc (hf := by first | exact .inr rfl | (rw [hf1]; exact .inl rfl))) (sgs_cons (sg_name G1.hN G1.nd G1.hsc (hf := by first | exact .inr rfl | (rw [hf1]; exact .inl rfl))) sgs_nil)))) (fun X1 G1 hf1 => (se_cmp (op_ltD G1.units) (se_v G1) (se_v G1) rfl))) sl_nil) (by decide) boot_all))
    sbk_nil)
theorem s_is_word : d_is_word.Sound fnames consts := fun F X G0 hf0 hp =>
  show SBk F X (defBody (Hd.top 14)) f_is_word.body from
    (sbk_cons (ss_if (sb_w (sw_or (sb_not (sb_val (se_isStr G0 (se_v G0)))) (sw_or1 (sb_not (sb_le2 G0.units se_int (se_bF G0 cr_len (sl_cons (se_v G0) sl_nil) (by decide) boot_len) (se_con G0 (List.Mem.tail _ (List.Mem.tail _ (List.Mem.head _))))))))) (sbk_cons (ss_ret se_bl)
    sbk_nil) sbk_nil)
    (sbk_cons (ss_ret (se_bF G0 (cr_allD G0.calm) (sl_cons (se_comp G0 [("sign", 1)] (si_seq (se_v G0)) (fun X1 G1 hf1 => (sg_name G1.hN G1.nd G1.hsc (hf := by first | exact .inr rfl | (rw [hf1]; exact .inl rfl)))) (fun X1 G1 hf1 => (se_cmp (op_inD G1.units) (se_v G1) (se_con G1 (List.Mem.head _)) rfl))) sl_nil) (by decide) boot_all))
    sbk_nil))
theorem s_are_marks : d_are_marks.Sound fnames consts := fun F X G0 hf0 hp =>
  show SBk F X (defBody (Hd.top 15)) f_are_marks.body from
    (sbk_cons (ss_ret (se_and (se_isStr G0 (se_v G0)) (se_and (se_bF G0 (cr_allD G0.calm) (sl_cons (se_comp G0 [("sign", 1)] (si_seq (se_v G0)) (fun X1 G1 hf1 => (sg_name G1.hN G1.nd G1.hsc (hf := by first | exact .inr rfl | (rw [hf1]; exact .inl rfl)))) (fun X1 G1 hf1 => (se_cmp (op_inD G1.units) (se_v G1) (se_con G1 (List.Mem.tail _ (List.Mem.head _))) rfl))) sl_nil) (by decide) boot_all) (se_one (se_call G0 (sl_cons (se_v G0) sl_nil))))))
    sbk_nil)
theorem s_are_apart : d_are_apart.Sound fnames consts := fun F X G0 hf0 hp =>
  show SBk F X (defBody (Hd.top 16)) f_are_apart.body from
    (sbk_cons (ss_ret (se_and (se_call G0 (sl_cons (se_v G0) sl_nil)) (se_and (se_call G0 (sl_cons (se_v G0) sl_nil)) (se_one (se_not (se_bF G0 (cr_anyD G0.calm) (sl_cons (se_comp G0 [("mark", 2)] (si_seq (se_v G0)) (fun X1 G1 hf1 => (sg_name G1.hN G1.nd G1.hsc (hf := by first | exact .inr rfl | (rw [hf1]; exact .inl rfl)))) (fun X1 G1 hf1 => (se_cmp (op_inD G1.units) (se_v G1) (se_v G1) rfl))) sl_nil) (by decide) boot_any))))))
    sbk_nil)
theorem s_is_outcome : d_is_outcome.Sound fnames consts := fun F X G0 hf0 hp =>
  show SBk F X (defBody (Hd.top 17)) f_is_outcome.body from
    (sbk_cons (ss_if (sb_w (sw_or (sb_not (sb_val (se_isTuple G0 (se_v G0)))) (sw_or1 (sb_cmp (op_neDD G0.units) (se_bF G0 cr_len (sl_cons (se_v G0) sl_nil) (by decide) boot_len) se_int rfl)))) (sbk_cons (ss_ret se_bl)
    sbk_nil) sbk_nil)
    (sbk_cons (ss_ret (se_and (se_call G0 (sl_cons (se_idx G0 (se_v G0) se_int) (sl_cons se_int (sl_cons (se_bin op_subD (se_v G0) se_int) sl_nil)))) (se_one (se_call G0 (sl_cons (se_idx G0 (se_v G0) se_int) (sl_cons (se_idx G0 (se_v G0) se_int) sl_nil))))))
    sbk_nil))
theorem s_is_option : d_is_option.Sound fnames consts := fun F X G0 hf0 hp =>
  show SBk F X (defBody (Hd.top 18)) f_is_option.body from
    (sbk_cons (ss_if (sb_w (sw_or (sb_not (sb_val (se_isTuple G0 (se_v G0)))) (sw_or1 (sb_cmp (op_neDD G0.units) (se_bF G0 cr_len (sl_cons (se_v G0) sl_nil) (by decide) boot_len) se_int rfl)))) (sbk_cons (ss_ret se_bl)
    sbk_nil) sbk_nil)
    (sbk_cons (ss_setT G0 (se_v G0) (sg_tup G0.calm (sgs_cons (sg_name G0.hN G0.nd G0.hsc (hf := by first | exact .inr rfl | (rw [hf0]; exact .inl rfl))) (sgs_cons (sg_name G0.hN G0.nd G0.hsc (hf := by first | exact .inr rfl | (rw [hf0]; exact .inl rfl))) (sgs_cons (sg_name G0.hN G0.nd G0.hsc (hf := by first | exact .inr rfl | (rw [hf0]; exact .inl rfl))) (sgs_cons (sg_name G0.hN G0.nd G0.hsc (hf := by first | exact .inr rfl | (rw [hf0]; exact .inl rfl))) sgs_nil))))))
    (sbk_cons (ss_if (sb_w (sw_or (sb_not (sb_val (se_call G0 (sl_cons (se_v G0) sl_nil)))) (sw_or1 (sb_not (sb_val (se_call G0 (sl_cons (se_v G0) (sl_cons (se_v G0) sl_nil)))))))) (sbk_cons (ss_ret se_bl)
    sbk_nil) sbk_nil)
    (sbk_cons (ss_if (sb_w (sw_or (sb_not (sb_val (se_isTuple G0 (se_v G0)))) (sw_or1 (sb_not (sb_le2 G0.units se_int (se_bF G0 cr_len (sl_cons (se_v G0) sl_nil) (by decide) boot_len) (se_con G0 (List.Mem.tail _ (List.Mem.tail _ (List.Mem.tail _ (List.Mem.tail _ (List.Mem.tail _ (List.Mem.tail _ (List.Mem.head _))))))))))))) (sbk_cons (ss_ret se_bl)
    sbk_nil) sbk_nil)
    (sbk_cons (ss_ret (se_and (se_bF G0 (cr_allD G0.calm) (sl_cons (se_comp G0 [("outcome", 6)] (si_seq (se_v G0)) (fun X1 G1 hf1 => (sg_name G1.hN G1.nd G1.hsc (hf := by first | exact .inr rfl | (rw [hf1]; exact .inl rfl)))) (fun X1 G1 hf1 => (se_call G1 (sl_cons (se_v G1) (sl_cons (se_v G1) sl_nil))))) sl_nil) (by decide) boot_all) (se_one (se_call G0 (sl_cons (se_v G0) sl_nil)))))
    sbk_nil)))))
theorem s_is_passage : d_is_passage.Sound fnames consts := fun F X G0 hf0 hp =>
  show SBk F X (defBody (Hd.top 19)) f_is_passage.body from
    (sbk_cons (ss_if (sb_w (sw_or (sb_not (sb_val (se_isTuple G0 (se_v G0)))) (sw_or1 (sb_cmp (op_neDD G0.units) (se_bF G0 cr_len (sl_cons (se_v G0) sl_nil) (by decide) boot_len) se_int rfl)))) (sbk_cons (ss_ret se_bl)
    sbk_nil) sbk_nil)
    (sbk_cons (ss_setT G0 (se_v G0) (sg_tup G0.calm (sgs_cons (sg_name G0.hN G0.nd G0.hsc (hf := by first | exact .inr rfl | (rw [hf0]; exact .inl rfl))) (sgs_cons (sg_name G0.hN G0.nd G0.hsc (hf := by first | exact .inr rfl | (rw [hf0]; exact .inl rfl))) (sgs_cons (sg_name G0.hN G0.nd G0.hsc (hf := by first | exact .inr rfl | (rw [hf0]; exact .inl rfl))) sgs_nil)))))
    (sbk_cons (ss_if (sb_w (sw_or (sb_not (sb_val (se_call G0 (sl_cons (se_v G0) sl_nil)))) (sw_or (sb_not (sb_val (se_call G0 (sl_cons (se_v G0) sl_nil)))) (sw_or (sb_not (sb_val (se_isTuple G0 (se_v G0)))) (sw_or1 (sb_cmp (op_gtD G0.units) (se_bF G0 cr_len (sl_cons (se_v G0) sl_nil) (by decide) boot_len) (se_con G0 (List.Mem.tail _ (List.Mem.tail _ (List.Mem.tail _ (List.Mem.tail _ (List.Mem.tail _ (List.Mem.head _))))))) rfl)))))) (sbk_cons (ss_ret se_bl)
    sbk_nil) sbk_nil)
    (sbk_cons (ss_ret (se_and (se_bF G0 (cr_allD G0.calm) (sl_cons (se_comp G0 [("option", 5)] (si_seq (se_v G0)) (fun X1 G1 hf1 => (sg_name G1.hN G1.nd G1.hsc (hf := by first | exact .inr rfl | (rw [hf1]; exact .inl rfl)))) (fun X1 G1 hf1 => (se_call G1 (sl_cons (se_v G1) (sl_cons (se_v G1) sl_nil))))) sl_nil) (by decide) boot_all) (se_one (se_call G0 (sl_cons (se_comp G0 [("option", 5)] (si_seq (se_v G0)) (fun X1 G1 hf1 => (sg_name G1.hN G1.nd G1.hsc (hf := by first | exact .inr rfl | (rw [hf1]; exact .inl rfl)))) (fun X1 G1 hf1 => (se_idx G1 (se_v G1) se_int))) sl_nil)))))
    sbk_nil))))
theorem s_is_story : d_is_story.Sound fnames consts := fun F X G0 hf0 hp =>
  show SBk F X (defBody (Hd.top 20)) f_is_story.body from
    (sbk_cons (ss_if (sb_w (sw_or (sb_not (sb_val (se_isTuple G0 (se_v G0)))) (sw_or1 (sb_cmp (op_neDD G0.units) (se_bF G0 cr_len (sl_cons (se_v G0) sl_nil) (by decide) boot_len) se_int rfl)))) (sbk_cons (ss_ret se_bl)
    sbk_nil) sbk_nil)
    (sbk_cons (ss_setT G0 (se_v G0) (sg_tup G0.calm (sgs_cons (sg_name G0.hN G0.nd G0.hsc (hf := by first | exact .inr rfl | (rw [hf0]; exact .inl rfl))) (sgs_cons (sg_name G0.hN G0.nd G0.hsc (hf := by first | exact .inr rfl | (rw [hf0]; exact .inl rfl))) sgs_nil))))
    (sbk_cons (ss_if (sb_w (sw_or (sb_not (sb_val (se_isTuple G0 (se_v G0)))) (sw_or1 (sb_not (sb_le2 G0.units se_int (se_bF G0 cr_len (sl_cons (se_v G0) sl_nil) (by decide) boot_len) (se_con G0 (List.Mem.tail _ (List.Mem.tail _ (List.Mem.tail _ (List.Mem.head _)))))))))) (sbk_cons (ss_ret se_bl)
    sbk_nil) sbk_nil)
    (sbk_cons (ss_if (sb_w (sw_or (sb_not (sb_val (se_bF G0 (cr_allD G0.calm) (sl_cons (se_comp G0 [("start", 4)] (si_seq (se_v G0)) (fun X1 G1 hf1 => (sg_name G1.hN G1.nd G1.hsc (hf := by first | exact .inr rfl | (rw [hf1]; exact .inl rfl)))) (fun X1 G1 hf1 => (se_call G1 (sl_cons (se_v G1) sl_nil)))) sl_nil) (by decide) boot_all))) (sw_or1 (sb_not (sb_val (se_call G0 (sl_cons (se_v G0) sl_nil))))))) (sbk_cons (ss_ret se_bl)
    sbk_nil) sbk_nil)
    (sbk_cons (ss_if (sb_w (sw_or (sb_not (sb_val (se_isTuple G0 (se_v G0)))) (sw_or1 (sb_not (sb_le2 G0.units se_int (se_bF G0 cr_len (sl_cons (se_v G0) sl_nil) (by decide) boot_len) (se_con G0 (List.Mem.tail _ (List.Mem.tail _ (List.Mem.tail _ (List.Mem.tail _ (List.Mem.head _))))))))))) (sbk_cons (ss_ret se_bl)
    sbk_nil) sbk_nil)
    (sbk_cons (ss_ret (se_bF G0 (cr_allD G0.calm) (sl_cons (se_comp G0 [("passage", 3)] (si_seq (se_v G0)) (fun X1 G1 hf1 => (sg_name G1.hN G1.nd G1.hsc (hf := by first | exact .inr rfl | (rw [hf1]; exact .inl rfl)))) (fun X1 G1 hf1 => (se_call G1 (sl_cons (se_bF G1 cr_len (sl_cons (se_v G1) sl_nil) (by decide) boot_len) (sl_cons (se_v G1) sl_nil))))) sl_nil) (by decide) boot_all))
    sbk_nil))))))
theorem s_check_story : d_check_story.Sound fnames consts := fun F X G0 hf0 hp =>
  show SBk F X (defBody (Hd.top 21)) f_check_story.body from
    (sbk_cons (ss_if (sb_not (sb_val (se_call G0 (sl_cons (se_v G0) sl_nil)))) (sbk_cons ss_fail
    sbk_nil) sbk_nil)
    sbk_nil)
theorem s_find_firsts : d_find_firsts.Sound fnames consts := fun F X G0 hf0 hp =>
  show SBk F X (defBody (Hd.top 23)) f_find_firsts.body from
    (sbk_cons (ss_ret (se_comp G0 [("number", 1), ("marks", 2)] (si_enum G0 (se_idx G0 (se_v G0) se_int)) (fun X1 G1 hf1 => (sg_tup G1.calm (sgs_cons (sg_name G1.hN G1.nd G1.hsc (hf := by first | exact .inr rfl | (rw [hf1]; exact .inl rfl))) (sgs_cons (sg_name G1.hN G1.nd G1.hsc (hf := by first | exact .inr rfl | (rw [hf1]; exact .inl rfl))) sgs_nil)))) (fun X1 G1 hf1 => (se_tup (sk_cons (se_v G1) (sk_cons se_int (sk_cons (se_v G1) sk_nil)))))))
    sbk_nil)
theorem s_is_offered : d_is_offered.Sound fnames consts := fun F X G0 hf0 hp =>
  show SBk F X (defBody (Hd.top 24)) f_is_offered.body from
    (sbk_cons (ss_ret (se_and (se_bF G0 (cr_allD G0.calm) (sl_cons (se_comp G0 [("mark", 2)] (si_seq (se_idx G0 (se_v G0) se_int)) (fun X1 G1 hf1 => (sg_name G1.hN G1.nd G1.hsc (hf := by first | exact .inr rfl | (rw [hf1]; exact .inl rfl)))) (fun X1 G1 hf1 => (se_cmp (op_inD G1.units) (se_v G1) (se_v G1) rfl))) sl_nil) (by decide) boot_all) (se_one (se_not (se_bF G0 (cr_anyD G0.calm) (sl_cons (se_comp G0 [("mark", 2)] (si_seq (se_idx G0 (se_v G0) se_int)) (fun X1 G1 hf1 => (sg_name G1.hN G1.nd G1.hsc (hf := by first | exact .inr rfl | (rw [hf1]; exact .inl rfl)))) (fun X1 G1 hf1 => (se_cmp (op_inD G1.units) (se_v G1) (se_v G1) rfl))) sl_nil) (by decide) boot_any)))))
    sbk_nil)
theorem s_options_at : d_options_at.Sound fnames consts := fun F X G0 hf0 hp =>
  show SBk F X (defBody (Hd.top 25)) f_options_at.body from
    (sbk_cons (ss_ret (se_compIf G0 [("option", 2)] (si_seq (se_idx G0 (se_idx G0 (se_idx G0 (se_v G0) se_int) (se_idx G0 (se_v G0) se_int)) se_int)) (fun X1 G1 hf1 => (sg_name G1.hN G1.nd G1.hsc (hf := by first | exact .inr rfl | (rw [hf1]; exact .inl rfl)))) (fun X1 G1 hf1 => (sb_val (se_call G1 (sl_cons (se_v G1) (sl_cons (se_idx G1 (se_v G1) se_int) sl_nil))))) (fun X1 G1 hf1 => (se_v G1))))
    sbk_nil)
theorem s_find_offered : d_find_offered.Sound fnames consts := fun F X G0 hf0 hp =>
  show SBk F X (defBody (Hd.top 26)) f_find_offered.body from
    (sbk_cons (ss_ret (se_comp G0 [("option", 2)] (si_seq (se_call G0 (sl_cons (se_v G0) (sl_cons (se_v G0) sl_nil)))) (fun X1 G1 hf1 => (sg_name G1.hN G1.nd G1.hsc (hf := by first | exact .inr rfl | (rw [hf1]; exact .inl rfl)))) (fun X1 G1 hf1 => (se_idx G1 (se_v G1) se_int))))
    sbk_nil)
theorem s_changed : d_changed.Sound fnames consts := fun F X G0 hf0 hp =>
  show SBk F X (defBody (Hd.top 27)) f_changed.body from
    (sbk_cons (ss_ret (se_join se_str (se_compIf G0 [("mark", 3)] (si_seq (se_con G0 (List.Mem.tail _ (List.Mem.head _)))) (fun X1 G1 hf1 => (sg_name G1.hN G1.nd G1.hsc (hf := by first | exact .inr rfl | (rw [hf1]; exact .inl rfl)))) (fun X1 G1 hf1 => (sb_w (sw_and (sb_w (sw_or (sb_cmp (op_inD G1.units) (se_v G1) (se_v G1) rfl) (sw_or1 (sb_cmp (op_inD G1.units) (se_v G1) (se_v G1) rfl)))) (sw_and1 (sb_cmp (op_notInD G1.units) (se_v G1) (se_v G1) rfl))))) (fun X1 G1 hf1 => (se_v G1)))))
    sbk_nil)
theorem s_outcomes_at : d_outcomes_at.Sound fnames consts := fun F X G0 hf0 hp =>
  show SBk F X (defBody (Hd.top 28)) f_outcomes_at.body from
    (sbk_cons (ss_set G0 (se_lst sk_nil) (hf := by first | exact .inr rfl | (rw [hf0]; exact .inl rfl)))
    (sbk_cons (ss_for G0 hp (si_seq (se_call G0 (sl_cons (se_v G0) (sl_cons (se_v G0) sl_nil)))) (sg_name G0.hN G0.nd G0.hsc (hf := by first | exact .inr rfl | (rw [hf0]; exact .inl rfl))) (sbk_cons (ss_if (sb_cmp (op_eqDD G0.units) (se_idx G0 (se_v G0) se_int) (se_v G0) rfl) (sbk_cons (ss_for G0 hp (si_seq (se_idx G0 (se_v G0) se_int)) (sg_tup G0.calm (sgs_cons (sg_name G0.hN G0.nd G0.hsc (hf := by first | exact .inr rfl | (rw [hf0]; exact .inl rfl))) (sgs_cons (sg_name G0.hN G0.nd G0.hsc (hf := by first | exact .inr rfl | (rw [hf0]; exact .inl rfl))) (sgs_cons (sg_name G0.hN G0.nd G0.hsc (hf := by first | exact .inr rfl | (rw [hf0]; exact .inl rfl))) sgs_nil)))) (sbk_cons (ss_app G0 (se_tup (sk_cons (se_idx G0 (se_v G0) se_int) (sk_cons (se_v G0) (sk_cons (se_call G0 (sl_cons (se_idx G0 (se_v G0) se_int) (sl_cons (se_v G0) (sl_cons (se_v G0) sl_nil)))) sk_nil)))))
    sbk_nil))
    sbk_nil) sbk_nil)
    sbk_nil))
    (sbk_cons (ss_retV G0)
    sbk_nil)))
theorem s_find_next : d_find_next.Sound fnames consts := fun F X G0 hf0 hp =>
  show SBk F X (defBody (Hd.top 29)) f_find_next.body from
    (sbk_cons (ss_ret (se_sortedSet G0 (se_call G0 (sl_cons (se_v G0) (sl_cons (se_v G0) (sl_cons (se_v G0) sl_nil))))))
    sbk_nil)
theorem s_steps_from : d_steps_from.Sound fnames consts := fun F X G0 hf0 hp =>
  show SBk F X (defBody (Hd.top 31)) f_steps_from.body from
    (sbk_cons (ss_set G0 (se_lst sk_nil) (hf := by first | exact .inr rfl | (rw [hf0]; exact .inl rfl)))
    (sbk_cons (ss_for G0 hp (si_seq (se_call G0 (sl_cons (se_v G0) (sl_cons (se_v G0) sl_nil)))) (sg_name G0.hN G0.nd G0.hsc (hf := by first | exact .inr rfl | (rw [hf0]; exact .inl rfl))) (sbk_cons (ss_ext G0 (se_call G0 (sl_cons (se_v G0) (sl_cons (se_v G0) (sl_cons (se_v G0) sl_nil)))))
    sbk_nil))
    (sbk_cons (ss_ret (se_sortedSet G0 (se_v G0)))
    sbk_nil)))
theorem s_states_ahead : d_states_ahead.Sound fnames consts := fun F X G0 hf0 hp =>
  show SBk F X (defBody (Hd.top 32)) f_states_ahead.body from
    (sbk_cons (ss_par G0 se_emp (se_bT G0 cr_list (sl_cons (se_v G0) sl_nil) (by decide) boot_list) (hw := by rw [env_with G0.hsc]; rfl))
    (sbk_cons (ss_while hp (sb_cmp (op_neDD G0.units) (se_v G0) (se_lst sk_nil) rfl) (sbk_cons (ss_pop G0 (hf := by first | exact .inr rfl | (rw [hf0]; exact .inl rfl)))
    (sbk_cons (ss_if (sb_cmp (op_notInD G0.units) (se_v G0) (se_v G0) rfl) (sbk_cons (ss_put G0 (se_v G0) (se_call G0 (sl_cons (se_v G0) (sl_cons (se_v G0) sl_nil))))
    (sbk_cons (ss_ext G0 (se_idx G0 (se_v G0) (se_v G0)))
    sbk_nil)) sbk_nil)
    sbk_nil)))
    (sbk_cons (ss_retV G0)
    sbk_nil)))
theorem s_find_met : d_find_met.Sound fnames consts := fun F X G0 hf0 hp =>
  show SBk F X (defBody (Hd.top 35)) f_find_met.body from
    (sbk_cons (ss_ret (se_call G0 (sl_cons (se_v G0) (sl_cons (se_call G0 (sl_cons (se_v G0) sl_nil)) sl_nil))))
    sbk_nil)
theorem s_find_count : d_find_count.Sound fnames consts := fun F X G0 hf0 hp =>
  show SBk F X (defBody (Hd.top 36)) f_find_count.body from
    (sbk_cons (ss_set G0 (se_bT G0 (cr_dictOf G0.calm G0.units) (sl_cons (se_comp G0 [("state", 5)] (si_seq (se_call G0 (sl_cons (se_v G0) sl_nil))) (fun X1 G1 hf1 => (sg_name G1.hN G1.nd G1.hsc (hf := by first | exact .inr rfl | (rw [hf1]; exact .inl rfl)))) (fun X1 G1 hf1 => (se_tup (sk_cons (se_v G1) (sk_cons se_int sk_nil))))) sl_nil) (by decide) boot_dict) (hf := by first | exact .inr rfl | (rw [hf0]; exact .inl rfl)))
    (sbk_cons (ss_for G0 hp (si_range1 G0 (se_v G0)) (sg_name G0.hN G0.nd G0.hsc (hf := by first | exact .inr rfl | (rw [hf0]; exact .inl rfl))) (sbk_cons (ss_set G0 se_emp (hf := by first | exact .inr rfl | (rw [hf0]; exact .inl rfl)))
    (sbk_cons (ss_for G0 hp (si_seq (se_v G0)) (sg_name G0.hN G0.nd G0.hsc (hf := by first | exact .inr rfl | (rw [hf0]; exact .inl rfl))) (sbk_cons (ss_for G0 hp (si_seq (se_call G0 (sl_cons (se_v G0) (sl_cons (se_v G0) sl_nil)))) (sg_name G0.hN G0.nd G0.hsc (hf := by first | exact .inr rfl | (rw [hf0]; exact .inl rfl))) (sbk_cons (ss_put G0 (se_v G0) (se_bin op_addD (se_get G0 (b := .get2) (se_v G0) (sl_cons (se_v G0) (sl_cons se_int sl_nil))) (se_idx G0 (se_v G0) (se_v G0))))
    sbk_nil))
    sbk_nil))
    (sbk_cons (ss_setV G0 (hf := by first | exact .inr rfl | (rw [hf0]; exact .inl rfl)))
    sbk_nil))))
    (sbk_cons (ss_ret (se_sumV G0 (se_v G0)))
    sbk_nil)))
theorem s_count_plays : d_count_plays.Sound fnames consts := fun F X G0 hf0 hp =>
  show SBk F X (defBody (Hd.top 37)) f_count_plays.body from
    (sbk_cons (ss_exp (se_call G0 (sl_cons (se_v G0) sl_nil)))
    (sbk_cons (ss_if (sb_not (sb_val (se_call G0 (sl_cons (se_v G0) (sl_cons se_int (sl_cons (se_con G0 (List.Mem.tail _ (List.Mem.tail _ (List.Mem.tail _ (List.Mem.tail _ (List.Mem.tail _ (List.Mem.tail _ (List.Mem.tail _ (List.Mem.head _))))))))) sl_nil)))))) (sbk_cons ss_fail
    sbk_nil) sbk_nil)
    (sbk_cons (ss_ret (se_call G0 (sl_cons (se_v G0) (sl_cons (se_v G0) sl_nil))))
    sbk_nil)))
theorem s_find_ends : d_find_ends.Sound fnames consts := fun F X G0 hf0 hp =>
  show SBk F X (defBody (Hd.top 39)) f_find_ends.body from
    (sbk_cons (ss_set G0 (se_call G0 (sl_cons (se_v G0) sl_nil)) (hf := by first | exact .inr rfl | (rw [hf0]; exact .inl rfl)))
    (sbk_cons (ss_ret (se_bF G0 (cr_sorted G0.calm G0.units) (sl_cons (se_compIf G0 [("state", 2)] (si_seq (se_v G0)) (fun X1 G1 hf1 => (sg_name G1.hN G1.nd G1.hsc (hf := by first | exact .inr rfl | (rw [hf1]; exact .inl rfl)))) (fun X1 G1 hf1 => (sb_cmp (op_eqDD G1.units) (se_idx G1 (se_v G1) (se_v G1)) (se_lst sk_nil) rfl)) (fun X1 G1 hf1 => (se_v G1))) sl_nil) (by decide) boot_sorted))
    sbk_nil))
theorem s_met_ends : d_met_ends.Sound fnames consts := fun F X G0 hf0 hp =>
  show SBk F X (defBody (Hd.top 40)) f_met_ends.body from
    (sbk_cons (ss_exp (se_call G0 (sl_cons (se_v G0) sl_nil)))
    (sbk_cons (ss_ret (se_call G0 (sl_cons (se_v G0) sl_nil)))
    sbk_nil))
theorem s_end_texts : d_end_texts.Sound fnames consts := fun F X G0 hf0 hp =>
  show SBk F X (defBody (Hd.top 41)) f_end_texts.body from
    (sbk_cons (ss_exp (se_call G0 (sl_cons (se_v G0) sl_nil)))
    (sbk_cons (ss_ret (se_sortedSet G0 (se_comp G0 [("state", 1)] (si_seq (se_call G0 (sl_cons (se_v G0) sl_nil))) (fun X1 G1 hf1 => (sg_name G1.hN G1.nd G1.hsc (hf := by first | exact .inr rfl | (rw [hf1]; exact .inl rfl)))) (fun X1 G1 hf1 => (se_idx G1 (se_idx G1 (se_idx G1 (se_v G1) se_int) (se_idx G1 (se_v G1) se_int)) se_int)))))
    sbk_nil))
theorem s_find_traps : d_find_traps.Sound fnames consts := fun F X G0 hf0 hp =>
  show SBk F X (defBody (Hd.top 42)) f_find_traps.body from
    (sbk_cons (ss_set G0 (se_call G0 (sl_cons (se_v G0) sl_nil)) (hf := by first | exact .inr rfl | (rw [hf0]; exact .inl rfl)))
    (sbk_cons (ss_set G0 (se_bT G0 (cr_dictOf G0.calm G0.units) (sl_cons (se_compIf G0 [("state", 4)] (si_seq (se_v G0)) (fun X1 G1 hf1 => (sg_name G1.hN G1.nd G1.hsc (hf := by first | exact .inr rfl | (rw [hf1]; exact .inl rfl)))) (fun X1 G1 hf1 => (sb_cmp (op_eqDD G1.units) (se_idx G1 (se_v G1) (se_v G1)) (se_lst sk_nil) rfl)) (fun X1 G1 hf1 => (se_tup (sk_cons (se_v G1) (sk_cons se_bl sk_nil))))) sl_nil) (by decide) boot_dict) (hf := by first | exact .inr rfl | (rw [hf0]; exact .inl rfl)))
    (sbk_cons (ss_set G0 se_neg (hf := by first | exact .inr rfl | (rw [hf0]; exact .inl rfl)))
    (sbk_cons (ss_while hp (sb_cmp (op_neDD G0.units) (se_v G0) (se_bF G0 cr_len (sl_cons (se_v G0) sl_nil) (by decide) boot_len) rfl) (sbk_cons (ss_set G0 (se_bF G0 cr_len (sl_cons (se_v G0) sl_nil) (by decide) boot_len) (hf := by first | exact .inr rfl | (rw [hf0]; exact .inl rfl)))
    (sbk_cons (ss_for G0 hp (si_seq (se_v G0)) (sg_name G0.hN G0.nd G0.hsc (hf := by first | exact .inr rfl | (rw [hf0]; exact .inl rfl))) (sbk_cons (ss_if (sb_val (se_bF G0 (cr_anyD G0.calm) (sl_cons (se_comp G0 [("other", 5)] (si_seq (se_idx G0 (se_v G0) (se_v G0))) (fun X1 G1 hf1 => (sg_name G1.hN G1.nd G1.hsc (hf := by first | exact .inr rfl | (rw [hf1]; exact .inl rfl)))) (fun X1 G1 hf1 => (se_cmp (op_inD G1.units) (se_v G1) (se_v G1) rfl))) sl_nil) (by decide) boot_any)) (sbk_cons (ss_put G0 (se_v G0) se_bl)
    sbk_nil) sbk_nil)
    sbk_nil))
    sbk_nil)))
    (sbk_cons (ss_ret (se_bF G0 (cr_sorted G0.calm G0.units) (sl_cons (se_compIf G0 [("state", 4)] (si_seq (se_v G0)) (fun X1 G1 hf1 => (sg_name G1.hN G1.nd G1.hsc (hf := by first | exact .inr rfl | (rw [hf1]; exact .inl rfl)))) (fun X1 G1 hf1 => (sb_cmp (op_notInD G1.units) (se_v G1) (se_v G1) rfl)) (fun X1 G1 hf1 => (se_v G1))) sl_nil) (by decide) boot_sorted))
    sbk_nil)))))
theorem s_traps : d_traps.Sound fnames consts := fun F X G0 hf0 hp =>
  show SBk F X (defBody (Hd.top 43)) f_traps.body from
    (sbk_cons (ss_exp (se_call G0 (sl_cons (se_v G0) sl_nil)))
    (sbk_cons (ss_ret (se_call G0 (sl_cons (se_v G0) sl_nil)))
    sbk_nil))
theorem s_is_round : d_is_round.Sound fnames consts := fun F X G0 hf0 hp =>
  show SBk F X (defBody (Hd.top 44)) f_is_round.body from
    (sbk_cons (ss_par G0 se_emp (se_bT G0 cr_list (sl_cons (se_idx G0 (se_v G0) (se_v G0)) sl_nil) (by decide) boot_list) (hw := by rw [env_with G0.hsc]; rfl))
    (sbk_cons (ss_while hp (sb_cmp (op_neDD G0.units) (se_v G0) (se_lst sk_nil) rfl) (sbk_cons (ss_pop G0 (hf := by first | exact .inr rfl | (rw [hf0]; exact .inl rfl)))
    (sbk_cons (ss_if (sb_cmp (op_eqDD G0.units) (se_v G0) (se_v G0) rfl) (sbk_cons (ss_ret se_bl)
    sbk_nil) sbk_nil)
    (sbk_cons (ss_if (sb_cmp (op_notInD G0.units) (se_v G0) (se_v G0) rfl) (sbk_cons (ss_put G0 (se_v G0) se_bl)
    (sbk_cons (ss_ext G0 (se_idx G0 (se_v G0) (se_v G0)))
    sbk_nil)) sbk_nil)
    sbk_nil))))
    (sbk_cons (ss_ret se_bl)
    sbk_nil)))
theorem s_find_rounds : d_find_rounds.Sound fnames consts := fun F X G0 hf0 hp =>
  show SBk F X (defBody (Hd.top 45)) f_find_rounds.body from
    (sbk_cons (ss_set G0 (se_call G0 (sl_cons (se_v G0) sl_nil)) (hf := by first | exact .inr rfl | (rw [hf0]; exact .inl rfl)))
    (sbk_cons (ss_ret (se_bF G0 (cr_sorted G0.calm G0.units) (sl_cons (se_compIf G0 [("state", 2)] (si_seq (se_v G0)) (fun X1 G1 hf1 => (sg_name G1.hN G1.nd G1.hsc (hf := by first | exact .inr rfl | (rw [hf1]; exact .inl rfl)))) (fun X1 G1 hf1 => (sb_val (se_call G1 (sl_cons (se_v G1) (sl_cons (se_v G1) sl_nil))))) (fun X1 G1 hf1 => (se_v G1))) sl_nil) (by decide) boot_sorted))
    sbk_nil))
theorem s_rounds : d_rounds.Sound fnames consts := fun F X G0 hf0 hp =>
  show SBk F X (defBody (Hd.top 46)) f_rounds.body from
    (sbk_cons (ss_exp (se_call G0 (sl_cons (se_v G0) sl_nil)))
    (sbk_cons (ss_ret (se_call G0 (sl_cons (se_v G0) sl_nil)))
    sbk_nil))
theorem s_longest_play : d_longest_play.Sound fnames consts := fun F X G0 hf0 hp =>
  show SBk F X (defBody (Hd.top 47)) f_longest_play.body from
    (sbk_cons (ss_exp (se_call G0 (sl_cons (se_v G0) sl_nil)))
    (sbk_cons (ss_if (sb_cmp (op_neDD G0.units) (se_call G0 (sl_cons (se_v G0) sl_nil)) (se_lst sk_nil) rfl) (sbk_cons (ss_ret se_non)
    sbk_nil) sbk_nil)
    (sbk_cons (ss_par3 G0 (sn_cons (se_call G0 (sl_cons (se_v G0) sl_nil)) (sn_cons (se_call G0 (sl_cons (se_v G0) sl_nil)) (sn_cons se_int sn_nil))) (hw := by rw [env_with G0.hsc]; rfl))
    (sbk_cons (ss_while hp (sb_cmp (op_neDD G0.units) (se_v G0) (se_lst sk_nil) rfl) (sbk_cons (ss_set G0 (se_lst sk_nil) (hf := by first | exact .inr rfl | (rw [hf0]; exact .inl rfl)))
    (sbk_cons (ss_for G0 hp (si_seq (se_v G0)) (sg_name G0.hN G0.nd G0.hsc (hf := by first | exact .inr rfl | (rw [hf0]; exact .inl rfl))) (sbk_cons (ss_ext G0 (se_idx G0 (se_v G0) (se_v G0)))
    sbk_nil))
    (sbk_cons (ss_par G0 (se_sortedSet G0 (se_v G0)) (se_bin op_addD (se_v G0) se_int) (hw := by rw [env_with G0.hsc]; rfl))
    sbk_nil))))
    (sbk_cons (ss_ret (se_bin op_subD (se_v G0) se_int))
    sbk_nil)))))
theorem s__law_pick : d__law_pick.Sound fnames consts := fun F X G0 hf0 hp =>
  show SBk F X (defBody (Hd.top 49)) f__law_pick.body from
    (sbk_cons (ss_set G0 (se_ite (sb_cmp (op_neDD G0.units) (se_v G0) (se_lst sk_nil) rfl) (se_idx G0 (se_v G0) (se_bin op_modD (se_bT G0 cr_int (sl_cons (se_v G0) sl_nil) (by decide) boot_int) (se_bF G0 cr_len (sl_cons (se_v G0) sl_nil) (by decide) boot_len))) se_int) (hf := by first | exact .inr rfl | (rw [hf0]; exact .inl rfl)))
    (sbk_cons (ss_par G0 (se_bin op_fdivD (se_v G0) (se_bin op_powD se_int se_int)) (se_bin op_fdivD (se_v G0) (se_bF G0 (cr_max2 G0.calm) (sl_cons (se_bF G0 cr_len (sl_cons (se_v G0) sl_nil) (by decide) boot_len) (sl_cons se_int sl_nil)) (by decide) boot_max)) (hw := by rw [env_with G0.hsc]; rfl))
    (sbk_cons (ss_while hp (sb_w (sw_and (sb_cmp (op_gtD G0.units) (se_v G0) se_int rfl) (sw_and1 (sb_cmp (op_gtD G0.units) (se_v G0) se_int rfl)))) (sbk_cons (ss_par G0 (se_bin op_fdivD (se_v G0) se_int) (se_bin op_subD (se_v G0) se_int) (hw := by rw [env_with G0.hsc]; rfl))
    sbk_nil))
    (sbk_cons (ss_if (sb_cmp (op_gtD G0.units) (se_v G0) se_int rfl) (sbk_cons (ss_ret (se_bin op_modD (se_bT G0 cr_int (sl_cons (se_bin op_modD (se_bT G0 cr_int (sl_cons (se_v G0) sl_nil) (by decide) boot_int) se_int) sl_nil) (by decide) boot_int) (se_v G0)))
    sbk_nil) sbk_nil)
    (sbk_cons (ss_set G0 (se_bin op_modD (se_bT G0 cr_int (sl_cons (se_bin op_mulD (se_bin op_addD (se_bin op_mulD (se_v G0) se_int) (se_bin op_mulD se_int (se_bin op_addD (se_v G0) se_int))) se_int) sl_nil) (by decide) boot_int) se_int) (hf := by first | exact .inr rfl | (rw [hf0]; exact .inl rfl)))
    (sbk_cons (ss_ret (se_bin op_modD (se_bT G0 cr_int (sl_cons (se_bin op_modD (se_bT G0 cr_int (sl_cons (se_bin op_addD (se_bin op_mulD (se_v G0) (se_v G0)) (se_bin op_fdivD (se_v G0) se_int)) sl_nil) (by decide) boot_int) se_int) sl_nil) (by decide) boot_int) (se_v G0)))
    sbk_nil))))))
theorem s__law_option : d__law_option.Sound fnames consts := fun F X G0 hf0 hp =>
  show SBk F X (defBody (Hd.top 50)) f__law_option.body from
    (sbk_cons (ss_setT G0 (se_comp G0 [("k", 5)] (si_range1 G0 se_int) (fun X1 G1 hf1 => (sg_name G1.hN G1.nd G1.hsc (hf := by first | exact .inr rfl | (rw [hf1]; exact .inl rfl)))) (fun X1 G1 hf1 => (se_idx G1 (se_tup (sk_cons se_str (sk_cons se_str (sk_cons se_str (sk_cons se_str sk_nil))))) (se_call G1 (sl_cons (se_v G1) (sl_cons (se_bin op_addD (se_v G1) (se_v G1)) (sl_cons se_int sl_nil))))))) (sg_tup G0.calm (sgs_cons (sg_name G0.hN G0.nd G0.hsc (hf := by first | exact .inr rfl | (rw [hf0]; exact .inl rfl))) (sgs_cons (sg_name G0.hN G0.nd G0.hsc (hf := by first | exact .inr rfl | (rw [hf0]; exact .inl rfl))) sgs_nil))))
    (sbk_cons (ss_set G0 (se_lst sk_nil) (hf := by first | exact .inr rfl | (rw [hf0]; exact .inl rfl)))
    (sbk_cons (ss_for G0 hp (si_range1 G0 (se_bin op_addD se_int (se_bin op_fdivD (se_call G0 (sl_cons (se_v G0) (sl_cons (se_bin op_addD (se_v G0) se_int) (sl_cons se_int sl_nil)))) se_int))) (sg_name G0.hN G0.nd G0.hsc (hf := by first | exact .inr rfl | (rw [hf0]; exact .inl rfl))) (sbk_cons (ss_setT G0 (se_comp G0 [("n", 10)] (si_range1 G0 se_int) (fun X1 G1 hf1 => (sg_name G1.hN G1.nd G1.hsc (hf := by first | exact .inr rfl | (rw [hf1]; exact .inl rfl)))) (fun X1 G1 hf1 => (se_idx G1 (se_tup (sk_cons se_str (sk_cons se_str (sk_cons se_str (sk_cons se_str sk_nil))))) (se_call G1 (sl_cons (se_v G1) (sl_cons (se_bin op_addD (se_bin op_addD (se_bin op_addD (se_v G1) se_int) (se_bin op_mulD se_int (se_v G1))) (se_v G1)) (sl_cons se_int sl_nil))))))) (sg_tup G0.calm (sgs_cons (sg_name G0.hN G0.nd G0.hsc (hf := by first | exact .inr rfl | (rw [hf0]; exact .inl rfl))) (sgs_cons (sg_name G0.hN G0.nd G0.hsc (hf := by first | exact .inr rfl | (rw [hf0]; exact .inl rfl))) sgs_nil))))
    (sbk_cons (ss_app G0 (se_tup (sk_cons (se_call G0 (sl_cons (se_v G0) (sl_cons (se_bin op_addD (se_bin op_addD (se_v G0) se_int) (se_bin op_mulD se_int (se_v G0))) (sl_cons (se_v G0) sl_nil)))) (sk_cons (se_v G0) (sk_cons (se_ite (sb_cmp (op_neDD G0.units) (se_v G0) (se_v G0) rfl) (se_v G0) se_str) sk_nil)))))
    sbk_nil)))
    (sbk_cons (ss_ret (se_tup (sk_cons (se_v G0) (sk_cons (se_v G0) (sk_cons (se_ite (sb_cmp (op_neDD G0.units) (se_v G0) (se_v G0) rfl) (se_v G0) se_str) (sk_cons (se_bT G0 cr_tuple (sl_cons (se_sortedSet G0 (se_v G0)) sl_nil) (by decide) boot_tuple) sk_nil))))))
    sbk_nil))))
theorem s__law_story : d__law_story.Sound fnames consts := fun F X G0 hf0 hp =>
  show SBk F X (defBody (Hd.top 51)) f__law_story.body from
    (sbk_cons (ss_parT G0 (sn_cons (se_bin op_addD se_int (se_call G0 (sl_cons (se_v G0) (sl_cons (se_v G0) (sl_cons se_int sl_nil))))) (sn_cons (se_lst sk_nil) sn_nil)) (sg_tup G0.calm (sgs_cons (sg_name G0.hN G0.nd G0.hsc (hf := by first | exact .inr rfl | (rw [hf0]; exact .inl rfl))) (sgs_cons (sg_name G0.hN G0.nd G0.hsc (hf := by first | exact .inr rfl | (rw [hf0]; exact .inl rfl))) sgs_nil))) (hw := by rw [env_with G0.hsc]; rfl))
    (sbk_cons (ss_setLc G0 [("k", 10)] (si_range1 G0 (se_bin op_addD se_int (se_call G0 (sl_cons (se_v G0) (sl_cons (se_bin op_addD (se_v G0) se_int) (sl_cons se_int sl_nil)))))) (fun X1 G1 hf1 => (sg_name G1.hN G1.nd G1.hsc (hf := by first | exact .inr rfl | (rw [hf1]; exact .inl rfl)))) (fun X1 G1 hf1 => (se_idx G1 (se_tup (sk_cons se_str (sk_cons se_str (sk_cons se_str (sk_cons se_str sk_nil))))) (se_call G1 (sl_cons (se_v G1) (sl_cons (se_bin op_addD (se_bin op_addD (se_v G1) se_int) (se_v G1)) (sl_cons se_int sl_nil)))))))
    (sbk_cons (ss_for G0 hp (si_range1 G0 (se_v G0)) (sg_name G0.hN G0.nd G0.hsc (hf := by first | exact .inr rfl | (rw [hf0]; exact .inl rfl))) (sbk_cons (ss_set G0 (se_bin op_addD (se_bin op_addD (se_v G0) se_int) (se_bin op_mulD se_int (se_v G0))) (hf := by first | exact .inr rfl | (rw [hf0]; exact .inl rfl)))
    (sbk_cons (ss_setLc G0 [("k", 10)] (si_range1 G0 (se_call G0 (sl_cons (se_v G0) (sl_cons (se_bin op_addD (se_v G0) se_int) (sl_cons se_int sl_nil))))) (fun X1 G1 hf1 => (sg_name G1.hN G1.nd G1.hsc (hf := by first | exact .inr rfl | (rw [hf1]; exact .inl rfl)))) (fun X1 G1 hf1 => (se_idx G1 (se_tup (sk_cons se_str (sk_cons se_str (sk_cons se_str sk_nil)))) (se_call G1 (sl_cons (se_v G1) (sl_cons (se_bin op_addD (se_v G1) (se_v G1)) (sl_cons se_int sl_nil)))))))
    (sbk_cons (ss_set G0 (se_sortedSet G0 (se_v G0)) (hf := by first | exact .inr rfl | (rw [hf0]; exact .inl rfl)))
    (sbk_cons (ss_setLc G0 [("k", 10), ("label", 11)] (si_enum G0 (se_v G0)) (fun X1 G1 hf1 => (sg_tup G1.calm (sgs_cons (sg_name G1.hN G1.nd G1.hsc (hf := by first | exact .inr rfl | (rw [hf1]; exact .inl rfl))) (sgs_cons (sg_name G1.hN G1.nd G1.hsc (hf := by first | exact .inr rfl | (rw [hf1]; exact .inl rfl))) sgs_nil)))) (fun X1 G1 hf1 => (se_call G1 (sl_cons (se_v G1) (sl_cons (se_bin op_addD (se_bin op_addD (se_v G1) se_int) (se_bin op_mulD se_int (se_v G1))) (sl_cons (se_v G1) (sl_cons (se_v G1) sl_nil)))))))
    (sbk_cons (ss_set G0 (se_idx G0 (se_tup (sk_cons se_str (sk_cons se_str (sk_cons se_str (sk_cons se_str sk_nil))))) (se_call G0 (sl_cons (se_v G0) (sl_cons (se_bin op_addD (se_v G0) se_int) (sl_cons se_int sl_nil))))) (hf := by first | exact .inr rfl | (rw [hf0]; exact .inl rfl)))
    (sbk_cons (ss_app G0 (se_tup (sk_cons (se_v G0) (sk_cons (se_idx G0 (se_tup (sk_cons se_str (sk_cons se_str (sk_cons se_str (sk_cons se_str sk_nil))))) (se_call G0 (sl_cons (se_v G0) (sl_cons (se_bin op_addD (se_v G0) se_int) (sl_cons se_int sl_nil))))) (sk_cons (se_bT G0 cr_tuple (sl_cons (se_v G0) sl_nil) (by decide) boot_tuple) sk_nil)))))
    sbk_nil)))))))
    (sbk_cons (ss_ret (se_tup (sk_cons (se_bT G0 cr_tuple (sl_cons (se_sortedSet G0 (se_v G0)) sl_nil) (by decide) boot_tuple) (sk_cons (se_bT G0 cr_tuple (sl_cons (se_v G0) sl_nil) (by decide) boot_tuple) sk_nil))))
    sbk_nil))))
theorem s__law_open : d__law_open.Sound fnames consts := fun F X G0 hf0 hp =>
  show SBk F X (defBody (Hd.top 52)) f__law_open.body from
    (sbk_cons (ss_ret (se_and (se_bF G0 (cr_allD G0.calm) (sl_cons (se_comp G0 [("mark", 2)] (si_seq (se_idx G0 (se_v G0) se_int)) (fun X1 G1 hf1 => (sg_name G1.hN G1.nd G1.hsc (hf := by first | exact .inr rfl | (rw [hf1]; exact .inl rfl)))) (fun X1 G1 hf1 => (se_cmp (op_inD G1.units) (se_v G1) (se_v G1) rfl))) sl_nil) (by decide) boot_all) (se_one (se_not (se_bF G0 (cr_anyD G0.calm) (sl_cons (se_comp G0 [("mark", 2)] (si_seq (se_idx G0 (se_v G0) se_int)) (fun X1 G1 hf1 => (sg_name G1.hN G1.nd G1.hsc (hf := by first | exact .inr rfl | (rw [hf1]; exact .inl rfl)))) (fun X1 G1 hf1 => (se_cmp (op_inD G1.units) (se_v G1) (se_v G1) rfl))) sl_nil) (by decide) boot_any)))))
    sbk_nil)
theorem s__law_goes : d__law_goes.Sound fnames consts := fun F X G0 hf0 hp =>
  show SBk F X (defBody (Hd.top 53)) f__law_goes.body from
    (sbk_cons (ss_setT G0 (se_v G0) (sg_tup G0.calm (sgs_cons (sg_name G0.hN G0.nd G0.hsc (hf := by first | exact .inr rfl | (rw [hf0]; exact .inl rfl))) (sgs_cons (sg_name G0.hN G0.nd G0.hsc (hf := by first | exact .inr rfl | (rw [hf0]; exact .inl rfl))) (sgs_cons (sg_name G0.hN G0.nd G0.hsc (hf := by first | exact .inr rfl | (rw [hf0]; exact .inl rfl))) sgs_nil)))))
    (sbk_cons (ss_set G0 (se_lst sk_nil) (hf := by first | exact .inr rfl | (rw [hf0]; exact .inl rfl)))
    (sbk_cons (ss_for G0 hp (si_seq (se_idx G0 (se_idx G0 (se_idx G0 (se_v G0) se_int) (se_v G0)) se_int)) (sg_name G0.hN G0.nd G0.hsc (hf := by first | exact .inr rfl | (rw [hf0]; exact .inl rfl))) (sbk_cons (ss_if (sb_w (sw_and (sb_cmp (op_eqDD G0.units) (se_idx G0 (se_v G0) se_int) (se_v G0) rfl) (sw_and1 (sb_val (se_call G0 (sl_cons (se_v G0) (sl_cons (se_v G0) sl_nil))))))) (sbk_cons (ss_for G0 hp (si_seq (se_idx G0 (se_v G0) se_int)) (sg_tup G0.calm (sgs_cons (sg_name G0.hN G0.nd G0.hsc (hf := by first | exact .inr rfl | (rw [hf0]; exact .inl rfl))) (sgs_cons (sg_name G0.hN G0.nd G0.hsc (hf := by first | exact .inr rfl | (rw [hf0]; exact .inl rfl))) (sgs_cons (sg_name G0.hN G0.nd G0.hsc (hf := by first | exact .inr rfl | (rw [hf0]; exact .inl rfl))) sgs_nil)))) (sbk_cons (ss_setLcIf G0 [("mark", 12)] (si_seq se_str) (fun X1 G1 hf1 => (sg_name G1.hN G1.nd G1.hsc (hf := by first | exact .inr rfl | (rw [hf1]; exact .inl rfl)))) (fun X1 G1 hf1 => (sb_w (sw_and (sb_cmp (op_inD G1.units) (se_v G1) (se_bin op_addD (se_v G1) (se_v G1)) rfl) (sw_and1 (sb_cmp (op_notInD G1.units) (se_v G1) (se_v G1) rfl))))) (fun X1 G1 hf1 => (se_v G1)))
    (sbk_cons (ss_app G0 (se_tup (sk_cons (se_v G0) (sk_cons (se_v G0) (sk_cons (se_join se_str (se_v G0)) sk_nil)))))
    sbk_nil)))
    sbk_nil) sbk_nil)
    sbk_nil))
    (sbk_cons (ss_ret (se_sortedSet G0 (se_v G0)))
    sbk_nil))))
theorem s__law_steps : d__law_steps.Sound fnames consts := fun F X G0 hf0 hp =>
  show SBk F X (defBody (Hd.top 54)) f__law_steps.body from
    (sbk_cons (ss_set G0 (se_lst sk_nil) (hf := by first | exact .inr rfl | (rw [hf0]; exact .inl rfl)))
    (sbk_cons (ss_for G0 hp (si_seq (se_idx G0 (se_idx G0 (se_idx G0 (se_v G0) se_int) (se_idx G0 (se_v G0) se_int)) se_int)) (sg_name G0.hN G0.nd G0.hsc (hf := by first | exact .inr rfl | (rw [hf0]; exact .inl rfl))) (sbk_cons (ss_ext G0 (se_call G0 (sl_cons (se_v G0) (sl_cons (se_v G0) (sl_cons (se_idx G0 (se_v G0) se_int) sl_nil)))))
    sbk_nil))
    (sbk_cons (ss_ret (se_sortedSet G0 (se_v G0)))
    sbk_nil)))
theorem s__law_met : d__law_met.Sound fnames consts := fun F X G0 hf0 hp =>
  show SBk F X (defBody (Hd.top 55)) f__law_met.body from
    (sbk_cons (ss_par G0 se_emp (se_bT G0 cr_list (sl_cons (se_v G0) sl_nil) (by decide) boot_list) (hw := by rw [env_with G0.hsc]; rfl))
    (sbk_cons (ss_while hp (sb_cmp (op_neDD G0.units) (se_v G0) (se_lst sk_nil) rfl) (sbk_cons (ss_pop G0 (hf := by first | exact .inr rfl | (rw [hf0]; exact .inl rfl)))
    (sbk_cons (ss_if (sb_cmp (op_notInD G0.units) (se_v G0) (se_v G0) rfl) (sbk_cons (ss_put G0 (se_v G0) (se_call G0 (sl_cons (se_v G0) (sl_cons (se_v G0) sl_nil))))
    (sbk_cons (ss_ext G0 (se_idx G0 (se_v G0) (se_v G0)))
    sbk_nil)) sbk_nil)
    sbk_nil)))
    (sbk_cons (ss_retV G0)
    sbk_nil)))
theorem s__law_firsts : d__law_firsts.Sound fnames consts := fun F X G0 hf0 hp =>
  show SBk F X (defBody (Hd.top 56)) f__law_firsts.body from
    (sbk_cons (ss_ret (se_comp G0 [("number", 1), ("marks", 2)] (si_enum G0 (se_idx G0 (se_v G0) se_int)) (fun X1 G1 hf1 => (sg_tup G1.calm (sgs_cons (sg_name G1.hN G1.nd G1.hsc (hf := by first | exact .inr rfl | (rw [hf1]; exact .inl rfl))) (sgs_cons (sg_name G1.hN G1.nd G1.hsc (hf := by first | exact .inr rfl | (rw [hf1]; exact .inl rfl))) sgs_nil)))) (fun X1 G1 hf1 => (se_tup (sk_cons (se_v G1) (sk_cons se_int (sk_cons (se_v G1) sk_nil)))))))
    sbk_nil)
theorem s__law_longest : d__law_longest.Sound fnames consts := fun F X G0 hf0 hp =>
  show SBk F X (defBody (Hd.top 57)) f__law_longest.body from
    (sbk_cons (ss_par G0 (se_bT G0 cr_list (sl_cons (se_v G0) sl_nil) (by decide) boot_list) se_int (hw := by rw [env_with G0.hsc]; rfl))
    (sbk_cons (ss_while hp (sb_cmp (op_leD G0.units) (se_v G0) (se_bF G0 cr_len (sl_cons (se_v G0) sl_nil) (by decide) boot_len) rfl) (sbk_cons (ss_set G0 (se_lst sk_nil) (hf := by first | exact .inr rfl | (rw [hf0]; exact .inl rfl)))
    (sbk_cons (ss_for G0 hp (si_seq (se_v G0)) (sg_name G0.hN G0.nd G0.hsc (hf := by first | exact .inr rfl | (rw [hf0]; exact .inl rfl))) (sbk_cons (ss_ext G0 (se_idx G0 (se_v G0) (se_v G0)))
    sbk_nil))
    (sbk_cons (ss_if (sb_cmp (op_eqDD G0.units) (se_v G0) (se_lst sk_nil) rfl) (sbk_cons (ss_retV G0)
    sbk_nil) sbk_nil)
    (sbk_cons (ss_par G0 (se_sortedSet G0 (se_v G0)) (se_bin op_addD (se_v G0) se_int) (hw := by rw [env_with G0.hsc]; rfl))
    sbk_nil)))))
    (sbk_cons (ss_ret se_non)
    sbk_nil)))
theorem s_law : d_law.Sound fnames consts := fun F X G0 hf0 hp =>
  show SBk F X (defBody (Hd.top 58)) f_law_2.body from
    (sbk_cons (ss_for G0 hp (si_range1 G0 se_int) (sg_name G0.hN G0.nd G0.hsc (hf := by first | exact .inr rfl | (rw [hf0]; exact .inl rfl))) (sbk_cons (ss_set G0 (se_call G0 (sl_cons (se_v G0) (sl_cons (se_bin op_mulD se_int (se_v G0)) sl_nil))) (hf := by first | exact .inr rfl | (rw [hf0]; exact .inl rfl)))
    (sbk_cons (ss_set G0 (se_call G0 (sl_cons (se_v G0) (sl_cons (se_call G0 (sl_cons (se_v G0) sl_nil)) sl_nil))) (hf := by first | exact .inr rfl | (rw [hf0]; exact .inl rfl)))
    (sbk_cons (ss_set G0 (se_bF G0 (cr_sorted G0.calm G0.units) (sl_cons (se_compIf G0 [("state", 9)] (si_seq (se_v G0)) (fun X1 G1 hf1 => (sg_name G1.hN G1.nd G1.hsc (hf := by first | exact .inr rfl | (rw [hf1]; exact .inl rfl)))) (fun X1 G1 hf1 => (sb_cmp (op_eqDD G1.units) (se_idx G1 (se_v G1) (se_v G1)) (se_lst sk_nil) rfl)) (fun X1 G1 hf1 => (se_v G1))) sl_nil) (by decide) boot_sorted) (hf := by first | exact .inr rfl | (rw [hf0]; exact .inl rfl)))
    (sbk_cons (ss_set G0 (se_sortedSet G0 (se_comp G0 [("state", 9)] (si_seq (se_v G0)) (fun X1 G1 hf1 => (sg_name G1.hN G1.nd G1.hsc (hf := by first | exact .inr rfl | (rw [hf1]; exact .inl rfl)))) (fun X1 G1 hf1 => (se_idx G1 (se_idx G1 (se_idx G1 (se_v G1) se_int) (se_idx G1 (se_v G1) se_int)) se_int)))) (hf := by first | exact .inr rfl | (rw [hf0]; exact .inl rfl)))
    (sbk_cons (ss_if (sb_w (sw_or (sb_cmp (op_neDD G0.units) (se_call G0 (sl_cons (se_v G0) sl_nil)) (se_v G0) rfl) (sw_or1 (sb_cmp (op_neDD G0.units) (se_call G0 (sl_cons (se_v G0) sl_nil)) (se_v G0) rfl)))) (sbk_cons (ss_ret se_bl)
    sbk_nil) sbk_nil)
    (sbk_cons (ss_set G0 (se_bT G0 (cr_dictOf G0.calm G0.units) (sl_cons (se_comp G0 [("state", 9)] (si_seq (se_v G0)) (fun X1 G1 hf1 => (sg_name G1.hN G1.nd G1.hsc (hf := by first | exact .inr rfl | (rw [hf1]; exact .inl rfl)))) (fun X1 G1 hf1 => (se_tup (sk_cons (se_v G1) (sk_cons (se_call G1 (sl_cons (se_v G1) (sl_cons (se_lst (sk_cons (se_v G1) sk_nil)) sl_nil))) sk_nil))))) sl_nil) (by decide) boot_dict) (hf := by first | exact .inr rfl | (rw [hf0]; exact .inl rfl)))
    (sbk_cons (ss_if (sb_cmp (op_neDD G0.units) (se_call G0 (sl_cons (se_v G0) sl_nil)) (se_bF G0 (cr_sorted G0.calm G0.units) (sl_cons (se_compIf G0 [("state", 9)] (si_seq (se_v G0)) (fun X1 G1 hf1 => (sg_name G1.hN G1.nd G1.hsc (hf := by first | exact .inr rfl | (rw [hf1]; exact .inl rfl)))) (fun X1 G1 hf1 => (sb_cmp (op_eqDD G1.units) (se_compIf G1 [("end", 12)] (si_seq (se_v G1)) (fun X2 G2 hf2 => (sg_name G2.hN G2.nd G2.hsc (hf := by first | exact .inr rfl | (rw [hf2]; exact .inl rfl)))) (fun X2 G2 hf2 => (sb_cmp (op_inD G2.units) (se_v G2) (se_idx G2 (se_v G2) (se_v G2)) rfl)) (fun X2 G2 hf2 => (se_v G2))) (se_lst sk_nil) rfl)) (fun X1 G1 hf1 => (se_v G1))) sl_nil) (by decide) boot_sorted) rfl) (sbk_cons (ss_ret se_bl)
    sbk_nil) sbk_nil)
    (sbk_cons (ss_set G0 (se_lst sk_nil) (hf := by first | exact .inr rfl | (rw [hf0]; exact .inl rfl)))
    (sbk_cons (ss_for G0 hp (si_seq (se_v G0)) (sg_name G0.hN G0.nd G0.hsc (hf := by first | exact .inr rfl | (rw [hf0]; exact .inl rfl))) (sbk_cons (ss_set G0 (se_call G0 (sl_cons (se_v G0) (sl_cons (se_idx G0 (se_v G0) (se_v G0)) sl_nil))) (hf := by first | exact .inr rfl | (rw [hf0]; exact .inl rfl)))
    (sbk_cons (ss_ext G0 (se_ite (sb_cmp (op_inD G0.units) (se_v G0) (se_v G0) rfl) (se_lst (sk_cons (se_v G0) sk_nil)) (se_lst sk_nil)))
    sbk_nil)))
    (sbk_cons (ss_if (sb_cmp (op_neDD G0.units) (se_call G0 (sl_cons (se_v G0) sl_nil)) (se_bF G0 (cr_sorted G0.calm G0.units) (sl_cons (se_v G0) sl_nil) (by decide) boot_sorted) rfl) (sbk_cons (ss_ret se_bl)
    sbk_nil) sbk_nil)
    (sbk_cons (ss_set G0 (se_call G0 (sl_cons (se_v G0) (sl_cons (se_call G0 (sl_cons (se_v G0) sl_nil)) sl_nil))) (hf := by first | exact .inr rfl | (rw [hf0]; exact .inl rfl)))
    (sbk_cons (ss_if (sb_w (sw_or (sb_cmp (op_neDD G0.units) (se_call G0 (sl_cons (se_v G0) sl_nil)) (se_v G0) rfl) (sw_or1 (sb_cmp (op_neDD G0.units) (se_cmp (op_isND) (se_v G0) se_non rfl) (se_cmp (op_neDD G0.units) (se_v G0) (se_lst sk_nil) rfl) rfl)))) (sbk_cons (ss_ret se_bl)
    sbk_nil) sbk_nil)
    (sbk_cons (ss_if (sb_w (sw_and (sb_cmp (op_notND) (se_v G0) se_non rfl) (sw_and1 (sb_w (sw_or (sb_cmp (op_neDD G0.units) (se_call G0 (sl_cons (se_v G0) sl_nil)) (se_lst sk_nil) rfl) (sw_or1 (sb_cmp (op_neDD G0.units) (se_call G0 (sl_cons (se_v G0) (sl_cons (se_bF G0 (cr_min2 G0.calm) (sl_cons (se_bin op_addD (se_v G0) se_int) (sl_cons se_int sl_nil)) (by decide) boot_min) sl_nil))) se_int rfl))))))) (sbk_cons (ss_ret se_bl)
    sbk_nil) sbk_nil)
    sbk_nil))))))))))))))
    (sbk_cons (ss_set G0 (se_tup (sk_cons (se_tup (sk_cons se_str sk_nil)) (sk_cons (se_tup (sk_cons (se_tup (sk_cons se_str (sk_cons se_str (sk_cons (se_tup (sk_cons (se_tup (sk_cons se_str (sk_cons se_str (sk_cons se_str (sk_cons (se_tup (sk_cons (se_tup (sk_cons se_int (sk_cons se_str (sk_cons se_str sk_nil)))) sk_nil)) sk_nil))))) sk_nil)) sk_nil)))) (sk_cons (se_tup (sk_cons se_str (sk_cons se_str (sk_cons (se_tup (sk_cons (se_tup (sk_cons se_str (sk_cons se_str (sk_cons se_str (sk_cons (se_tup (sk_cons (se_tup (sk_cons se_int (sk_cons se_str (sk_cons se_str sk_nil)))) sk_nil)) sk_nil))))) sk_nil)) sk_nil)))) sk_nil))) sk_nil))) (hf := by first | exact .inr rfl | (rw [hf0]; exact .inl rfl)))
    (sbk_cons (ss_if (sb_w (sw_or (sb_cmp (op_neDD G0.units) (se_call G0 (sl_cons (se_v G0) sl_nil)) (se_lst (sk_cons (se_tup (sk_cons se_int (sk_cons se_int (sk_cons se_str sk_nil)))) (sk_cons (se_tup (sk_cons se_int (sk_cons se_int (sk_cons se_str sk_nil)))) sk_nil))) rfl) (sw_or (sb_cmp (op_neDD G0.units) (se_call G0 (sl_cons (se_v G0) sl_nil)) (se_lst (sk_cons (se_tup (sk_cons se_int (sk_cons se_int (sk_cons se_str sk_nil)))) sk_nil)) rfl) (sw_or1 (sb_cmp (op_notND) (se_call G0 (sl_cons (se_v G0) sl_nil)) se_non rfl))))) (sbk_cons (ss_ret se_bl)
    sbk_nil) sbk_nil)
    (sbk_cons (ss_ret (se_and (se_cmp (op_eqDD G0.units) (se_call G0 (sl_cons (se_v G0) sl_nil)) (se_lst sk_nil) rfl) (se_one (se_cmp (op_eqDD G0.units) (se_call G0 (sl_cons (se_tup (sk_cons (se_tup (sk_cons se_str sk_nil)) (sk_cons (se_tup (sk_cons (se_tup (sk_cons se_str (sk_cons se_str (sk_cons (se_tup sk_nil) sk_nil)))) sk_nil)) sk_nil))) sl_nil)) se_int rfl))))
    sbk_nil))))
end K52

set_option autoImplicit false
set_option linter.all false
set_option maxRecDepth 100000
set_option maxHeartbeats 0
namespace K52
open PySem PySem.Spec PyProof.Rows L2 Rk
def defs : List Df := [d_is_int, d_is_rising, d_is_word, d_are_marks, d_are_apart, d_is_outcome, d_is_option, d_is_passage, d_is_story, d_check_story, d_find_firsts, d_is_offered, d_options_at, d_find_offered, d_changed, d_outcomes_at, d_find_next, d_steps_from, d_states_ahead, d_find_met, d_find_count, d_count_plays, d_find_ends, d_met_ends, d_end_texts, d_find_traps, d_traps, d_is_round, d_find_rounds, d_rounds, d_longest_play, d__law_pick, d__law_option, d__law_story, d__law_open, d__law_goes, d__law_steps, d__law_met, d__law_firsts, d__law_longest, d_law]
def tb : Tb := tblOf defs
theorem defs_name : fnsOf defs = fnames := rfl
theorem defs_tb : ∀ d ∈ defs, tblOf defs d.id = some d.fn := (all_cons rfl (all_cons rfl (all_cons rfl (all_cons rfl (all_cons rfl (all_cons rfl (all_cons rfl (all_cons rfl (all_cons rfl (all_cons rfl (all_cons rfl (all_cons rfl (all_cons rfl (all_cons rfl (all_cons rfl (all_cons rfl (all_cons rfl (all_cons rfl (all_cons rfl (all_cons rfl (all_cons rfl (all_cons rfl (all_cons rfl (all_cons rfl (all_cons rfl (all_cons rfl (all_cons rfl (all_cons rfl (all_cons rfl (all_cons rfl (all_cons rfl (all_cons rfl (all_cons rfl (all_cons rfl (all_cons rfl (all_cons rfl (all_cons rfl (all_cons rfl (all_cons rfl (all_cons rfl (all_cons rfl all_nil)))))))))))))))))))))))))))))))))))))))))
theorem o_is_int : d_is_int.Ok fnames consts := ⟨⟨rfl, rfl, rfl, by decide +kernel, rfl, by decide +kernel, by decide +kernel⟩, rfl, rfl, s_is_int⟩
theorem o_is_rising : d_is_rising.Ok fnames consts := ⟨⟨rfl, rfl, rfl, by decide +kernel, rfl, by decide +kernel, by decide +kernel⟩, rfl, rfl, s_is_rising⟩
theorem o_is_word : d_is_word.Ok fnames consts := ⟨⟨rfl, rfl, rfl, by decide +kernel, rfl, by decide +kernel, by decide +kernel⟩, rfl, rfl, s_is_word⟩
theorem o_are_marks : d_are_marks.Ok fnames consts := ⟨⟨rfl, rfl, rfl, by decide +kernel, rfl, by decide +kernel, by decide +kernel⟩, rfl, rfl, s_are_marks⟩
theorem o_are_apart : d_are_apart.Ok fnames consts := ⟨⟨rfl, rfl, rfl, by decide +kernel, rfl, by decide +kernel, by decide +kernel⟩, rfl, rfl, s_are_apart⟩
theorem o_is_outcome : d_is_outcome.Ok fnames consts := ⟨⟨rfl, rfl, rfl, by decide +kernel, rfl, by decide +kernel, by decide +kernel⟩, rfl, rfl, s_is_outcome⟩
theorem o_is_option : d_is_option.Ok fnames consts := ⟨⟨rfl, rfl, rfl, by decide +kernel, rfl, by decide +kernel, by decide +kernel⟩, rfl, rfl, s_is_option⟩
theorem o_is_passage : d_is_passage.Ok fnames consts := ⟨⟨rfl, rfl, rfl, by decide +kernel, rfl, by decide +kernel, by decide +kernel⟩, rfl, rfl, s_is_passage⟩
theorem o_is_story : d_is_story.Ok fnames consts := ⟨⟨rfl, rfl, rfl, by decide +kernel, rfl, by decide +kernel, by decide +kernel⟩, rfl, rfl, s_is_story⟩
theorem o_check_story : d_check_story.Ok fnames consts := ⟨⟨rfl, rfl, rfl, by decide +kernel, rfl, by decide +kernel, by decide +kernel⟩, rfl, rfl, s_check_story⟩
theorem o_find_firsts : d_find_firsts.Ok fnames consts := ⟨⟨rfl, rfl, rfl, by decide +kernel, rfl, by decide +kernel, by decide +kernel⟩, rfl, rfl, s_find_firsts⟩
theorem o_is_offered : d_is_offered.Ok fnames consts := ⟨⟨rfl, rfl, rfl, by decide +kernel, rfl, by decide +kernel, by decide +kernel⟩, rfl, rfl, s_is_offered⟩
theorem o_options_at : d_options_at.Ok fnames consts := ⟨⟨rfl, rfl, rfl, by decide +kernel, rfl, by decide +kernel, by decide +kernel⟩, rfl, rfl, s_options_at⟩
theorem o_find_offered : d_find_offered.Ok fnames consts := ⟨⟨rfl, rfl, rfl, by decide +kernel, rfl, by decide +kernel, by decide +kernel⟩, rfl, rfl, s_find_offered⟩
theorem o_changed : d_changed.Ok fnames consts := ⟨⟨rfl, rfl, rfl, by decide +kernel, rfl, by decide +kernel, by decide +kernel⟩, rfl, rfl, s_changed⟩
theorem o_outcomes_at : d_outcomes_at.Ok fnames consts := ⟨⟨rfl, rfl, rfl, by decide +kernel, rfl, by decide +kernel, by decide +kernel⟩, rfl, rfl, s_outcomes_at⟩
theorem o_find_next : d_find_next.Ok fnames consts := ⟨⟨rfl, rfl, rfl, by decide +kernel, rfl, by decide +kernel, by decide +kernel⟩, rfl, rfl, s_find_next⟩
theorem o_steps_from : d_steps_from.Ok fnames consts := ⟨⟨rfl, rfl, rfl, by decide +kernel, rfl, by decide +kernel, by decide +kernel⟩, rfl, rfl, s_steps_from⟩
theorem o_states_ahead : d_states_ahead.Ok fnames consts := ⟨⟨rfl, rfl, rfl, by decide +kernel, rfl, by decide +kernel, by decide +kernel⟩, rfl, rfl, s_states_ahead⟩
theorem o_find_met : d_find_met.Ok fnames consts := ⟨⟨rfl, rfl, rfl, by decide +kernel, rfl, by decide +kernel, by decide +kernel⟩, rfl, rfl, s_find_met⟩
theorem o_find_count : d_find_count.Ok fnames consts := ⟨⟨rfl, rfl, rfl, by decide +kernel, rfl, by decide +kernel, by decide +kernel⟩, rfl, rfl, s_find_count⟩
theorem o_count_plays : d_count_plays.Ok fnames consts := ⟨⟨rfl, rfl, rfl, by decide +kernel, rfl, by decide +kernel, by decide +kernel⟩, rfl, rfl, s_count_plays⟩
theorem o_find_ends : d_find_ends.Ok fnames consts := ⟨⟨rfl, rfl, rfl, by decide +kernel, rfl, by decide +kernel, by decide +kernel⟩, rfl, rfl, s_find_ends⟩
theorem o_met_ends : d_met_ends.Ok fnames consts := ⟨⟨rfl, rfl, rfl, by decide +kernel, rfl, by decide +kernel, by decide +kernel⟩, rfl, rfl, s_met_ends⟩
theorem o_end_texts : d_end_texts.Ok fnames consts := ⟨⟨rfl, rfl, rfl, by decide +kernel, rfl, by decide +kernel, by decide +kernel⟩, rfl, rfl, s_end_texts⟩
theorem o_find_traps : d_find_traps.Ok fnames consts := ⟨⟨rfl, rfl, rfl, by decide +kernel, rfl, by decide +kernel, by decide +kernel⟩, rfl, rfl, s_find_traps⟩
theorem o_traps : d_traps.Ok fnames consts := ⟨⟨rfl, rfl, rfl, by decide +kernel, rfl, by decide +kernel, by decide +kernel⟩, rfl, rfl, s_traps⟩
theorem o_is_round : d_is_round.Ok fnames consts := ⟨⟨rfl, rfl, rfl, by decide +kernel, rfl, by decide +kernel, by decide +kernel⟩, rfl, rfl, s_is_round⟩
theorem o_find_rounds : d_find_rounds.Ok fnames consts := ⟨⟨rfl, rfl, rfl, by decide +kernel, rfl, by decide +kernel, by decide +kernel⟩, rfl, rfl, s_find_rounds⟩
theorem o_rounds : d_rounds.Ok fnames consts := ⟨⟨rfl, rfl, rfl, by decide +kernel, rfl, by decide +kernel, by decide +kernel⟩, rfl, rfl, s_rounds⟩
theorem o_longest_play : d_longest_play.Ok fnames consts := ⟨⟨rfl, rfl, rfl, by decide +kernel, rfl, by decide +kernel, by decide +kernel⟩, rfl, rfl, s_longest_play⟩
theorem o__law_pick : d__law_pick.Ok fnames consts := ⟨⟨rfl, rfl, rfl, by decide +kernel, rfl, by decide +kernel, by decide +kernel⟩, rfl, rfl, s__law_pick⟩
theorem o__law_option : d__law_option.Ok fnames consts := ⟨⟨rfl, rfl, rfl, by decide +kernel, rfl, by decide +kernel, by decide +kernel⟩, rfl, rfl, s__law_option⟩
theorem o__law_story : d__law_story.Ok fnames consts := ⟨⟨rfl, rfl, rfl, by decide +kernel, rfl, by decide +kernel, by decide +kernel⟩, rfl, rfl, s__law_story⟩
theorem o__law_open : d__law_open.Ok fnames consts := ⟨⟨rfl, rfl, rfl, by decide +kernel, rfl, by decide +kernel, by decide +kernel⟩, rfl, rfl, s__law_open⟩
theorem o__law_goes : d__law_goes.Ok fnames consts := ⟨⟨rfl, rfl, rfl, by decide +kernel, rfl, by decide +kernel, by decide +kernel⟩, rfl, rfl, s__law_goes⟩
theorem o__law_steps : d__law_steps.Ok fnames consts := ⟨⟨rfl, rfl, rfl, by decide +kernel, rfl, by decide +kernel, by decide +kernel⟩, rfl, rfl, s__law_steps⟩
theorem o__law_met : d__law_met.Ok fnames consts := ⟨⟨rfl, rfl, rfl, by decide +kernel, rfl, by decide +kernel, by decide +kernel⟩, rfl, rfl, s__law_met⟩
theorem o__law_firsts : d__law_firsts.Ok fnames consts := ⟨⟨rfl, rfl, rfl, by decide +kernel, rfl, by decide +kernel, by decide +kernel⟩, rfl, rfl, s__law_firsts⟩
theorem o__law_longest : d__law_longest.Ok fnames consts := ⟨⟨rfl, rfl, rfl, by decide +kernel, rfl, by decide +kernel, by decide +kernel⟩, rfl, rfl, s__law_longest⟩
theorem o_law : d_law.Ok fnames consts := ⟨⟨rfl, rfl, rfl, by decide +kernel, rfl, by decide +kernel, by decide +kernel⟩, rfl, rfl, s_law⟩
theorem defs_ok : ∀ d ∈ defs, d.Ok fnames consts := (all_cons o_is_int (all_cons o_is_rising (all_cons o_is_word (all_cons o_are_marks (all_cons o_are_apart (all_cons o_is_outcome (all_cons o_is_option (all_cons o_is_passage (all_cons o_is_story (all_cons o_check_story (all_cons o_find_firsts (all_cons o_is_offered (all_cons o_options_at (all_cons o_find_offered (all_cons o_changed (all_cons o_outcomes_at (all_cons o_find_next (all_cons o_steps_from (all_cons o_states_ahead (all_cons o_find_met (all_cons o_find_count (all_cons o_count_plays (all_cons o_find_ends (all_cons o_met_ends (all_cons o_end_texts (all_cons o_find_traps (all_cons o_traps (all_cons o_is_round (all_cons o_find_rounds (all_cons o_rounds (all_cons o_longest_play (all_cons o__law_pick (all_cons o__law_option (all_cons o__law_story (all_cons o__law_open (all_cons o__law_goes (all_cons o__law_steps (all_cons o__law_met (all_cons o__law_firsts (all_cons o__law_longest (all_cons o_law all_nil)))))))))))))))))))))))))))))))))))))))))
section
variable {K : PySem.W.Frag} {h : Heap} {mg : Str → Option Value}
theorem a_is_int (X : K.In h) (G : h.Ns mainGlobals mg) (c : He.SaysD Hd.fa Hd.fn K) : d_is_int.At (noLs K) mg := by
  obtain ⟨fd, F⟩ := c.def_ 0 (d := Hd.mkD "is_int" 12) rfl
  exact ⟨_, fd, noLs_fun F, He.glo_ok X G (c.fact 0 (f := .glo "is_int") rfl), (noLs_fun F).bindsN fun _ _ _ _ _ _ us hl => match us, hl with | [_, _, _], _ => rfl⟩
theorem a_is_rising (X : K.In h) (G : h.Ns mainGlobals mg) (c : He.SaysD Hd.fa Hd.fn K) : d_is_rising.At (noLs K) mg := by
  obtain ⟨fd, F⟩ := c.def_ 1 (d := Hd.mkD "is_rising" 13) rfl
  exact ⟨_, fd, noLs_fun F, He.glo_ok X G (c.fact 1 (f := .glo "is_rising") rfl), (noLs_fun F).bindsN fun _ _ _ _ _ _ us hl => match us, hl with | [_], _ => rfl⟩
theorem a_is_word (X : K.In h) (G : h.Ns mainGlobals mg) (c : He.SaysD Hd.fa Hd.fn K) : d_is_word.At (noLs K) mg := by
  obtain ⟨fd, F⟩ := c.def_ 2 (d := Hd.mkD "is_word" 14) rfl
  exact ⟨_, fd, noLs_fun F, He.glo_ok X G (c.fact 2 (f := .glo "is_word") rfl), (noLs_fun F).bindsN fun _ _ _ _ _ _ us hl => match us, hl with | [_], _ => rfl⟩
theorem a_are_marks (X : K.In h) (G : h.Ns mainGlobals mg) (c : He.SaysD Hd.fa Hd.fn K) : d_are_marks.At (noLs K) mg := by
  obtain ⟨fd, F⟩ := c.def_ 3 (d := Hd.mkD "are_marks" 15) rfl
  exact ⟨_, fd, noLs_fun F, He.glo_ok X G (c.fact 3 (f := .glo "are_marks") rfl), (noLs_fun F).bindsN fun _ _ _ _ _ _ us hl => match us, hl with | [_], _ => rfl⟩
theorem a_are_apart (X : K.In h) (G : h.Ns mainGlobals mg) (c : He.SaysD Hd.fa Hd.fn K) : d_are_apart.At (noLs K) mg := by
  obtain ⟨fd, F⟩ := c.def_ 4 (d := Hd.mkD "are_apart" 16) rfl
  exact ⟨_, fd, noLs_fun F, He.glo_ok X G (c.fact 4 (f := .glo "are_apart") rfl), (noLs_fun F).bindsN fun _ _ _ _ _ _ us hl => match us, hl with | [_, _], _ => rfl⟩
theorem a_is_outcome (X : K.In h) (G : h.Ns mainGlobals mg) (c : He.SaysD Hd.fa Hd.fn K) : d_is_outcome.At (noLs K) mg := by
  obtain ⟨fd, F⟩ := c.def_ 5 (d := Hd.mkD "is_outcome" 17) rfl
  exact ⟨_, fd, noLs_fun F, He.glo_ok X G (c.fact 5 (f := .glo "is_outcome") rfl), (noLs_fun F).bindsN fun _ _ _ _ _ _ us hl => match us, hl with | [_, _], _ => rfl⟩
theorem a_is_option (X : K.In h) (G : h.Ns mainGlobals mg) (c : He.SaysD Hd.fa Hd.fn K) : d_is_option.At (noLs K) mg := by
  obtain ⟨fd, F⟩ := c.def_ 6 (d := Hd.mkD "is_option" 18) rfl
  exact ⟨_, fd, noLs_fun F, He.glo_ok X G (c.fact 6 (f := .glo "is_option") rfl), (noLs_fun F).bindsN fun _ _ _ _ _ _ us hl => match us, hl with | [_, _], _ => rfl⟩
theorem a_is_passage (X : K.In h) (G : h.Ns mainGlobals mg) (c : He.SaysD Hd.fa Hd.fn K) : d_is_passage.At (noLs K) mg := by
  obtain ⟨fd, F⟩ := c.def_ 7 (d := Hd.mkD "is_passage" 19) rfl
  exact ⟨_, fd, noLs_fun F, He.glo_ok X G (c.fact 7 (f := .glo "is_passage") rfl), (noLs_fun F).bindsN fun _ _ _ _ _ _ us hl => match us, hl with | [_, _], _ => rfl⟩
theorem a_is_story (X : K.In h) (G : h.Ns mainGlobals mg) (c : He.SaysD Hd.fa Hd.fn K) : d_is_story.At (noLs K) mg := by
  obtain ⟨fd, F⟩ := c.def_ 8 (d := Hd.mkD "is_story" 20) rfl
  exact ⟨_, fd, noLs_fun F, He.glo_ok X G (c.fact 8 (f := .glo "is_story") rfl), (noLs_fun F).bindsN fun _ _ _ _ _ _ us hl => match us, hl with | [_], _ => rfl⟩
theorem a_check_story (X : K.In h) (G : h.Ns mainGlobals mg) (c : He.SaysD Hd.fa Hd.fn K) : d_check_story.At (noLs K) mg := by
  obtain ⟨fd, F⟩ := c.def_ 9 (d := Hd.mkD "check_story" 21) rfl
  exact ⟨_, fd, noLs_fun F, He.glo_ok X G (c.fact 9 (f := .glo "check_story") rfl), (noLs_fun F).bindsN fun _ _ _ _ _ _ us hl => match us, hl with | [_], _ => rfl⟩
theorem a_find_firsts (X : K.In h) (G : h.Ns mainGlobals mg) (c : He.SaysD Hd.fa Hd.fn K) : d_find_firsts.At (noLs K) mg := by
  obtain ⟨fd, F⟩ := c.def_ 10 (d := Hd.mkD "find_firsts" 23) rfl
  exact ⟨_, fd, noLs_fun F, He.glo_ok X G (c.fact 10 (f := .glo "find_firsts") rfl), (noLs_fun F).bindsN fun _ _ _ _ _ _ us hl => match us, hl with | [_], _ => rfl⟩
theorem a_is_offered (X : K.In h) (G : h.Ns mainGlobals mg) (c : He.SaysD Hd.fa Hd.fn K) : d_is_offered.At (noLs K) mg := by
  obtain ⟨fd, F⟩ := c.def_ 11 (d := Hd.mkD "is_offered" 24) rfl
  exact ⟨_, fd, noLs_fun F, He.glo_ok X G (c.fact 11 (f := .glo "is_offered") rfl), (noLs_fun F).bindsN fun _ _ _ _ _ _ us hl => match us, hl with | [_, _], _ => rfl⟩
theorem a_options_at (X : K.In h) (G : h.Ns mainGlobals mg) (c : He.SaysD Hd.fa Hd.fn K) : d_options_at.At (noLs K) mg := by
  obtain ⟨fd, F⟩ := c.def_ 12 (d := Hd.mkD "options_at" 25) rfl
  exact ⟨_, fd, noLs_fun F, He.glo_ok X G (c.fact 12 (f := .glo "options_at") rfl), (noLs_fun F).bindsN fun _ _ _ _ _ _ us hl => match us, hl with | [_, _], _ => rfl⟩
theorem a_find_offered (X : K.In h) (G : h.Ns mainGlobals mg) (c : He.SaysD Hd.fa Hd.fn K) : d_find_offered.At (noLs K) mg := by
  obtain ⟨fd, F⟩ := c.def_ 13 (d := Hd.mkD "find_offered" 26) rfl
  exact ⟨_, fd, noLs_fun F, He.glo_ok X G (c.fact 13 (f := .glo "find_offered") rfl), (noLs_fun F).bindsN fun _ _ _ _ _ _ us hl => match us, hl with | [_, _], _ => rfl⟩
theorem a_changed (X : K.In h) (G : h.Ns mainGlobals mg) (c : He.SaysD Hd.fa Hd.fn K) : d_changed.At (noLs K) mg := by
  obtain ⟨fd, F⟩ := c.def_ 14 (d := Hd.mkD "changed" 27) rfl
  exact ⟨_, fd, noLs_fun F, He.glo_ok X G (c.fact 14 (f := .glo "changed") rfl), (noLs_fun F).bindsN fun _ _ _ _ _ _ us hl => match us, hl with | [_, _, _], _ => rfl⟩
theorem a_outcomes_at (X : K.In h) (G : h.Ns mainGlobals mg) (c : He.SaysD Hd.fa Hd.fn K) : d_outcomes_at.At (noLs K) mg := by
  obtain ⟨fd, F⟩ := c.def_ 15 (d := Hd.mkD "outcomes_at" 28) rfl
  exact ⟨_, fd, noLs_fun F, He.glo_ok X G (c.fact 15 (f := .glo "outcomes_at") rfl), (noLs_fun F).bindsN fun _ _ _ _ _ _ us hl => match us, hl with | [_, _, _], _ => rfl⟩
theorem a_find_next (X : K.In h) (G : h.Ns mainGlobals mg) (c : He.SaysD Hd.fa Hd.fn K) : d_find_next.At (noLs K) mg := by
  obtain ⟨fd, F⟩ := c.def_ 16 (d := Hd.mkD "find_next" 29) rfl
  exact ⟨_, fd, noLs_fun F, He.glo_ok X G (c.fact 16 (f := .glo "find_next") rfl), (noLs_fun F).bindsN fun _ _ _ _ _ _ us hl => match us, hl with | [_, _, _], _ => rfl⟩
theorem a_steps_from (X : K.In h) (G : h.Ns mainGlobals mg) (c : He.SaysD Hd.fa Hd.fn K) : d_steps_from.At (noLs K) mg := by
  obtain ⟨fd, F⟩ := c.def_ 17 (d := Hd.mkD "steps_from" 31) rfl
  exact ⟨_, fd, noLs_fun F, He.glo_ok X G (c.fact 17 (f := .glo "steps_from") rfl), (noLs_fun F).bindsN fun _ _ _ _ _ _ us hl => match us, hl with | [_, _], _ => rfl⟩
theorem a_states_ahead (X : K.In h) (G : h.Ns mainGlobals mg) (c : He.SaysD Hd.fa Hd.fn K) : d_states_ahead.At (noLs K) mg := by
  obtain ⟨fd, F⟩ := c.def_ 18 (d := Hd.mkD "states_ahead" 32) rfl
  exact ⟨_, fd, noLs_fun F, He.glo_ok X G (c.fact 18 (f := .glo "states_ahead") rfl), (noLs_fun F).bindsN fun _ _ _ _ _ _ us hl => match us, hl with | [_, _], _ => rfl⟩
theorem a_find_met (X : K.In h) (G : h.Ns mainGlobals mg) (c : He.SaysD Hd.fa Hd.fn K) : d_find_met.At (noLs K) mg := by
  obtain ⟨fd, F⟩ := c.def_ 19 (d := Hd.mkD "find_met" 35) rfl
  exact ⟨_, fd, noLs_fun F, He.glo_ok X G (c.fact 19 (f := .glo "find_met") rfl), (noLs_fun F).bindsN fun _ _ _ _ _ _ us hl => match us, hl with | [_], _ => rfl⟩
theorem a_find_count (X : K.In h) (G : h.Ns mainGlobals mg) (c : He.SaysD Hd.fa Hd.fn K) : d_find_count.At (noLs K) mg := by
  obtain ⟨fd, F⟩ := c.def_ 20 (d := Hd.mkD "find_count" 36) rfl
  exact ⟨_, fd, noLs_fun F, He.glo_ok X G (c.fact 20 (f := .glo "find_count") rfl), (noLs_fun F).bindsN fun _ _ _ _ _ _ us hl => match us, hl with | [_, _], _ => rfl⟩
theorem a_count_plays (X : K.In h) (G : h.Ns mainGlobals mg) (c : He.SaysD Hd.fa Hd.fn K) : d_count_plays.At (noLs K) mg := by
  obtain ⟨fd, F⟩ := c.def_ 21 (d := Hd.mkD "count_plays" 37) rfl
  exact ⟨_, fd, noLs_fun F, He.glo_ok X G (c.fact 21 (f := .glo "count_plays") rfl), (noLs_fun F).bindsN fun _ _ _ _ _ _ us hl => match us, hl with | [_, _], _ => rfl⟩
theorem a_find_ends (X : K.In h) (G : h.Ns mainGlobals mg) (c : He.SaysD Hd.fa Hd.fn K) : d_find_ends.At (noLs K) mg := by
  obtain ⟨fd, F⟩ := c.def_ 22 (d := Hd.mkD "find_ends" 39) rfl
  exact ⟨_, fd, noLs_fun F, He.glo_ok X G (c.fact 22 (f := .glo "find_ends") rfl), (noLs_fun F).bindsN fun _ _ _ _ _ _ us hl => match us, hl with | [_], _ => rfl⟩
theorem a_met_ends (X : K.In h) (G : h.Ns mainGlobals mg) (c : He.SaysD Hd.fa Hd.fn K) : d_met_ends.At (noLs K) mg := by
  obtain ⟨fd, F⟩ := c.def_ 23 (d := Hd.mkD "met_ends" 40) rfl
  exact ⟨_, fd, noLs_fun F, He.glo_ok X G (c.fact 23 (f := .glo "met_ends") rfl), (noLs_fun F).bindsN fun _ _ _ _ _ _ us hl => match us, hl with | [_], _ => rfl⟩
theorem a_end_texts (X : K.In h) (G : h.Ns mainGlobals mg) (c : He.SaysD Hd.fa Hd.fn K) : d_end_texts.At (noLs K) mg := by
  obtain ⟨fd, F⟩ := c.def_ 24 (d := Hd.mkD "end_texts" 41) rfl
  exact ⟨_, fd, noLs_fun F, He.glo_ok X G (c.fact 24 (f := .glo "end_texts") rfl), (noLs_fun F).bindsN fun _ _ _ _ _ _ us hl => match us, hl with | [_], _ => rfl⟩
theorem a_find_traps (X : K.In h) (G : h.Ns mainGlobals mg) (c : He.SaysD Hd.fa Hd.fn K) : d_find_traps.At (noLs K) mg := by
  obtain ⟨fd, F⟩ := c.def_ 25 (d := Hd.mkD "find_traps" 42) rfl
  exact ⟨_, fd, noLs_fun F, He.glo_ok X G (c.fact 25 (f := .glo "find_traps") rfl), (noLs_fun F).bindsN fun _ _ _ _ _ _ us hl => match us, hl with | [_], _ => rfl⟩
theorem a_traps (X : K.In h) (G : h.Ns mainGlobals mg) (c : He.SaysD Hd.fa Hd.fn K) : d_traps.At (noLs K) mg := by
  obtain ⟨fd, F⟩ := c.def_ 26 (d := Hd.mkD "traps" 43) rfl
  exact ⟨_, fd, noLs_fun F, He.glo_ok X G (c.fact 26 (f := .glo "traps") rfl), (noLs_fun F).bindsN fun _ _ _ _ _ _ us hl => match us, hl with | [_], _ => rfl⟩
theorem a_is_round (X : K.In h) (G : h.Ns mainGlobals mg) (c : He.SaysD Hd.fa Hd.fn K) : d_is_round.At (noLs K) mg := by
  obtain ⟨fd, F⟩ := c.def_ 27 (d := Hd.mkD "is_round" 44) rfl
  exact ⟨_, fd, noLs_fun F, He.glo_ok X G (c.fact 27 (f := .glo "is_round") rfl), (noLs_fun F).bindsN fun _ _ _ _ _ _ us hl => match us, hl with | [_, _], _ => rfl⟩
theorem a_find_rounds (X : K.In h) (G : h.Ns mainGlobals mg) (c : He.SaysD Hd.fa Hd.fn K) : d_find_rounds.At (noLs K) mg := by
  obtain ⟨fd, F⟩ := c.def_ 28 (d := Hd.mkD "find_rounds" 45) rfl
  exact ⟨_, fd, noLs_fun F, He.glo_ok X G (c.fact 28 (f := .glo "find_rounds") rfl), (noLs_fun F).bindsN fun _ _ _ _ _ _ us hl => match us, hl with | [_], _ => rfl⟩
theorem a_rounds (X : K.In h) (G : h.Ns mainGlobals mg) (c : He.SaysD Hd.fa Hd.fn K) : d_rounds.At (noLs K) mg := by
  obtain ⟨fd, F⟩ := c.def_ 29 (d := Hd.mkD "rounds" 46) rfl
  exact ⟨_, fd, noLs_fun F, He.glo_ok X G (c.fact 29 (f := .glo "rounds") rfl), (noLs_fun F).bindsN fun _ _ _ _ _ _ us hl => match us, hl with | [_], _ => rfl⟩
theorem a_longest_play (X : K.In h) (G : h.Ns mainGlobals mg) (c : He.SaysD Hd.fa Hd.fn K) : d_longest_play.At (noLs K) mg := by
  obtain ⟨fd, F⟩ := c.def_ 30 (d := Hd.mkD "longest_play" 47) rfl
  exact ⟨_, fd, noLs_fun F, He.glo_ok X G (c.fact 30 (f := .glo "longest_play") rfl), (noLs_fun F).bindsN fun _ _ _ _ _ _ us hl => match us, hl with | [_], _ => rfl⟩
theorem a__law_pick (X : K.In h) (G : h.Ns mainGlobals mg) (c : He.SaysD Hd.fa Hd.fn K) : d__law_pick.At (noLs K) mg := by
  obtain ⟨fd, F⟩ := c.def_ 31 (d := Hd.mkD "_law_pick" 49) rfl
  exact ⟨_, fd, noLs_fun F, He.glo_ok X G (c.fact 31 (f := .glo "_law_pick") rfl), (noLs_fun F).bindsN fun _ _ _ _ _ _ us hl => match us, hl with | [_, _, _], _ => rfl⟩
theorem a__law_option (X : K.In h) (G : h.Ns mainGlobals mg) (c : He.SaysD Hd.fa Hd.fn K) : d__law_option.At (noLs K) mg := by
  obtain ⟨fd, F⟩ := c.def_ 32 (d := Hd.mkD "_law_option" 50) rfl
  exact ⟨_, fd, noLs_fun F, He.glo_ok X G (c.fact 32 (f := .glo "_law_option") rfl), (noLs_fun F).bindsN fun _ _ _ _ _ _ us hl => match us, hl with | [_, _, _, _], _ => rfl⟩
theorem a__law_story (X : K.In h) (G : h.Ns mainGlobals mg) (c : He.SaysD Hd.fa Hd.fn K) : d__law_story.At (noLs K) mg := by
  obtain ⟨fd, F⟩ := c.def_ 33 (d := Hd.mkD "_law_story" 51) rfl
  exact ⟨_, fd, noLs_fun F, He.glo_ok X G (c.fact 33 (f := .glo "_law_story") rfl), (noLs_fun F).bindsN fun _ _ _ _ _ _ us hl => match us, hl with | [_, _], _ => rfl⟩
theorem a__law_open (X : K.In h) (G : h.Ns mainGlobals mg) (c : He.SaysD Hd.fa Hd.fn K) : d__law_open.At (noLs K) mg := by
  obtain ⟨fd, F⟩ := c.def_ 34 (d := Hd.mkD "_law_open" 52) rfl
  exact ⟨_, fd, noLs_fun F, He.glo_ok X G (c.fact 34 (f := .glo "_law_open") rfl), (noLs_fun F).bindsN fun _ _ _ _ _ _ us hl => match us, hl with | [_, _], _ => rfl⟩
theorem a__law_goes (X : K.In h) (G : h.Ns mainGlobals mg) (c : He.SaysD Hd.fa Hd.fn K) : d__law_goes.At (noLs K) mg := by
  obtain ⟨fd, F⟩ := c.def_ 35 (d := Hd.mkD "_law_goes" 53) rfl
  exact ⟨_, fd, noLs_fun F, He.glo_ok X G (c.fact 35 (f := .glo "_law_goes") rfl), (noLs_fun F).bindsN fun _ _ _ _ _ _ us hl => match us, hl with | [_, _, _], _ => rfl⟩
theorem a__law_steps (X : K.In h) (G : h.Ns mainGlobals mg) (c : He.SaysD Hd.fa Hd.fn K) : d__law_steps.At (noLs K) mg := by
  obtain ⟨fd, F⟩ := c.def_ 36 (d := Hd.mkD "_law_steps" 54) rfl
  exact ⟨_, fd, noLs_fun F, He.glo_ok X G (c.fact 36 (f := .glo "_law_steps") rfl), (noLs_fun F).bindsN fun _ _ _ _ _ _ us hl => match us, hl with | [_, _], _ => rfl⟩
theorem a__law_met (X : K.In h) (G : h.Ns mainGlobals mg) (c : He.SaysD Hd.fa Hd.fn K) : d__law_met.At (noLs K) mg := by
  obtain ⟨fd, F⟩ := c.def_ 37 (d := Hd.mkD "_law_met" 55) rfl
  exact ⟨_, fd, noLs_fun F, He.glo_ok X G (c.fact 37 (f := .glo "_law_met") rfl), (noLs_fun F).bindsN fun _ _ _ _ _ _ us hl => match us, hl with | [_, _], _ => rfl⟩
theorem a__law_firsts (X : K.In h) (G : h.Ns mainGlobals mg) (c : He.SaysD Hd.fa Hd.fn K) : d__law_firsts.At (noLs K) mg := by
  obtain ⟨fd, F⟩ := c.def_ 38 (d := Hd.mkD "_law_firsts" 56) rfl
  exact ⟨_, fd, noLs_fun F, He.glo_ok X G (c.fact 38 (f := .glo "_law_firsts") rfl), (noLs_fun F).bindsN fun _ _ _ _ _ _ us hl => match us, hl with | [_], _ => rfl⟩
theorem a__law_longest (X : K.In h) (G : h.Ns mainGlobals mg) (c : He.SaysD Hd.fa Hd.fn K) : d__law_longest.At (noLs K) mg := by
  obtain ⟨fd, F⟩ := c.def_ 39 (d := Hd.mkD "_law_longest" 57) rfl
  exact ⟨_, fd, noLs_fun F, He.glo_ok X G (c.fact 39 (f := .glo "_law_longest") rfl), (noLs_fun F).bindsN fun _ _ _ _ _ _ us hl => match us, hl with | [_, _], _ => rfl⟩
theorem a_law (X : K.In h) (G : h.Ns mainGlobals mg) (c : He.SaysD Hd.fa Hd.fn K) : d_law.At (noLs K) mg := by
  obtain ⟨fd, F⟩ := c.def_ 40 (d := Hd.mkD "law" 58) rfl
  exact ⟨_, fd, noLs_fun F, He.glo_ok X G (c.fact 40 (f := .glo "law") rfl), (noLs_fun F).bindsN fun _ _ _ _ _ _ us hl => match us, hl with | [_], _ => rfl⟩
theorem defs_at (X : K.In h) (G : h.Ns mainGlobals mg) (c : He.SaysD Hd.fa Hd.fn K) : ∀ d ∈ defs, d.At (noLs K) mg := (all_cons (a_is_int X G c) (all_cons (a_is_rising X G c) (all_cons (a_is_word X G c) (all_cons (a_are_marks X G c) (all_cons (a_are_apart X G c) (all_cons (a_is_outcome X G c) (all_cons (a_is_option X G c) (all_cons (a_is_passage X G c) (all_cons (a_is_story X G c) (all_cons (a_check_story X G c) (all_cons (a_find_firsts X G c) (all_cons (a_is_offered X G c) (all_cons (a_options_at X G c) (all_cons (a_find_offered X G c) (all_cons (a_changed X G c) (all_cons (a_outcomes_at X G c) (all_cons (a_find_next X G c) (all_cons (a_steps_from X G c) (all_cons (a_states_ahead X G c) (all_cons (a_find_met X G c) (all_cons (a_find_count X G c) (all_cons (a_count_plays X G c) (all_cons (a_find_ends X G c) (all_cons (a_met_ends X G c) (all_cons (a_end_texts X G c) (all_cons (a_find_traps X G c) (all_cons (a_traps X G c) (all_cons (a_is_round X G c) (all_cons (a_find_rounds X G c) (all_cons (a_rounds X G c) (all_cons (a_longest_play X G c) (all_cons (a__law_pick X G c) (all_cons (a__law_option X G c) (all_cons (a__law_story X G c) (all_cons (a__law_open X G c) (all_cons (a__law_goes X G c) (all_cons (a__law_steps X G c) (all_cons (a__law_met X G c) (all_cons (a__law_firsts X G c) (all_cons (a__law_longest X G c) (all_cons (a_law X G c) all_nil)))))))))))))))))))))))))))))))))))))))))
theorem blts (X : K.In h) (G : h.Ns mainGlobals mg) (c : He.SaysD Hd.fa Hd.fn K) : ∀ x ∈ bltNames, mg x = none := (all_cons (He.free_ok X G (c.fact 49 (f := .free "len") rfl)) (all_cons (He.free_ok X G (c.fact 55 (f := .free "sorted") rfl)) (all_cons (He.free_ok X G (c.fact 54 (f := .free "set") rfl)) (all_cons (He.free_ok X G (c.fact 50 (f := .free "list") rfl)) (all_cons (He.free_ok X G (c.fact 58 (f := .free "tuple") rfl)) (all_cons (He.free_ok X G (c.fact 45 (f := .free "dict") rfl)) (all_cons (He.free_ok X G (c.fact 42 (f := .free "all") rfl)) (all_cons (He.free_ok X G (c.fact 43 (f := .free "any") rfl)) (all_cons (He.free_ok X G (c.fact 51 (f := .free "max") rfl)) (all_cons (He.free_ok X G (c.fact 52 (f := .free "min") rfl)) (all_cons (He.free_ok X G (c.fact 57 (f := .free "sum") rfl)) (all_cons (He.free_ok X G (c.fact 47 (f := .free "int") rfl)) (all_cons (He.free_ok X G (c.fact 56 (f := .free "str") rfl)) (all_cons (He.free_ok X G (c.fact 48 (f := .free "isinstance") rfl)) (all_cons (He.free_ok X G (c.fact 53 (f := .free "range") rfl)) (all_cons (He.free_ok X G (c.fact 59 (f := .free "zip") rfl)) (all_cons (He.free_ok X G (c.fact 46 (f := .free "enumerate") rfl)) (all_cons (He.free_ok X G (c.fact 44 (f := .free "bool") rfl)) all_nil))))))))))))))))))
theorem cons_ (X : K.In h) (G : h.Ns mainGlobals mg) (c : He.SaysD Hd.fa Hd.fn K) : ∀ x d, (x, d) ∈ consts → ∃ v u, cV d = some v ∧ mg x = some u ∧ RelV v u := con_all (all_cons (con_str (He.str_ok X G (c.fact 60 (f := .str "LETTERS" "abcdefghijklmnopqrstuvwxyz") rfl))) (all_cons (con_str (He.str_ok X G (c.fact 61 (f := .str "MARKS" "abcd") rfl))) (all_cons (con_int (He.int_ok X G (c.fact 62 (f := .int "MAX_WORD" 6) rfl))) (all_cons (con_int (He.int_ok X G (c.fact 63 (f := .int "MAX_STARTS" 4) rfl))) (all_cons (con_int (He.int_ok X G (c.fact 64 (f := .int "MAX_PASSAGES" 6) rfl))) (all_cons (con_int (He.int_ok X G (c.fact 65 (f := .int "MAX_OPTIONS" 4) rfl))) (all_cons (con_int (He.int_ok X G (c.fact 66 (f := .int "MAX_OUTCOMES" 2) rfl))) (all_cons (con_int (He.int_ok X G (c.fact 67 (f := .int "MAX_COUNTED" 20) rfl))) all_nil))))))))
theorem facts {P : Program} {w : World} {f : Addr} (X : K.In h) (G : h.Ns mainGlobals mg) (hf : mg ("law" : Str) = some (.ref f)) (c : He.SaysD Hd.fa Hd.fn K) :
    ∃ fd : FuncData, (∀ (s : Shared) (v : Value), BindsTo s fd ⟨[v], []⟩ [("script", v)]) ∧ ∀ base : Heap, FnOk P w (noLs K) mg base CX0 30 f fd ["script"] (spI P w (run tb 30) 50) := by
  obtain ⟨fd, F⟩ := c.def_ 40 (d := Hd.mkD "law" 58) rfl
  have e := hf.symm.trans (He.glo_ok X G (c.fact 40 (f := .glo "law") rfl))
  cases e
  have b := FunD.bindsA (ps := ["script"]) F fun _ _ _ _ _ _ us hl => match us, hl with | [_], _ => rfl
  refine ⟨fd, fun s v => b s [v] rfl, fun base => ?_⟩
  exact Rk.defs_ok (defs := defs) (cs := consts) defs_tb defs_ok (defs_at X G c) (blts X G c) (cons_ X G c) 30 d_law (List.mem_of_getElem? (i := 40) rfl) _ _ (noLs_fun F)
end
end K52
open PySem PySem.W PySem.Calls PyProof.Rows
theorem k52_holds (hlaw : ∀ ns : List Int, ns.length ≤ 63 → Rk.run K52.tb 30 50 [.list (ns.map .int)] = some (false, .bool true)) : PySem.Challenge.rw_readerknows_k52_whole_endless.Holds := by
  w_on; o_law
  refine HandSHeadRun.head_any (r := OpenLaw.row PySem.Challenge.rw_readerknows_k52_whole_endless) (q := view (OpenLaw.row PySem.Challenge.rw_readerknows_k52_whole_endless).prog [58]) (H := Hd.hk) (ob := Hd.ob) (M := 4000) (loose := Hd.names) (d := HandSHeadRun.topDef (OpenLaw.row PySem.Challenge.rw_readerknows_k52_whole_endless).prog 58) (kwd := []) Hd.ob_eq
    (by kernel_rfl) (fun s => by kernel_rfl) Hd.run (by kernel_rfl) (by kernel_rfl) (by kernel_rfl) (by rfl) (by first | assumption | decide +kernel) (by decide +kernel) ⟨rfl, rfl, rfl, rfl, rfl, by decide +kernel⟩ ?hw ?hc
  case hw => w_witness2
  case hc =>
    refine L2.walk_ofE (l := PySem.Challenge.rw_readerknows_k52_whole_endless) (n := 63) (k := 30) (x := "script") (CX := L2.CX0) rfl (by decide) (by kernel_rfl) ⟨rfl, by decide, by decide⟩ ?F (fun _ _ _ _ z => z)
    intro w mg fa h Y G hmg0
    obtain ⟨K, KX, c⟩ := Y
    have hmg : mg ("law" : PySem.Str) = some (.ref fa) := by
      have e : (HandSHeadRun.topDef (OpenLaw.row PySem.Challenge.rw_readerknows_k52_whole_endless).prog 58).name = ("law" : PySem.Str) := by kernel_rfl
      rw [← e]
      exact hmg0
    obtain ⟨fd, hb, hF⟩ := K52.facts (P := (PySem.Challenge.rw_readerknows_k52_whole_endless).prog) (w := w) KX G hmg c
    exact ⟨Rk.noLs K, fd, _, Rk.noLs_in KX, hb, fun H a ns hl _ hS => Rk.law_sp (hlaw ns hl) (Rk.noLs_sq hS), fun base _ _ => hF base⟩

set_option autoImplicit false
set_option maxRecDepth 100000
namespace K60
open PySem Rk
/-- 0 is_int(value, least, most): 0=value 1=least 2=most -/
def f_is_int : Fn := ⟨3, 3, [.ret (.and (.blt .isInt [.v 0]) (.and (.not (.blt .isBool [.v 0])) (.le2 (.v 1) (.v 0) (.v 2))))]⟩
/-- 1 is_rising(values): 0=values 1=one 2=other -/
def f_is_rising : Fn := ⟨1, 3, [.ret (.blt .all [.comp (.tp [1, 2]) .zip [.v 0, .from_ (.v 0) (.c (.int 1))] (.cmp .lt (.v 1) (.v 2))])]⟩
/-- 2 is_word(candidate): 0=candidate 1=sign -/
def f_is_word : Fn := ⟨1, 2, [.ite (.or (.not (.blt .isStr [.v 0])) (.not (.le2 (.c (.int 1)) (.blt .len [.v 0]) (.c (.int 6))))) [.ret (.c (.bool false))] [],
    .ret (.blt .all [.comp (.nm 1) .seq [.v 0] (.cmp .isin (.v 1) (.c (.str "abcdefghijklmnopqrstuvwxyz")))])]⟩
/-- 3 are_marks(candidate): 0=candidate 1=sign -/
def f_are_marks : Fn := ⟨1, 2, [.ret (.and (.blt .isStr [.v 0]) (.and (.blt .all [.comp (.nm 1) .seq [.v 0] (.cmp .isin (.v 1) (.c (.str "abcd")))]) (.call 1 [.v 0])))]⟩
/-- 4 are_apart(one, other): 0=one 1=other 2=mark -/
def f_are_apart : Fn := ⟨2, 3, [.ret (.and (.call 3 [.v 0]) (.and (.call 3 [.v 1]) (.not (.blt .any [.comp (.nm 2) .seq [.v 0] (.cmp .isin (.v 2) (.v 1))]))))]⟩
/-- 5 is_outcome(many, value): 0=many 1=value -/
def f_is_outcome : Fn := ⟨2, 2, [.ite (.or (.not (.blt .isTuple [.v 1])) (.cmp .ne (.blt .len [.v 1]) (.c (.int 3)))) [.ret (.c (.bool false))] [],
    .ret (.and (.call 0 [.idx (.v 1) (.c (.int 0)), .c (.int 0), .bin .sub (.v 0) (.c (.int 1))]) (.call 4 [.idx (.v 1) (.c (.int 1)), .idx (.v 1) (.c (.int 2))]))]⟩
/-- 6 is_option(many, value): 0=many 1=value 2=label 3=must 4=mustnot 5=outcomes 6=outcome -/
def f_is_option : Fn := ⟨2, 7, [.ite (.or (.not (.blt .isTuple [.v 1])) (.cmp .ne (.blt .len [.v 1]) (.c (.int 4)))) [.ret (.c (.bool false))] [],
    .set (.tp [2, 3, 4, 5]) (.v 1),
    .ite (.or (.not (.call 2 [.v 2])) (.not (.call 4 [.v 3, .v 4]))) [.ret (.c (.bool false))] [],
    .ite (.or (.not (.blt .isTuple [.v 5])) (.not (.le2 (.c (.int 1)) (.blt .len [.v 5]) (.c (.int 2))))) [.ret (.c (.bool false))] [],
    .ret (.and (.blt .all [.comp (.nm 6) .seq [.v 5] (.call 5 [.v 0, .v 6])]) (.call 1 [.v 5]))]⟩
/-- 7 is_passage(many, value): 0=many 1=value 2=text 3=shows 4=options 5=option -/
def f_is_passage : Fn := ⟨2, 6, [.ite (.or (.not (.blt .isTuple [.v 1])) (.cmp .ne (.blt .len [.v 1]) (.c (.int 3)))) [.ret (.c (.bool false))] [],
    .set (.tp [2, 3, 4]) (.v 1),
    .ite (.or (.not (.call 2 [.v 2])) (.or (.not (.call 3 [.v 3])) (.or (.not (.blt .isTuple [.v 4])) (.cmp .gt (.blt .len [.v 4]) (.c (.int 4)))))) [.ret (.c (.bool false))] [],
    .ret (.and (.blt .all [.comp (.nm 5) .seq [.v 4] (.call 6 [.v 0, .v 5])]) (.call 1 [.comp (.nm 5) .seq [.v 4] (.idx (.v 5) (.c (.int 0)))]))]⟩
/-- 8 is_story(candidate): 0=candidate 1=starts 2=passages 3=passage 4=start -/
def f_is_story : Fn := ⟨1, 5, [.ite (.or (.not (.blt .isTuple [.v 0])) (.cmp .ne (.blt .len [.v 0]) (.c (.int 2)))) [.ret (.c (.bool false))] [],
    .set (.tp [1, 2]) (.v 0),
    .ite (.or (.not (.blt .isTuple [.v 1])) (.not (.le2 (.c (.int 1)) (.blt .len [.v 1]) (.c (.int 4))))) [.ret (.c (.bool false))] [],
    .ite (.or (.not (.blt .all [.comp (.nm 4) .seq [.v 1] (.call 3 [.v 4])])) (.not (.call 1 [.v 1]))) [.ret (.c (.bool false))] [],
    .ite (.or (.not (.blt .isTuple [.v 2])) (.not (.le2 (.c (.int 1)) (.blt .len [.v 2]) (.c (.int 6))))) [.ret (.c (.bool false))] [],
    .ret (.blt .all [.comp (.nm 3) .seq [.v 2] (.call 7 [.blt .len [.v 2], .v 3])])]⟩
/-- 9 check_story(value): 0=value -/
def f_check_story : Fn := ⟨1, 1, [.ite (.not (.call 8 [.v 0])) [.fail] []]⟩
/-- 83 has_state(story, value): 0=story 1=value -/
def f_has_state : Fn := ⟨2, 2, [.ite (.or (.not (.blt .isTuple [.v 1])) (.or (.cmp .ne (.blt .len [.v 1]) (.c (.int 3))) (.not (.call 3 [.idx (.v 1) (.c (.int 2))])))) [.ret (.c (.bool false))] [],
    .ret (.and (.call 0 [.idx (.v 1) (.c (.int 0)), .c (.int 0), .bin .sub (.blt .len [.idx (.v 0) (.c (.int 0))]) (.c (.int 1))]) (.call 0 [.idx (.v 1) (.c (.int 1)), .c (.int 0), .bin .sub (.blt .len [.idx (.v 0) (.c (.int 1))]) (.c (.int 1))]))]⟩
/-- 84 check_state(story, value): 0=story 1=value -/
def f_check_state : Fn := ⟨2, 2, [.ite (.not (.call 83 [.v 0, .v 1])) [.fail] []]⟩
/-- 10 find_firsts(story): 0=story 1=number 2=marks -/
def f_find_firsts : Fn := ⟨1, 3, [.ret (.comp (.tp [1, 2]) .enum [.idx (.v 0) (.c (.int 0))] (.tup [.v 1, .c (.int 0), .v 2]))]⟩
/-- 11 is_offered(option, marks): 0=option 1=marks 2=mark -/
def f_is_offered : Fn := ⟨2, 3, [.ret (.and (.blt .all [.comp (.nm 2) .seq [.idx (.v 0) (.c (.int 1))] (.cmp .isin (.v 2) (.v 1))]) (.not (.blt .any [.comp (.nm 2) .seq [.idx (.v 0) (.c (.int 2))] (.cmp .isin (.v 2) (.v 1))])))]⟩
/-- 12 options_at(story, state): 0=story 1=state 2=option -/
def f_options_at : Fn := ⟨2, 3, [.ret (.compIf (.nm 2) .seq [.idx (.idx (.idx (.v 0) (.c (.int 1))) (.idx (.v 1) (.c (.int 1)))) (.c (.int 2))] (.call 11 [.v 2, .idx (.v 1) (.c (.int 2))]) (.v 2))]⟩
/-- 13 find_offered(story, state): 0=story 1=state 2=option -/
def f_find_offered : Fn := ⟨2, 3, [.ret (.comp (.nm 2) .seq [.call 12 [.v 0, .v 1]] (.idx (.v 2) (.c (.int 0))))]⟩
/-- 14 changed(marks, sets, clears): 0=marks 1=sets 2=clears 3=mark -/
def f_changed : Fn := ⟨3, 4, [.ret (.blt .join [.c (.str ""), .compIf (.nm 3) .seq [.c (.str "abcd")] (.and (.or (.cmp .isin (.v 3) (.v 0)) (.cmp .isin (.v 3) (.v 1))) (.cmp .notin (.v 3) (.v 2))) (.v 3)])]⟩
/-- 15 outcomes_at(story, state, label): 0=story 1=state 2=label 3=found 4=option 5=passage 6=sets 7=clears -/
def f_outcomes_at : Fn := ⟨3, 8, [.set (.nm 3) (.lst []),
    .for_ (.nm 4) .seq [.call 12 [.v 0, .v 1]] [.ite (.cmp .eq (.idx (.v 4) (.c (.int 0))) (.v 2)) [.for_ (.tp [5, 6, 7]) .seq [.idx (.v 4) (.c (.int 3))] [.app 3 (.tup [.idx (.v 1) (.c (.int 0)), .v 5, .call 14 [.idx (.v 1) (.c (.int 2)), .v 6, .v 7]])]] []],
    .ret (.v 3)]⟩
/-- 16 find_next(story, state, label): 0=story 1=state 2=label -/
def f_find_next : Fn := ⟨3, 3, [.ret (.blt .sortedSet [.call 15 [.v 0, .v 1, .v 2]])]⟩
/-- 85 check_offered(labels, label): 0=labels 1=label -/
def f_check_offered : Fn := ⟨2, 2, [.ite (.or (.not (.blt .isStr [.v 1])) (.cmp .notin (.v 1) (.v 0))) [.fail] []]⟩
/-- 17 steps_from(story, state): 0=story 1=state 2=found 3=label -/
def f_steps_from : Fn := ⟨2, 4, [.set (.nm 2) (.lst []),
    .for_ (.nm 3) .seq [.call 13 [.v 0, .v 1]] [.ext 2 (.call 16 [.v 0, .v 1, .v 3])],
    .ret (.blt .sortedSet [.v 2])]⟩
/-- 18 states_ahead(story, states): 0=story 1=states 2=known 3=last 4=state -/
def f_states_ahead : Fn := ⟨2, 5, [.par [2, 3] [.emp, .blt .list [.v 1]],
    .whl (.cmp .ne (.v 3) (.lst [])) [.pop 4 3,
    .ite (.cmp .notin (.v 4) (.v 2)) [.put 2 (.v 4) (.call 17 [.v 0, .v 4]),
    .ext 3 (.idx (.v 2) (.v 4))] []],
    .ret (.v 2)]⟩
/-- 19 find_met(story): 0=story -/
def f_find_met : Fn := ⟨1, 1, [.ret (.call 18 [.v 0, .call 10 [.v 0]])]⟩
/-- 86 find_texts(story, states): 0=story 1=states 2=ahead 3=state -/
def f_find_texts : Fn := ⟨2, 4, [.set (.nm 2) (.call 18 [.v 0, .v 1]),
    .ret (.blt .sortedSet [.compIf (.nm 3) .seq [.v 2] (.cmp .eq (.idx (.v 2) (.v 3)) (.lst [])) (.idx (.idx (.idx (.v 0) (.c (.int 1))) (.idx (.v 3) (.c (.int 1)))) (.c (.int 0)))])]⟩
/-- 87 texts_ahead(story, state): 0=story 1=state -/
def f_texts_ahead : Fn := ⟨2, 2, [.exp (.call 9 [.v 0]),
    .exp (.call 84 [.v 0, .v 1]),
    .ret (.call 86 [.v 0, .lst [.v 1]])]⟩
/-- 88 find_lost(story, state, label): 0=story 1=state 2=label 3=later 4=text -/
def f_find_lost : Fn := ⟨3, 5, [.set (.nm 3) (.call 86 [.v 0, .call 16 [.v 0, .v 1, .v 2]]),
    .ret (.compIf (.nm 4) .seq [.call 86 [.v 0, .lst [.v 1]]] (.cmp .notin (.v 4) (.v 3)) (.v 4))]⟩
/-- 89 lost_by(story, state, label): 0=story 1=state 2=label -/
def f_lost_by : Fn := ⟨3, 3, [.exp (.call 9 [.v 0]),
    .exp (.call 84 [.v 0, .v 1]),
    .exp (.call 85 [.call 13 [.v 0, .v 1], .v 2]),
    .ret (.call 88 [.v 0, .v 1, .v 2])]⟩
/-- 90 last_chances(story): 0=story 1=found 2=state 3=label -/
def f_last_chances : Fn := ⟨1, 4, [.exp (.call 9 [.v 0]),
    .set (.nm 1) (.lst []),
    .for_ (.nm 2) .seq [.blt .sorted [.call 19 [.v 0]]] [.ext 1 (.compIf (.nm 3) .seq [.call 13 [.v 0, .v 2]] (.cmp .ne (.call 88 [.v 0, .v 2, .v 3]) (.lst [])) (.tup [.v 2, .v 3]))],
    .ret (.v 1)]⟩
/-- 30 _law_open(option, marks): 0=option 1=marks 2=mark -/
def f__law_open : Fn := ⟨2, 3, [.ret (.and (.blt .all [.comp (.nm 2) .seq [.idx (.v 0) (.c (.int 1))] (.cmp .isin (.v 2) (.v 1))]) (.not (.blt .any [.comp (.nm 2) .seq [.idx (.v 0) (.c (.int 2))] (.cmp .isin (.v 2) (.v 1))])))]⟩
/-- 31 _law_goes(story, state, label): 0=story 1=state 2=label 3=found 4=option 5=start 6=passage 7=marks 8=other 9=sets 10=clears 11=left 12=mark -/
def f__law_goes : Fn := ⟨3, 13, [.set (.tp [5, 6, 7]) (.v 1),
    .set (.nm 3) (.lst []),
    .for_ (.nm 4) .seq [.idx (.idx (.idx (.v 0) (.c (.int 1))) (.v 6)) (.c (.int 2))] [.ite (.and (.cmp .eq (.idx (.v 4) (.c (.int 0))) (.v 2)) (.call 30 [.v 4, .v 7])) [.for_ (.tp [8, 9, 10]) .seq [.idx (.v 4) (.c (.int 3))] [.set (.nm 11) (.compIf (.nm 12) .seq [.c (.str "abcd")] (.and (.cmp .isin (.v 12) (.bin .add (.v 7) (.v 9))) (.cmp .notin (.v 12) (.v 10))) (.v 12)),
    .app 3 (.tup [.v 5, .v 8, .blt .join [.c (.str ""), .v 11]])]] []],
    .ret (.blt .sortedSet [.v 3])]⟩
/-- 32 _law_steps(story, state): 0=story 1=state 2=found 3=option -/
def f__law_steps : Fn := ⟨2, 4, [.set (.nm 2) (.lst []),
    .for_ (.nm 3) .seq [.idx (.idx (.idx (.v 0) (.c (.int 1))) (.idx (.v 1) (.c (.int 1)))) (.c (.int 2))] [.ext 2 (.call 31 [.v 0, .v 1, .idx (.v 3) (.c (.int 0))])],
    .ret (.blt .sortedSet [.v 2])]⟩
/-- 37 _law_met(story, firsts): 0=story 1=firsts 2=known 3=last 4=state -/
def f__law_met : Fn := ⟨2, 5, [.par [2, 3] [.emp, .blt .list [.v 1]],
    .whl (.cmp .ne (.v 3) (.lst [])) [.pop 4 3,
    .ite (.cmp .notin (.v 4) (.v 2)) [.put 2 (.v 4) (.call 32 [.v 0, .v 4]),
    .ext 3 (.idx (.v 2) (.v 4))] []],
    .ret (.v 2)]⟩
/-- 34 _law_pick(script, k, many): 0=script 1=k 2=many 3=cell 4=drawn 5=rest 6=again -/
def f__law_pick : Fn := ⟨3, 7, [.set (.nm 3) (.ite (.cmp .ne (.v 0) (.lst [])) (.idx (.v 0) (.bin .mod (.blt .int [.v 1]) (.blt .len [.v 0]))) (.c (.int 0))),
    .par [5, 6] [.bin .fdiv (.v 3) (.bin .pow (.c (.int 10)) (.c (.int 18))), .bin .fdiv (.v 1) (.blt .max2 [.blt .len [.v 0], .c (.int 1)])],
    .whl (.and (.cmp .gt (.v 5) (.c (.int 0))) (.cmp .gt (.v 6) (.c (.int 0)))) [.par [5, 6] [.bin .fdiv (.v 5) (.c (.int 840)), .bin .sub (.v 6) (.c (.int 1))]],
    .ite (.cmp .gt (.v 5) (.c (.int 0))) [.ret (.bin .mod (.blt .int [.bin .mod (.blt .int [.v 5]) (.c (.int 840))]) (.v 2))] [],
    .set (.nm 4) (.bin .mod (.blt .int [.bin .mul (.bin .add (.bin .mul (.v 3) (.c (.int 31))) (.bin .mul (.c (.int 6151)) (.bin .add (.v 1) (.c (.int 1))))) (.c (.int 40692))]) (.c (.int 2147483399))),
    .ret (.bin .mod (.blt .int [.bin .mod (.blt .int [.bin .add (.bin .mul (.v 4) (.v 4)) (.bin .fdiv (.v 4) (.c (.int 31)))]) (.c (.int 2147483629))]) (.v 2))]⟩
/-- 35 _law_option(script, at, many, label): 0=script 1=at 2=many 3=label 4=found 5=k 6=must 7=mustnot 8=sets 9=clears 10=n -/
def f__law_option : Fn := ⟨4, 11, [.set (.tp [6, 7]) (.comp (.nm 5) .range1 [.c (.int 2)] (.idx (.tup [.c (.str ""), .c (.str ""), .c (.str "a"), .c (.str "b")]) (.call 34 [.v 0, .bin .add (.v 1) (.v 5), .c (.int 4)]))),
    .set (.nm 4) (.lst []),
    .for_ (.nm 5) .range1 [.bin .add (.c (.int 1)) (.bin .fdiv (.call 34 [.v 0, .bin .add (.v 1) (.c (.int 2)), .c (.int 4)]) (.c (.int 3)))] [.set (.tp [8, 9]) (.comp (.nm 10) .range1 [.c (.int 2)] (.idx (.tup [.c (.str ""), .c (.str ""), .c (.str "a"), .c (.str "b")]) (.call 34 [.v 0, .bin .add (.bin .add (.bin .add (.v 1) (.c (.int 3))) (.bin .mul (.c (.int 3)) (.v 5))) (.v 10), .c (.int 4)]))),
    .app 4 (.tup [.call 34 [.v 0, .bin .add (.bin .add (.v 1) (.c (.int 5))) (.bin .mul (.c (.int 3)) (.v 5)), .v 2], .v 8, .ite (.cmp .ne (.v 9) (.v 8)) (.v 9) (.c (.str ""))])],
    .ret (.tup [.v 3, .v 6, .ite (.cmp .ne (.v 7) (.v 6)) (.v 7) (.c (.str "")), .blt .tuple [.blt .sortedSet [.v 4]]])]⟩
/-- 36 _law_story(script, at): 0=script 1=at 2=starts 3=number 4=many 5=passages 6=spot 7=labels 8=options 9=text 10=k 11=label -/
def f__law_story : Fn := ⟨2, 12, [.par [4, 5] [.bin .add (.c (.int 2)) (.call 34 [.v 0, .v 1, .c (.int 3)]), .lst []],
    .set (.nm 2) (.comp (.nm 10) .range1 [.bin .add (.c (.int 1)) (.call 34 [.v 0, .bin .add (.v 1) (.c (.int 5)), .c (.int 3)])] (.idx (.tup [.c (.str ""), .c (.str "a"), .c (.str "b"), .c (.str "ab")]) (.call 34 [.v 0, .bin .add (.bin .add (.v 1) (.c (.int 1))) (.v 10), .c (.int 4)]))),
    .for_ (.nm 3) .range1 [.v 4] [.set (.nm 6) (.bin .add (.bin .add (.v 1) (.c (.int 10))) (.bin .mul (.c (.int 40)) (.v 3))),
    .set (.nm 7) (.comp (.nm 10) .range1 [.call 34 [.v 0, .bin .add (.v 6) (.c (.int 3)), .c (.int 4)]] (.idx (.tup [.c (.str "go"), .c (.str "left"), .c (.str "up")]) (.call 34 [.v 0, .bin .add (.v 6) (.v 10), .c (.int 3)]))),
    .set (.nm 7) (.blt .sortedSet [.v 7]),
    .set (.nm 8) (.comp (.tp [10, 11]) .enum [.v 7] (.call 35 [.v 0, .bin .add (.bin .add (.v 6) (.c (.int 6))) (.bin .mul (.c (.int 9)) (.v 10)), .v 4, .v 11])),
    .set (.nm 9) (.idx (.tup [.c (.str "cave"), .c (.str "hall"), .c (.str "cave"), .c (.str "lake")]) (.call 34 [.v 0, .bin .add (.v 6) (.c (.int 4)), .c (.int 4)])),
    .app 5 (.tup [.v 9, .idx (.tup [.c (.str ""), .c (.str ""), .c (.str "a"), .c (.str "b")]) (.call 34 [.v 0, .bin .add (.v 6) (.c (.int 5)), .c (.int 4)]), .blt .tuple [.v 8]])],
    .ret (.tup [.blt .tuple [.blt .sortedSet [.v 2]], .blt .tuple [.v 5]])]⟩
/-- 29 _law_firsts(story): 0=story 1=number 2=marks -/
def f__law_firsts : Fn := ⟨1, 3, [.ret (.comp (.tp [1, 2]) .enum [.idx (.v 0) (.c (.int 0))] (.tup [.v 1, .c (.int 0), .v 2]))]⟩
/-- 91 _law_texts(story, states): 0=story 1=states 2=ahead 3=state -/
def f__law_texts : Fn := ⟨2, 4, [.set (.nm 2) (.call 37 [.v 0, .v 1]),
    .ret (.blt .sortedSet [.compIf (.nm 3) .seq [.v 2] (.cmp .eq (.idx (.v 2) (.v 3)) (.lst [])) (.idx (.idx (.idx (.v 0) (.c (.int 1))) (.idx (.v 3) (.c (.int 1)))) (.c (.int 0)))])]⟩
/-- 92 law(script): 0=script 1=i 2=options 3=cave 4=story 5=met 6=lost 7=state 8=marks 9=odd 10=texts 11=option 12=later 13=due 14=text -/
def f_law_5 : Fn := ⟨1, 15, [.for_ (.nm 1) .range1 [.c (.int 4)] [.set (.nm 4) (.call 36 [.v 0, .bin .mul (.c (.int 180)) (.v 1)]),
    .set (.nm 5) (.blt .sorted [.call 37 [.v 4, .call 29 [.v 4]]]),
    .set (.nm 6) (.lst []),
    .for_ (.nm 7) .seq [.v 5] [.set (.nm 10) (.call 91 [.v 4, .lst [.v 7]]),
    .ite (.cmp .ne (.call 87 [.v 4, .v 7]) (.v 10)) [.ret (.c (.bool false))] [],
    .for_ (.nm 11) .seq [.idx (.idx (.idx (.v 4) (.c (.int 1))) (.idx (.v 7) (.c (.int 1)))) (.c (.int 2))] [.ite (.call 30 [.v 11, .idx (.v 7) (.c (.int 2))]) [.set (.nm 12) (.call 91 [.v 4, .call 31 [.v 4, .v 7, .idx (.v 11) (.c (.int 0))]]),
    .set (.nm 13) (.compIf (.nm 14) .seq [.v 10] (.cmp .notin (.v 14) (.v 12)) (.v 14)),
    .ite (.cmp .ne (.call 89 [.v 4, .v 7, .idx (.v 11) (.c (.int 0))]) (.v 13)) [.ret (.c (.bool false))] [],
    .ext 6 (.ite (.cmp .ne (.v 13) (.lst [])) (.lst [.tup [.v 7, .idx (.v 11) (.c (.int 0))]]) (.lst []))] []]],
    .ite (.cmp .ne (.call 90 [.v 4]) (.v 6)) [.ret (.c (.bool false))] [],
    .set (.nm 8) (.idx (.tup [.c (.str ""), .c (.str "cd"), .c (.str "abcd")]) (.call 34 [.v 0, .bin .add (.bin .mul (.c (.int 180)) (.v 1)) (.c (.int 171)), .c (.int 3)])),
    .set (.nm 9) (.tup [.c (.int 0), .call 34 [.v 0, .bin .add (.bin .mul (.c (.int 180)) (.v 1)) (.c (.int 170)), .blt .len [.idx (.v 4) (.c (.int 1))]], .v 8]),
    .ite (.cmp .ne (.call 87 [.v 4, .v 9]) (.call 91 [.v 4, .lst [.v 9]])) [.ret (.c (.bool false))] []],
    .set (.nm 2) (.tup [.tup [.c (.str "go"), .c (.str ""), .c (.str ""), .tup [.tup [.c (.int 1), .c (.str ""), .c (.str "")]]], .tup [.c (.str "up"), .c (.str ""), .c (.str ""), .tup [.tup [.c (.int 1), .c (.str ""), .c (.str "")], .tup [.c (.int 2), .c (.str ""), .c (.str "")]]]]),
    .set (.nm 3) (.tup [.tup [.c (.str "")], .tup [.tup [.c (.str "cave"), .c (.str ""), .v 2], .tup [.c (.str "left"), .c (.str ""), .tup []], .tup [.c (.str "right"), .c (.str ""), .tup []]]]),
    .ite (.or (.cmp .ne (.call 90 [.v 3]) (.lst [.tup [.tup [.c (.int 0), .c (.int 0), .c (.str "")], .c (.str "go")]])) (.cmp .ne (.call 89 [.v 3, .tup [.c (.int 0), .c (.int 0), .c (.str "")], .c (.str "go")]) (.lst [.c (.str "right")]))) [.ret (.c (.bool false))] [],
    .ret (.and (.cmp .eq (.call 89 [.v 3, .tup [.c (.int 0), .c (.int 0), .c (.str "")], .c (.str "up")]) (.lst [])) (.cmp .eq (.call 87 [.v 3, .tup [.c (.int 0), .c (.int 1), .c (.str "")]]) (.lst [.c (.str "left")])))]⟩
end K60

/-! The interpreter, step by step: equations that never look behind what is not known yet. -/
set_option autoImplicit false
set_option linter.all false
set_option maxRecDepth 100000
namespace Rk
open PySem PySem.W
abbrev FT0 := Nat → List D → Option (Bool × D)
section
variable {F : FT0} {ρ : Env}
def vE : Option (Option Slot) → Option (Tag × D)
  | some (some (true, d)) => some (.ow, d)
  | some (some (false, d)) => some (.im, d)
  | _ => none
def op2 (f : D → D → Option (Tag × D)) : Option (Tag × D) → Option (Tag × D) → Option (Tag × D)
  | some x, some y => f x.2 y.2
  | _, _ => none
def cm2 (f : D → D → Option Bool) : Option (Tag × D) → Option (Tag × D) → Option (Tag × D)
  | some x, some y => (f x.2 y.2).map fun r => (.im, .bool r)
  | _, _ => none
def le3 : Option (Tag × D) → Option (Tag × D) → Option (Tag × D) → Option (Tag × D)
  | some x, some y, z => match cmpD .le x.2 y.2 with
    | some true => match z with
      | some z => (cmpD .le y.2 z.2).map fun r => (.im, .bool r)
      | none => none
    | some false => some (.im, .bool false)
    | none => none
  | _, _, _ => none
def andE : Option Bool → Option Bool → Option (Tag × D)
  | some true, b => b.map fun r => (.im, .bool r)
  | some false, _ => some (.im, .bool false)
  | none, _ => none
def orE : Option Bool → Option Bool → Option (Tag × D)
  | some true, _ => some (.im, .bool true)
  | some false, b => b.map fun r => (.im, .bool r)
  | none, _ => none
def notE : Option Bool → Option (Tag × D) := fun o => o.map fun r => (.im, .bool (!r))
def iteE {α : Type} : Option Bool → Option α → Option α → Option α
  | some true, a, _ => a
  | some false, _, b => b
  | none, _, _ => none
def cutE (lo : Bool) : Option (Tag × D) → Option (Tag × D) → Option (Tag × D)
  | some x, some (_, .int k) => if lo then cutD x.2 (some k) none else cutD x.2 none (some k)
  | _, _ => none
def consE {α : Type} : Option α → Option (List α) → Option (List α)
  | some x, r => r.map (x :: ·)
  | none, _ => none
/-- the turns of a comprehension, by its parts -/
def turns (F : FT0) (t : Tg) (c : Option Ex) (e : Ex) (ρ : Env) (items : List D) : Option (List D) :=
  compL t (fun ρ' => match c with | some i => boolOf (ev F i ρ') | none => some true) (fun ρ' => keepOf (ev F e ρ')) ρ items
def cpE (F : FT0) (t : Tg) (k : Ik) (c : Option Ex) (e : Ex) (ρ : Env) : Option (List (Tag × D)) → Option (Tag × D)
  | some rs => match walkD k (rs.map (·.2)) with
    | some items => if freeT t ρ then (turns F t c e ρ items).map fun ds => (.fr, .list ds) else none
    | none => none
  | none => none
def caE (F : FT0) (f : Nat) : Option (List (Tag × D)) → Option (Tag × D)
  | some rs => backOf rs (F f (rs.map (·.2)))
  | none => none
def blE (b : Bl) : Option (List (Tag × D)) → Option (Tag × D)
  | some rs => bltD b (rs.map (·.2))
  | none => none
theorem v_v (i : Nat) : ev F (.v i) ρ = vE ρ[i]? := by simp only [ev]; rfl
theorem v_c (d : D) : ev F (.c d) ρ = some (.im, d) := by simp only [ev]
theorem v_tup (es : List Ex) : ev F (.tup es) ρ = (evK F es ρ).map fun ds => (.im, .tuple ds) := by simp only [ev]
theorem v_lst (es : List Ex) : ev F (.lst es) ρ = (evK F es ρ).map fun ds => (.fr, .list ds) := by simp only [ev]
theorem v_emp : ev F .emp ρ = some (.fr, .dict []) := by simp only [ev]
theorem v_bin (o : Bop) (a b : Ex) : ev F (.bin o a b) ρ = op2 (binD o) (ev F a ρ) (ev F b ρ) := by
  simp only [ev] <;> cases ev F a ρ <;> cases ev F b ρ <;> rfl
theorem v_cmp (o : Cop) (a b : Ex) : ev F (.cmp o a b) ρ = cm2 (cmpD o) (ev F a ρ) (ev F b ρ) := by
  simp only [ev] <;> cases ev F a ρ <;> cases ev F b ρ <;> rfl
theorem v_le2 (a b c : Ex) : ev F (.le2 a b c) ρ = le3 (ev F a ρ) (ev F b ρ) (ev F c ρ) := by
  simp only [ev] <;> cases ev F a ρ <;> cases ev F b ρ <;> rfl
theorem v_and (a b : Ex) : ev F (.and a b) ρ = andE (boolOf (ev F a ρ)) (boolOf (ev F b ρ)) := by
  simp only [ev]; cases boolOf (ev F a ρ) with
  | none => rfl
  | some x => cases x <;> rfl
theorem v_or (a b : Ex) : ev F (.or a b) ρ = orE (boolOf (ev F a ρ)) (boolOf (ev F b ρ)) := by
  simp only [ev]; cases boolOf (ev F a ρ) with
  | none => rfl
  | some x => cases x <;> rfl
theorem v_not (a : Ex) : ev F (.not a) ρ = notE (boolOf (ev F a ρ)) := by simp only [ev, notE]
theorem v_ite (t a b : Ex) : ev F (.ite t a b) ρ = iteE (boolOf (ev F t ρ)) (ev F a ρ) (ev F b ρ) := by
  simp only [ev]; cases boolOf (ev F t ρ) with
  | none => rfl
  | some x => cases x <;> rfl
theorem v_idx (a b : Ex) : ev F (.idx a b) ρ = op2 idxD (ev F a ρ) (ev F b ρ) := by
  simp only [ev] <;> cases ev F a ρ <;> cases ev F b ρ <;> rfl
theorem v_from (a b : Ex) : ev F (.from_ a b) ρ = cutE true (ev F a ρ) (ev F b ρ) := by
  simp only [ev]
  cases ev F a ρ with
  | none => rfl
  | some x => cases ev F b ρ with
    | none => rfl
    | some y => obtain ⟨t, d⟩ := y; cases d <;> rfl
theorem v_upto (a b : Ex) : ev F (.upto a b) ρ = cutE false (ev F a ρ) (ev F b ρ) := by
  simp only [ev]
  cases ev F a ρ with
  | none => rfl
  | some x => cases ev F b ρ with
    | none => rfl
    | some y => obtain ⟨t, d⟩ := y; cases d <;> rfl
theorem v_comp (t : Tg) (k : Ik) (src : List Ex) (e : Ex) : ev F (.comp t k src e) ρ = cpE F t k none e ρ (evL F src ρ) := by
  simp only [ev, cpE, turns] <;> cases evL F src ρ <;> rfl
theorem v_compIf (t : Tg) (k : Ik) (src : List Ex) (c e : Ex) : ev F (.compIf t k src c e) ρ = cpE F t k (some c) e ρ (evL F src ρ) := by
  simp only [ev, cpE, turns] <;> cases evL F src ρ <;> rfl
theorem v_call (f : Nat) (es : List Ex) : ev F (.call f es) ρ = caE F f (evL F es ρ) := by
  simp only [ev, caE] <;> cases evL F es ρ <;> rfl
theorem v_blt (b : Bl) (es : List Ex) : ev F (.blt b es) ρ = blE b (evL F es ρ) := by
  simp only [ev, blE] <;> cases evL F es ρ <;> rfl
theorem k_nil : evK F [] ρ = some [] := by simp only [evK]
theorem k_cons (e : Ex) (es : List Ex) : evK F (e :: es) ρ = consE (keepOf (ev F e ρ)) (evK F es ρ) := by
  simp only [evK] <;> cases keepOf (ev F e ρ) <;> rfl
theorem l_nil : evL F [] ρ = some [] := by simp only [evL]
theorem l_cons (e : Ex) (es : List Ex) : evL F (e :: es) ρ = consE (ev F e ρ) (evL F es ρ) := by
  simp only [evL] <;> cases ev F e ρ <;> rfl
-- the values
theorem vE_im (d : D) : vE (some (some (false, d))) = some (.im, d) := rfl
theorem vE_ow (d : D) : vE (some (some (true, d))) = some (.ow, d) := rfl
theorem op2_s (f : D → D → Option (Tag × D)) (x y : Tag × D) : op2 f (some x) (some y) = f x.2 y.2 := rfl
theorem cm2_s (f : D → D → Option Bool) (x y : Tag × D) : cm2 f (some x) (some y) = (f x.2 y.2).map fun r => (.im, .bool r) := rfl
theorem andE_t (b : Option Bool) : andE (some true) b = b.map fun r => (.im, .bool r) := rfl
theorem andE_f (b : Option Bool) : andE (some false) b = some (.im, .bool false) := rfl
theorem orE_t (b : Option Bool) : orE (some true) b = some (.im, .bool true) := rfl
theorem orE_f (b : Option Bool) : orE (some false) b = b.map fun r => (.im, .bool r) := rfl
theorem notE_s (b : Bool) : notE (some b) = some (.im, .bool (!b)) := rfl
theorem iteE_t {α : Type} (a b : Option α) : iteE (some true) a b = a := rfl
theorem iteE_f {α : Type} (a b : Option α) : iteE (some false) a b = b := rfl
theorem consE_s {α : Type} (x : α) (r : List α) : consE (some x) (some r) = some (x :: r) := rfl
theorem boolOf_s (t : Tag) (b : Bool) : boolOf (some (t, .bool b)) = some b := by cases t <;> rfl
theorem keepOf_im (d : D) : keepOf (some (.im, d)) = some d := rfl
theorem keepOf_fr (d : D) : keepOf (some (.fr, d)) = some d := rfl
theorem blE_s (b : Bl) (rs : List (Tag × D)) : blE b (some rs) = bltD b (rs.map (·.2)) := rfl
theorem cutE_t (x : Tag × D) (t : Tag) (k : Int) : cutE true (some x) (some (t, .int k)) = cutD x.2 (some k) none := rfl
theorem cutE_f (x : Tag × D) (t : Tag) (k : Int) : cutE false (some x) (some (t, .int k)) = cutD x.2 none (some k) := rfl
theorem cpE_s {t : Tg} {k : Ik} {c : Option Ex} {e : Ex} {rs : List (Tag × D)} {items ds : List D} (h1 : walkD k (rs.map (·.2)) = some items) (h2 : freeT t ρ = true) (h3 : turns F t c e ρ items = some ds) : cpE F t k c e ρ (some rs) = some (.fr, .list ds) := by
  simp only [cpE, h1, h2, if_true, h3, Option.map_some]
theorem caE_s {f : Nat} {rs : List (Tag × D)} {r0 : Bool × D} (h1 : F f (rs.map (·.2)) = some r0) (h2 : lent rs = false) : caE F f (some rs) = some (if r0.1 then .fr else .im, r0.2) := by
  simp only [caE, h1, backOf, h2, Bool.false_and, Bool.false_eq_true, if_false]
theorem caE_a {f : Nat} {rs : List (Tag × D)} {r0 : Bool × D} (h1 : F f (rs.map (·.2)) = some r0) (h2 : apart r0 = true) : caE F f (some rs) = some (if r0.1 then .fr else .im, r0.2) := by
  simp only [caE, h1, backOf, h2, Bool.not_true, Bool.and_false, Bool.false_eq_true, if_false]

/-! statements -/
def seqE (F : FT0) (ss : List Sm) : Option Out → Option Out
  | some (.nx ρ') => exs F ss ρ'
  | r => r
def setE (F : FT0) (i : Nat) (e : Ex) (ρ : Env) : Option (Tag × D) → Option Out
  | some r => if decide (r.1 = .ow) && !isV e then none else some (.nx ((thaw e ρ).set i (some (slotOf r))))
  | none => none
def setTE (is : List Nat) (ρ : Env) : Option (Tag × D) → Option Out
  | some r => (bindT (.tp is) r.2 ρ).map .nx
  | none => none
def parE (is : List Nat) (ρ : Env) : Option (List (Tag × D)) → Option Out
  | some rs => if lent rs then none else (putAll is rs ρ).map .nx
  | none => none
/-- the turns of a for -/
def trips (F : FT0) (t : Tg) (body : List Sm) (items : List D) (ρ : Env) : Option Out :=
  forL (fun d ρ => match bindT t d ρ with
    | some ρ' => exs F body ρ'
    | none => none) items ρ
def forE (F : FT0) (t : Tg) (k : Ik) (body : List Sm) (ρ : Env) : Option (List (Tag × D)) → Option Out
  | some rs => if lent rs then none else match walkD k (rs.map (·.2)) with
    | some items => trips F t body items ρ
    | none => none
  | none => none
/-- the turns of a while -/
def rounds (F : FT0) (c : Ex) (body : List Sm) (n : Nat) (ρ : Env) : Option Out := whlL (fun ρ => boolOf (ev F c ρ)) (fun ρ => exs F body ρ) n ρ
def retE (e : Ex) : Option (Tag × D) → Option Out
  | some (.im, d) => some (.rt (false, d))
  | some (.fr, d) => some (.rt (true, d))
  | some (.ow, d) => if isV e then some (.rt (true, d)) else none
  | none => none
def expE (ρ : Env) : Option (Tag × D) → Option Out
  | some _ => some (.nx ρ)
  | none => none
def appE (x : Nat) (ρ : Env) : Option (Option Slot) → Option D → Option Out
  | some (some (true, .list xs)), some d => if fitsN xs.length then some (.nx (ρ.set x (some (true, .list (xs ++ [d]))))) else none
  | _, _ => none
def extE (x : Nat) (ρ : Env) : Option (Option Slot) → Option (Tag × D) → Option Out
  | some (some (true, .list xs)), some (_, .list ys) => if fitsN (xs.length + ys.length) then some (.nx (ρ.set x (some (true, .list (xs ++ ys))))) else none
  | _, _ => none
theorem b_nil : exs F [] ρ = some (.nx ρ) := by simp only [exs]
theorem b_cons (s : Sm) (ss : List Sm) : exs F (s :: ss) ρ = seqE F ss (ex F s ρ) := by
  simp only [exs]
  cases ex F s ρ with
  | none => rfl
  | some o => cases o <;> rfl
theorem seqE_nx (ss : List Sm) (ρ' : Env) : seqE F ss (some (.nx ρ')) = exs F ss ρ' := rfl
theorem seqE_rt (ss : List Sm) (r : Bool × D) : seqE F ss (some (.rt r)) = some (.rt r) := rfl
theorem s_set (i : Nat) (e : Ex) : ex F (.set (.nm i) e) ρ = setE F i e ρ (ev F e ρ) := by
  simp only [ex] <;> cases ev F e ρ <;> rfl
theorem s_setT (is : List Nat) (e : Ex) : ex F (.set (.tp is) e) ρ = setTE is ρ (ev F e ρ) := by
  simp only [ex] <;> cases ev F e ρ <;> rfl
theorem s_par (is : List Nat) (es : List Ex) : ex F (.par is es) ρ = parE is ρ (evL F es ρ) := by
  simp only [ex] <;> cases evL F es ρ <;> rfl
theorem s_exp (e : Ex) : ex F (.exp e) ρ = expE ρ (ev F e ρ) := by
  simp only [ex] <;> cases ev F e ρ <;> rfl
theorem s_for (t : Tg) (k : Ik) (src : List Ex) (body : List Sm) : ex F (.for_ t k src body) ρ = forE F t k body (thaws src ρ) (evL F src (thaws src ρ)) := by
  simp only [ex, forE, trips] <;> cases evL F src (thaws src ρ) <;> rfl
theorem s_whl (c : Ex) (body : List Sm) : ex F (.whl c body) ρ = rounds F c body WF ρ := by simp only [ex, rounds]
theorem s_ite (t : Ex) (a b : List Sm) : ex F (.ite t a b) ρ = iteE (boolOf (ev F t ρ)) (exs F a ρ) (exs F b ρ) := by
  simp only [ex]; cases boolOf (ev F t ρ) with
  | none => rfl
  | some x => cases x <;> rfl
theorem s_ret (e : Ex) : ex F (.ret e) ρ = retE e (ev F e ρ) := by
  simp only [ex]
  cases ev F e ρ with
  | none => rfl
  | some r => obtain ⟨t, d⟩ := r; cases t <;> rfl
theorem s_retN : ex F .retN ρ = some (.rt (false, .none)) := by simp only [ex]
theorem s_pass : ex F .pass ρ = some (.nx ρ) := by simp only [ex]
theorem s_cont : ex F .cont ρ = some (.ct ρ) := by simp only [ex]
theorem s_app (x : Nat) (e : Ex) : ex F (.app x e) ρ = appE x ρ ρ[x]? (keepOf (ev F e ρ)) := by
  simp only [ex]
  generalize ρ[x]? = o
  rcases o with _ | _ | ⟨b, d⟩
  · rfl
  · rfl
  · cases b <;> cases d <;> cases keepOf (ev F e ρ) <;> rfl
theorem s_ext (x : Nat) (e : Ex) : ex F (.ext x e) ρ = extE x ρ ρ[x]? (ev F e ρ) := by
  simp only [ex]
  generalize ρ[x]? = o
  generalize ev F e ρ = r
  rcases o with _ | _ | ⟨b, d⟩
  · rfl
  · rfl
  · rcases r with _ | ⟨t, d'⟩
    · cases b <;> cases d <;> rfl
    · cases b <;> cases d <;> cases d' <;> rfl
def popE (y x : Nat) (ρ : Env) : Option (Option Slot) → Option Out
  | some (some (true, .list xs)) => match xs.getLast? with
    | some d => some (.nx ((ρ.set x (some (true, .list xs.dropLast))).set y (some (false, d))))
    | none => none
  | _ => none
theorem s_pop (y x : Nat) : ex F (.pop y x) ρ = popE y x ρ ρ[x]? := by
  simp only [ex]
  generalize ρ[x]? = o
  rcases o with _ | _ | ⟨b, d⟩
  · rfl
  · rfl
  · cases b <;> cases d <;> rfl
def putE (x : Nat) (ρ : Env) : Option (Option Slot) → Option D → Option D → Option Out
  | some (some (true, .dict kvs)), some d, some kd => if keyT kd && keysT kvs && fitsN kvs.length then some (.nx (ρ.set x (some (true, .dict (dput kvs kd d))))) else none
  | _, _, _ => none
theorem s_put (x : Nat) (k e : Ex) : ex F (.put x k e) ρ = putE x ρ ρ[x]? (keepOf (ev F e ρ)) (keepOf (ev F k ρ)) := by
  simp only [ex]
  generalize ρ[x]? = o
  rcases o with _ | _ | ⟨b, d⟩
  · rfl
  · rfl
  · cases b <;> cases d <;> cases keepOf (ev F e ρ) <;> cases keepOf (ev F k ρ) <;> rfl
theorem retE_im (e : Ex) (d : D) : retE e (some (.im, d)) = some (.rt (false, d)) := rfl
theorem retE_fr (e : Ex) (d : D) : retE e (some (.fr, d)) = some (.rt (true, d)) := rfl
theorem expE_s (r : Tag × D) : expE ρ (some r) = some (.nx ρ) := rfl
def callE : Option Out → Option (Bool × D)
  | some (.rt r) => some r
  | some (.nx _) => some (false, .none)
  | _ => none
theorem run_go {P : Tb} {f : Nat} {fn : Fn} (h : P f = some fn) (n : Nat) (ds : List D) (hl : ds.length = fn.params) : run P (n + 1) f ds = callE (exs (run P n) fn.body (argEnv fn ds)) := by
  simp only [run, h, callFn, hl, if_true]
  unfold callE
  cases exs (run P n) fn.body (argEnv fn ds) with
  | none => rfl
  | some o => cases o <;> rfl
end
end Rk

/-! Plain tools for the interpreter's words. -/
set_option autoImplicit false
set_option linter.all false
set_option maxRecDepth 100000
namespace Rk
open PySem PySem.W

@[simp] theorem dep_int (i : Int) : (PyData.int i).depth = 0 := rfl
@[simp] theorem dep_str (i : Str) : (PyData.str i).depth = 0 := rfl
theorem beq_dec {α : Type} [BEq α] [LawfulBEq α] [DecidableEq α] (a b : α) : (a == b) = decide (a = b) := by
  by_cases h : a = b
  · subst h; simp
  · simp [h]
theorem lt_int (a b : Int) : cmpD .lt (.int a) (.int b) = some (decide (a < b)) := by simp [cmpD, ltOk, alike, depOk, PyData.plain, dataLt_int]
theorem gt_int (a b : Int) : cmpD .gt (.int a) (.int b) = some (decide (b < a)) := by simp [cmpD, ltOk, alike, depOk, PyData.plain, dataLt_int]
theorem le_int (a b : Int) : cmpD .le (.int a) (.int b) = some (decide (a ≤ b)) := by
  simp only [cmpD, ltOk, alike, depOk, PyData.plain, dataLt_int, dep_int]
  by_cases h : a ≤ b
  · simp [h]
  · simp [h]; omega
theorem eq_int (a b : Int) : cmpD .eq (.int a) (.int b) = some (decide (a = b)) := by simp [cmpD, eqD, depOk, PyData.plain, PyData.eqv, beq_dec]
theorem ne_int (a b : Int) : cmpD .ne (.int a) (.int b) = some (!decide (a = b)) := by simp [cmpD, eqD, depOk, PyData.plain, PyData.eqv, beq_dec]
theorem eq_str (a b : Str) : cmpD .eq (.str a) (.str b) = some (decide (a = b)) := by simp [cmpD, eqD, depOk, PyData.plain, PyData.eqv, beq_dec]
theorem ne_str (a b : Str) : cmpD .ne (.str a) (.str b) = some (!decide (a = b)) := by simp [cmpD, eqD, depOk, PyData.plain, PyData.eqv, beq_dec]
theorem lt_str (a b : Str) : cmpD .lt (.str a) (.str b) = some (decide (a.cps.toList < b.cps.toList)) := by simp [cmpD, ltOk, alike, depOk, PyData.plain, dataLt_str]
/-- a sign, as a text -/
abbrev sg (c : Nat) : D := .str ⟨#[c]⟩
theorem in_sg (c : Nat) (y : Str) : cmpD .isin (sg c) (.str y) = some (decide (c ∈ y.cps.toList)) := rfl
theorem notin_sg (c : Nat) (y : Str) : cmpD .notin (sg c) (.str y) = some (!decide (c ∈ y.cps.toList)) := rfl
theorem items_str {x : Str} (h : x.length ≤ 1000) : itemsOf (.str x) = some (x.cps.toList.map sg) := by
  have : fitsN x.length = true := by unfold fitsN; simp; omega
  simp [itemsOf, this]
/-- a comprehension whose turns are known -/
theorem compL_map {α : Type} {t : Tg} {c : Env → Option Bool} {e : Env → Option D} {ρ : Env} {enc : α → D} {p : α → Bool} {g : α → D} : ∀ {xs : List α}, (∀ x ∈ xs, ∃ ρ', bindT t (enc x) ρ = some ρ' ∧ c ρ' = some (p x) ∧ (p x = true → e ρ' = some (g x))) → compL t c e ρ (xs.map enc) = some ((xs.filter p).map g)
  | [], _ => rfl
  | x :: xs, h => by
    obtain ⟨ρ', h1, h2, h3⟩ := h x List.mem_cons_self
    have ih := compL_map (xs := xs) fun y hy => h y (List.mem_cons_of_mem _ hy)
    simp only [List.map_cons, compL, h1, h2]
    cases hp : p x with
    | true => simp only [h3 hp, ih, Option.map_some, List.filter_cons, hp, if_true, List.map_cons]
    | false => simp only [ih, List.filter_cons, hp, Bool.false_eq_true, if_false]
theorem turns_if {α : Type} {F : FT0} {t : Tg} {c e : Ex} {ρ : Env} {enc : α → D} (p : α → Bool) (g : α → D) {xs : List α} (ρ' : α → Env) (h : ∀ x ∈ xs, bindT t (enc x) ρ = some (ρ' x) ∧ boolOf (ev F c (ρ' x)) = some (p x) ∧ (p x = true → keepOf (ev F e (ρ' x)) = some (g x))) : turns F t (some c) e ρ (xs.map enc) = some ((xs.filter p).map g) :=
  compL_map fun x hx => ⟨ρ' x, (h x hx).1, (h x hx).2.1, (h x hx).2.2⟩
theorem turns_all {α : Type} {F : FT0} {t : Tg} {e : Ex} {ρ : Env} {enc : α → D} (g : α → D) {xs : List α} (ρ' : α → Env) (h : ∀ x ∈ xs, bindT t (enc x) ρ = some (ρ' x) ∧ keepOf (ev F e (ρ' x)) = some (g x)) : turns F t none e ρ (xs.map enc) = some (xs.map g) := by
  have := compL_map (t := t) (ρ := ρ) (c := fun _ => some true) (e := fun ρ' => keepOf (ev F e ρ')) (p := fun _ => true) (g := g) fun x hx => ⟨ρ' x, (h x hx).1, rfl, fun _ => (h x hx).2⟩
  unfold turns
  rw [this, List.filter_eq_self.mpr (fun _ _ => rfl)]
/-- a for loop by an invariant over what is done -/
theorem trips_inv {α : Type} {F : FT0} {t : Tg} {body : List Sm} {enc : α → D} (S : List α → Env → Prop) : ∀ (xs done : List α) (ρ : Env), S done ρ → (∀ d x ρ, x ∈ xs → S d ρ → ∃ ρ1 ρ', bindT t (enc x) ρ = some ρ1 ∧ (exs F body ρ1 = some (.nx ρ') ∨ exs F body ρ1 = some (.ct ρ')) ∧ S (d ++ [x]) ρ') → ∃ ρ', trips F t body (xs.map enc) ρ = some (.nx ρ') ∧ S (done ++ xs) ρ'
  | [], done, ρ, h, _ => ⟨ρ, rfl, by simpa using h⟩
  | x :: xs, done, ρ, h, st => by
    obtain ⟨ρ1, ρ', h0, h1, h2⟩ := st done x ρ List.mem_cons_self h
    obtain ⟨ρ'', h3, h4⟩ := trips_inv S xs (done ++ [x]) ρ' h2 fun d y ρ hy => st d y ρ (List.mem_cons_of_mem _ hy)
    refine ⟨ρ'', ?_, by simpa using h4⟩
    unfold trips at h3 ⊢
    simp only [List.map_cons, forL, h0]
    rcases h1 with h1 | h1 <;> simp only [h1] <;> exact h3
theorem bools_map {α : Type} (f : α → Bool) : ∀ xs : List α, boolsOf (xs.map fun x => .bool (f x)) = some (xs.map f)
  | [] => rfl
  | x :: xs => by simp [boolsOf, bools_map f xs]
theorem callE_rt (r : Bool × D) : callE (some (.rt r)) = some r := rfl
theorem callE_nx (ρ : Env) : callE (some (.nx ρ)) = some (false, .none) := rfl
theorem caE_d (F : FT0) (f : Nat) (rs : List (Tag × D)) : caE F f (some rs) = backOf rs (F f (rs.map (·.2))) := rfl
theorem backOf_d (rs : List (Tag × D)) (r : Bool × D) : backOf rs (some r) = if lent rs && !apart r then none else some (if r.1 then .fr else .im, r.2) := rfl
theorem cpE_d (F : FT0) (t : Tg) (k : Ik) (c : Option Ex) (e : Ex) (ρ : Env) (rs : List (Tag × D)) : cpE F t k c e ρ (some rs) = match walkD k (rs.map (·.2)) with
    | some items => if freeT t ρ then (turns F t c e ρ items).map fun ds => (.fr, .list ds) else none
    | none => none := rfl
theorem walk_seq (d : D) : walkD .seq [d] = itemsOf d := rfl
theorem len_tup (xs : List D) : bltD .len [.tuple xs] = some (.im, .int (xs.length : Int)) := rfl
theorem len_lst (xs : List D) : bltD .len [.list xs] = some (.im, .int (xs.length : Int)) := rfl
theorem len_str {x : Str} (h : x.length ≤ 1000) : bltD .len [.str x] = some (.im, .int (x.length : Int)) := by
  have : fitsN x.length = true := by unfold fitsN; simp; omega
  simp [bltD, lenD, this]
theorem all_map {α : Type} (f : α → Bool) (xs : List α) : bltD .all [.list (xs.map fun x => .bool (f x))] = some (.im, .bool (xs.all f)) := by
  simp only [bltD, bools_map, Option.map_some, List.all_map]; rfl
theorem any_map {α : Type} (f : α → Bool) (xs : List α) : bltD .any [.list (xs.map fun x => .bool (f x))] = some (.im, .bool (xs.any f)) := by
  simp only [bltD, bools_map, Option.map_some, List.any_map]; rfl
theorem isInt_int (i : Int) : bltD .isInt [.int i] = some (.im, .bool true) := rfl
theorem isBool_int (i : Int) : bltD .isBool [.int i] = some (.im, .bool false) := rfl
theorem isStr_str (i : Str) : bltD .isStr [.str i] = some (.im, .bool true) := rfl
theorem sub_int (a b : Int) : binD .sub (.int a) (.int b) = some (.im, .int (a - b)) := rfl
theorem add_int (a b : Int) : binD .add (.int a) (.int b) = some (.im, .int (a + b)) := rfl
def notOwn : Option (Option Slot) → Bool
  | some (some (true, _)) => false
  | _ => true
theorem free_nm (i : Nat) (ρ : Env) : freeT (.nm i) ρ = notOwn ρ[i]? := by
  simp only [freeT, List.all_cons, List.all_nil, Bool.and_true]; rfl
theorem free_tp (is : List Nat) (ρ : Env) : freeT (.tp is) ρ = is.all fun i => notOwn ρ[i]? := by
  simp only [freeT]; rfl
theorem notOwn_n : notOwn (some none) = true := rfl
theorem notOwn_f (d : D) : notOwn (some (some (false, d))) = true := rfl
local macro_rules
  | `(tactic| simp_arith [$hs,*]) => `(tactic| simp only [b_cons, b_nil, seqE_nx, seqE_rt, s_set, s_setT, s_par, s_exp, s_for, s_whl, s_ite, s_ret, s_retN, s_pass, s_cont, s_app, s_ext, s_pop, s_put, retE_im, retE_fr, expE_s, callE_rt, callE_nx,
  v_v, v_c, v_tup, v_lst, v_emp, v_bin, v_cmp, v_le2, v_and, v_or, v_not, v_ite, v_idx, v_from, v_upto, v_comp, v_compIf, v_call, v_blt, k_nil, k_cons, l_nil, l_cons, vE_im, vE_ow, op2_s, cm2_s, andE_t, andE_f, orE_t, orE_f, notE_s, iteE_t, iteE_f, consE_s, boolOf_s, keepOf_im, keepOf_fr, blE_s, cutE_t, cutE_f,
  caE_d, backOf_d, cpE_d, free_nm, free_tp, notOwn_n, notOwn_f, List.all_cons, List.all_nil, walk_seq, lent, List.any_cons, List.any_nil, reduceCtorEq, decide_false, decide_true, Bool.or_self, Bool.or_false, Bool.false_or, Bool.false_and, Bool.and_false, Bool.true_and, Bool.and_true, Bool.not_true, Bool.not_false, Bool.false_eq_true, if_false, if_true, ite_true, ite_false,
  List.getElem?_cons_zero, List.getElem?_cons_succ, List.set_cons_zero, List.set_cons_succ, Option.map_some, List.map_cons, List.map_nil, lt_int, gt_int, le_int, eq_int, ne_int, eq_str, ne_str, in_sg, notin_sg, len_tup, len_lst, isInt_int, isBool_int, isStr_str, sub_int, add_int, all_map, any_map, $hs,*])

open K60
theorem le3_int (t1 t2 t3 : Tag) (a b c : Int) : le3 (some (t1, .int a)) (some (t2, .int b)) (some (t3, .int c)) = some (.im, .bool (decide (a ≤ b) && decide (b ≤ c))) := by
  simp only [le3, le_int]
  cases decide (a ≤ b) <;> simp
theorem r_is_int {P : Tb} (h : P 0 = some f_is_int) (n : Nat) (v a b : Int) : run P (n + 1) 0 [.int v, .int a, .int b] = some (false, .bool (decide (a ≤ v) && decide (v ≤ b))) := by
  rw [run_go h n _ rfl]
  show callE (exs _ f_is_int.body [some (false, .int v), some (false, .int a), some (false, .int b)]) = _
  unfold f_is_int
  simp_arith [le3_int]
theorem r_is_word {P : Tb} (h : P 2 = some f_is_word) (n : Nat) {w : Str} (h1 : 1 ≤ w.length) (h6 : w.length ≤ 6) (hl : ∀ c ∈ w.cps.toList, c ∈ (("abcdefghijklmnopqrstuvwxyz" : Str)).cps.toList) : run P (n + 1) 2 [.str w] = some (false, .bool true) := by
  rw [run_go h n _ rfl]
  show callE (exs _ f_is_word.body [some (false, .str w), none]) = _
  unfold f_is_word
  have ht : turns (run P n) (.nm 1) none (.cmp .isin (.v 1) (.c (.str "abcdefghijklmnopqrstuvwxyz"))) [some (false, .str w), none] (w.cps.toList.map sg) = _ := turns_all (fun c => .bool (decide (c ∈ (("abcdefghijklmnopqrstuvwxyz" : Str)).cps.toList))) (fun c => [some (false, .str w), some (false, sg c)]) fun c hc => ⟨rfl, by simp_arith []⟩
  have a1 : decide ((1 : Int) ≤ (w.length : Int)) = true := by simp; omega
  have a2 : decide ((w.length : Int) ≤ 6) = true := by simp; omega
  have a3 : w.cps.toList.all (fun c => decide (c ∈ (("abcdefghijklmnopqrstuvwxyz" : Str)).cps.toList)) = true := List.all_eq_true.mpr fun c hc => by simpa using hl c hc
  simp_arith [len_str (show w.length ≤ 1000 by omega), le3_int, a1, a2, items_str (show w.length ≤ 1000 by omega), ht, a3]
end Rk

/-! Stories as Lean data, and the functions of stories.py. -/
set_option autoImplicit false
set_option linter.all false
set_option maxRecDepth 100000
namespace Rk
open PySem PySem.W K60
local macro_rules
  | `(tactic| simp_arith [$hs,*]) => `(tactic| simp only [b_cons, b_nil, seqE_nx, seqE_rt, s_set, s_setT, s_par, s_exp, s_for, s_whl, s_ite, s_ret, s_retN, s_pass, s_cont, s_app, s_ext, s_pop, s_put, retE_im, retE_fr, expE_s, callE_rt, callE_nx,
  v_v, v_c, v_tup, v_lst, v_emp, v_bin, v_cmp, v_le2, v_and, v_or, v_not, v_ite, v_idx, v_from, v_upto, v_comp, v_compIf, v_call, v_blt, k_nil, k_cons, l_nil, l_cons, vE_im, vE_ow, op2_s, cm2_s, andE_t, andE_f, orE_t, orE_f, notE_s, iteE_t, iteE_f, consE_s, boolOf_s, keepOf_im, keepOf_fr, blE_s, cutE_t, cutE_f,
  caE_d, backOf_d, cpE_d, free_nm, free_tp, notOwn_n, notOwn_f, List.all_cons, List.all_nil, walk_seq, lent, List.any_cons, List.any_nil, reduceCtorEq, decide_false, decide_true, Bool.or_self, Bool.or_false, Bool.false_or, Bool.false_and, Bool.and_false, Bool.true_and, Bool.and_true, Bool.not_true, Bool.not_false, Bool.false_eq_true, if_false, if_true, ite_true, ite_false,
  List.getElem?_cons_zero, List.getElem?_cons_succ, List.set_cons_zero, List.set_cons_succ, Option.map_some, List.map_cons, List.map_nil, lt_int, gt_int, le_int, eq_int, ne_int, eq_str, ne_str, in_sg, notin_sg, len_tup, len_lst, isInt_int, isBool_int, isStr_str, sub_int, add_int, all_map, any_map, $hs,*])

theorem abcd_l : (("abcd" : Str)).cps.toList = [97, 98, 99, 100] := by decide +kernel
theorem atI_nat {α : Type} {xs : List α} {i : Nat} {d : α} (h : xs[i]? = some d) : L2.atI xs (i : Int) = some d := by
  have hl := (List.getElem?_eq_some_iff.mp h).1
  unfold L2.atI L2.ixN
  rw [if_pos (by omega), if_pos (by omega)]
  simpa using h
theorem ix_tup {xs : List D} {i : Nat} {d : D} (h : xs[i]? = some d) : idxD (.tuple xs) (.int (i : Int)) = some (.im, d) := by
  simp only [idxD, atI_nat h, Option.map_some]
theorem ix_lst {xs : List D} {i : Nat} {d : D} (h : xs[i]? = some d) : idxD (.list xs) (.int (i : Int)) = some (.im, d) := by
  simp only [idxD, atI_nat h, Option.map_some]
theorem ix0 (a : D) (r : List D) : idxD (.tuple (a :: r)) (.int 0) = some (.im, a) := ix_tup (i := 0) rfl
theorem ix1 (a b : D) (r : List D) : idxD (.tuple (a :: b :: r)) (.int 1) = some (.im, b) := ix_tup (i := 1) rfl
theorem ix2 (a b c : D) (r : List D) : idxD (.tuple (a :: b :: c :: r)) (.int 2) = some (.im, c) := ix_tup (i := 2) rfl
theorem ix3 (a b c d : D) (r : List D) : idxD (.tuple (a :: b :: c :: d :: r)) (.int 3) = some (.im, d) := ix_tup (i := 3) rfl
theorem cut1 {α : Type} (xs : List α) : cut xs (some 1) none = xs.drop 1 := by
  unfold cut
  have e : HT.sIx xs.length 0 (some 1) = min 1 xs.length := HT.sIx_nat xs.length 0 1
  rw [e, HT.sIx_none]
  cases xs with
  | nil => rfl
  | cons x r =>
    have : min 1 (x :: r).length = 1 := by simp only [List.length_cons]; omega
    rw [this]
    simp

/-! ### marks -/
structure Mk where
  a : Bool
  b : Bool
  c : Bool
  d : Bool
  deriving DecidableEq
def Mk.l (m : Mk) : List Nat := (if m.a then [97] else []) ++ (if m.b then [98] else []) ++ (if m.c then [99] else []) ++ (if m.d then [100] else [])
def Mk.s (m : Mk) : Str := ⟨m.l.toArray⟩
theorem Mk.cps (m : Mk) : m.s.cps.toList = m.l := rfl
theorem Mk.len (m : Mk) : m.s.length ≤ 1000 := by
  obtain ⟨a, b, c, d⟩ := m
  cases a <;> cases b <;> cases c <;> cases d <;> decide
theorem Mk.items (m : Mk) : itemsOf (.str m.s) = some (m.l.map sg) := items_str m.len
theorem Mk.inj {m m' : Mk} (h : m.s = m'.s) : m = m' := by
  have e : m.l = m'.l := by rw [← Mk.cps, ← Mk.cps, h]
  obtain ⟨a, b, c, d⟩ := m
  obtain ⟨a', b', c', d'⟩ := m'
  revert e
  cases a <;> cases b <;> cases c <;> cases d <;> cases a' <;> cases b' <;> cases c' <;> cases d' <;> decide
def Mk.apart (m m' : Mk) : Bool := !(m.l.any fun c => decide (c ∈ m'.l))

section
variable {P : Tb}
/-- rising, place by place -/
def Rising (ds : List D) : Prop := ∀ p ∈ ds.zip (ds.drop 1), cmpD .lt p.1 p.2 = some true
theorem r_rising (h : P 1 = some f_is_rising) (n : Nat) {src src' : D} {t : Tag} {ds : List D} (h1 : seqOf src = some ds) (h2 : cutD src (some 1) none = some (t, src')) (h3 : seqOf src' = some (ds.drop 1)) (hr : Rising ds) : run P (n + 1) 1 [src] = some (false, .bool true) := by
  rw [run_go h n _ rfl]
  show callE (exs _ f_is_rising.body [some (false, src), none, none]) = _
  unfold f_is_rising
  have ht : turns (run P n) (.tp [1, 2]) none (.cmp .lt (.v 1) (.v 2)) [some (false, src), none, none] ((ds.zip (ds.drop 1)).map fun p => .tuple [p.1, p.2]) = _ := turns_all (fun p => .bool ((fun _ => true) p)) (fun p => [some (false, src), some (false, p.1), some (false, p.2)]) fun p hp => ⟨rfl, by simp_arith [hr p hp]⟩
  have hw : walkD .zip [src, src'] = some ((ds.zip (ds.drop 1)).map fun p => .tuple [p.1, p.2]) := by simp only [walkD, h1, h3, Option.bind_some, Option.map_some]
  have hall : (ds.zip (ds.drop 1)).all (fun _ => true) = true := by simp
  simp_arith [h2, hw, ht, hall]
theorem rising_tup (h : P 1 = some f_is_rising) (n : Nat) {ds : List D} (hr : Rising ds) : run P (n + 1) 1 [.tuple ds] = some (false, .bool true) :=
  r_rising h n (src' := .tuple (ds.drop 1)) (t := .im) rfl (by simp only [cutD, cut1]) rfl hr
theorem rising_lst (h : P 1 = some f_is_rising) (n : Nat) {ds : List D} (hr : Rising ds) : run P (n + 1) 1 [.list ds] = some (false, .bool true) :=
  r_rising h n (src' := .list (ds.drop 1)) (t := .fr) rfl (by simp only [cutD, cut1]) rfl hr
theorem rising_mk (h : P 1 = some f_is_rising) (n : Nat) (m : Mk) : run P (n + 1) 1 [.str m.s] = some (false, .bool true) := by
  have hf : fitsN m.s.length = true := by have := m.len; unfold fitsN; simp; omega
  have hf2 : fitsN (⟨(m.l.drop 1).toArray⟩ : Str).length = true := by
    obtain ⟨a, b, c, d⟩ := m
    cases a <;> cases b <;> cases c <;> cases d <;> decide
  refine r_rising h n (ds := m.l.map sg) (src' := .str ⟨(m.l.drop 1).toArray⟩) (t := .im) ?_ ?_ ?_ ?_
  · simp only [seqOf, hf, if_true]; rfl
  · simp only [cutD, hf, if_true, cut1]; rfl
  · simp only [seqOf, hf2, if_true]
    rw [List.map_drop]
  · obtain ⟨a, b, c, d⟩ := m
    intro p hp
    cases a <;> cases b <;> cases c <;> cases d <;> simp [Mk.l] at hp <;> (first | (rcases hp with h | h | h <;> subst h <;> simp only [lt_str] <;> decide) | (rcases hp with h | h <;> subst h <;> simp only [lt_str] <;> decide) | (subst hp; simp only [lt_str]; decide))
theorem r_are_marks (h3 : P 3 = some f_are_marks) (h1 : P 1 = some f_is_rising) (n : Nat) (m : Mk) : run P (n + 2) 3 [.str m.s] = some (false, .bool true) := by
  rw [run_go h3 _ _ rfl]
  show callE (exs _ f_are_marks.body [some (false, .str m.s), none]) = _
  unfold f_are_marks
  have ht : turns (run P (n + 1)) (.nm 1) none (.cmp .isin (.v 1) (.c (.str "abcd"))) [some (false, .str m.s), none] (m.l.map sg) = _ := turns_all (fun c => .bool (decide (c ∈ (("abcd" : Str)).cps.toList))) (fun c => [some (false, .str m.s), some (false, sg c)]) fun c hc => ⟨rfl, by simp_arith []⟩
  have ha : m.l.all (fun c => decide (c ∈ (("abcd" : Str)).cps.toList)) = true := by
    rw [abcd_l]
    obtain ⟨a, b, c, d⟩ := m
    cases a <;> cases b <;> cases c <;> cases d <;> decide
  simp_arith [m.items, ht, ha, rising_mk h1]
theorem r_are_apart (h4 : P 4 = some f_are_apart) (h3 : P 3 = some f_are_marks) (h1 : P 1 = some f_is_rising) (n : Nat) (m m' : Mk) : run P (n + 3) 4 [.str m.s, .str m'.s] = some (false, .bool (m.apart m')) := by
  rw [run_go h4 _ _ rfl]
  show callE (exs _ f_are_apart.body [some (false, .str m.s), some (false, .str m'.s), none]) = _
  unfold f_are_apart
  have ht : turns (run P (n + 2)) (.nm 2) none (.cmp .isin (.v 2) (.v 1)) [some (false, .str m.s), some (false, .str m'.s), none] (m.l.map sg) = _ := turns_all (fun c => .bool (decide (c ∈ m'.s.cps.toList))) (fun c => [some (false, .str m.s), some (false, .str m'.s), some (false, sg c)]) fun c hc => ⟨rfl, by simp_arith []⟩
  simp_arith [m.items, ht, r_are_marks h3 h1]
  rfl
end
end Rk

/-! Stories: what is_story says of them. -/
set_option autoImplicit false
set_option linter.all false
set_option maxRecDepth 100000
namespace Rk
open PySem PySem.W K60
local macro_rules
  | `(tactic| simp_arith [$hs,*]) => `(tactic| simp only [b_cons, b_nil, seqE_nx, seqE_rt, s_set, s_setT, s_par, s_exp, s_for, s_whl, s_ite, s_ret, s_retN, s_pass, s_cont, s_app, s_ext, s_pop, s_put, retE_im, retE_fr, expE_s, callE_rt, callE_nx,
  v_v, v_c, v_tup, v_lst, v_emp, v_bin, v_cmp, v_le2, v_and, v_or, v_not, v_ite, v_idx, v_from, v_upto, v_comp, v_compIf, v_call, v_blt, k_nil, k_cons, l_nil, l_cons, vE_im, vE_ow, op2_s, cm2_s, andE_t, andE_f, orE_t, orE_f, notE_s, iteE_t, iteE_f, consE_s, boolOf_s, keepOf_im, keepOf_fr, blE_s, cutE_t, cutE_f,
  caE_d, backOf_d, cpE_d, free_nm, free_tp, notOwn_n, notOwn_f, List.all_cons, List.all_nil, walk_seq, lent, List.any_cons, List.any_nil, reduceCtorEq, decide_false, decide_true, Bool.or_self, Bool.or_false, Bool.false_or, Bool.false_and, Bool.and_false, Bool.true_and, Bool.and_true, Bool.not_true, Bool.not_false, Bool.false_eq_true, if_false, if_true, ite_true, ite_false,
  List.getElem?_cons_zero, List.getElem?_cons_succ, List.set_cons_zero, List.set_cons_succ, Option.map_some, List.map_cons, List.map_nil, lt_int, gt_int, le_int, eq_int, ne_int, eq_str, ne_str, in_sg, notin_sg, len_tup, len_lst, isInt_int, isBool_int, isStr_str, sub_int, add_int, all_map, any_map, $hs,*])
structure Ou where
  to : Nat
  se : Mk
  cl : Mk
structure Op where
  lb : Str
  mu : Mk
  mn : Mk
  os : List Ou
structure Pa where
  tx : Str
  sh : Mk
  ops : List Op
structure So where
  ss : List Mk
  ps : List Pa
def eOu (o : Ou) : D := .tuple [.int (o.to : Int), .str o.se.s, .str o.cl.s]
def eOp (o : Op) : D := .tuple [.str o.lb, .str o.mu.s, .str o.mn.s, .tuple (o.os.map eOu)]
def ePa (p : Pa) : D := .tuple [.str p.tx, .str p.sh.s, .tuple (p.ops.map eOp)]
def eM (m : Mk) : D := .str m.s
def eSo (s : So) : D := .tuple [.tuple (s.ss.map eM), .tuple (s.ps.map ePa)]
structure Word (w : Str) : Prop where
  one : 1 ≤ w.length
  six : w.length ≤ 6
  let_ : ∀ c ∈ w.cps.toList, c ∈ (("abcdefghijklmnopqrstuvwxyz" : Str)).cps.toList
structure OuOk (many : Nat) (o : Ou) : Prop where
  to : o.to < many
  ap : o.se.apart o.cl = true
structure OpOk (many : Nat) (o : Op) : Prop where
  lb : Word o.lb
  ap : o.mu.apart o.mn = true
  one : 1 ≤ o.os.length
  two : o.os.length ≤ 2
  ok : ∀ x ∈ o.os, OuOk many x
  ris : Rising (o.os.map eOu)
structure PaOk (many : Nat) (p : Pa) : Prop where
  tx : Word p.tx
  four : p.ops.length ≤ 4
  ok : ∀ x ∈ p.ops, OpOk many x
  ris : Rising (p.ops.map fun o => .str o.lb)
structure SoOk (s : So) : Prop where
  s1 : 1 ≤ s.ss.length
  s4 : s.ss.length ≤ 4
  sr : Rising (s.ss.map eM)
  p1 : 1 ≤ s.ps.length
  p6 : s.ps.length ≤ 6
  ok : ∀ p ∈ s.ps, PaOk s.ps.length p
/-- the defs of stories.py -/
structure Stories (P : Tb) : Prop where
  p0 : P 0 = some f_is_int
  p1 : P 1 = some f_is_rising
  p2 : P 2 = some f_is_word
  p3 : P 3 = some f_are_marks
  p4 : P 4 = some f_are_apart
  p5 : P 5 = some f_is_outcome
  p6 : P 6 = some f_is_option
  p7 : P 7 = some f_is_passage
  p8 : P 8 = some f_is_story
  p9 : P 9 = some f_check_story
theorem isTup_tup {xs : List D} (h : (PyData.tuple xs).plain = true) : bltD .isTuple [.tuple xs] = some (.im, .bool true) := by simp [bltD, h, PyData.isTuple]
theorem plainAll_map {α : Type} {f : α → D} : ∀ {xs : List α}, (∀ x ∈ xs, (f x).plain = true) → PyData.plainAll (xs.map f) = true
  | [], _ => rfl
  | x :: xs, h => by simp only [List.map_cons, PyData.plainAll, Bool.and_eq_true]; exact ⟨h x List.mem_cons_self, plainAll_map fun y hy => h y (List.mem_cons_of_mem _ hy)⟩
theorem pl_eOu (o : Ou) : (eOu o).plain = true := rfl
theorem pl_eOp (o : Op) : (eOp o).plain = true := by simp [eOp, PyData.plain, PyData.plainAll, plainAll_map fun x _ => pl_eOu x]
theorem pl_ePa (o : Pa) : (ePa o).plain = true := by simp [ePa, PyData.plain, PyData.plainAll, plainAll_map fun x _ => pl_eOp x]
theorem pl_eM (o : Mk) : (eM o).plain = true := rfl
theorem pl_eSo (o : So) : (eSo o).plain = true := by simp [eSo, PyData.plain, PyData.plainAll, plainAll_map fun x _ => pl_ePa x, plainAll_map fun x _ => pl_eM x]
theorem bind_tp (is : List Nat) (ds : List D) (ρ : Env) : bindT (.tp is) (.tuple ds) ρ = bindN is ds ρ := rfl
theorem setTE_s (is : List Nat) (ρ : Env) (t : Tag) (d : D) : setTE is ρ (some (t, d)) = (bindT (.tp is) d ρ).map .nx := rfl
theorem items_tup (ds : List D) : itemsOf (.tuple ds) = some ds := rfl
theorem items_lst (ds : List D) : itemsOf (.list ds) = some ds := rfl
theorem dec_ge {n : Nat} (h : 1 ≤ n) : decide ((1 : Int) ≤ (n : Int)) = true := by simp; omega
theorem dec_le {n k : Nat} (h : n ≤ k) : decide ((n : Int) ≤ (k : Int)) = true := by simp; omega
section
variable {P : Tb} (S : Stories P) (n : Nat)
include S
theorem r_is_outcome {many : Nat} {o : Ou} (h : OuOk many o) : run P (n + 4) 5 [.int many, eOu o] = some (false, .bool true) := by
  rw [run_go S.p5 _ _ rfl]
  show callE (exs _ f_is_outcome.body [some (false, .int many), some (false, eOu o)]) = _
  unfold f_is_outcome
  have hl : bltD .len [eOu o] = some (.im, .int 3) := rfl
  have ht : bltD .isTuple [eOu o] = some (.im, .bool true) := isTup_tup (pl_eOu o)
  have e0 : idxD (eOu o) (.int 0) = some (.im, .int o.to) := ix0 ..
  have e1 : idxD (eOu o) (.int 1) = some (.im, .str o.se.s) := ix1 ..
  have e2 : idxD (eOu o) (.int 2) = some (.im, .str o.cl.s) := ix2 ..
  have d1 : decide ((0 : Int) ≤ (o.to : Int)) = true := by simp
  have d2 : decide ((o.to : Int) ≤ (many : Int) - 1) = true := by have := h.to; simp; omega
  simp_arith [hl, ht, e0, e1, e2, r_is_int S.p0, r_are_apart S.p4 S.p3 S.p1, d1, d2, h.ap]
theorem r_is_option {many : Nat} {o : Op} (h : OpOk many o) : run P (n + 5) 6 [.int many, eOp o] = some (false, .bool true) := by
  rw [run_go S.p6 _ _ rfl]
  show callE (exs _ f_is_option.body [some (false, .int many), some (false, eOp o), none, none, none, none, none]) = _
  unfold f_is_option
  have hl : bltD .len [eOp o] = some (.im, .int 4) := rfl
  have ht : bltD .isTuple [eOp o] = some (.im, .bool true) := isTup_tup (pl_eOp o)
  have hb : bindT (.tp [2, 3, 4, 5]) (eOp o) [some (false, .int many), some (false, eOp o), none, none, none, none, none] = some [some (false, .int many), some (false, eOp o), some (false, .str o.lb), some (false, .str o.mu.s), some (false, .str o.mn.s), some (false, .tuple (o.os.map eOu)), none] := rfl
  have ht2 : bltD .isTuple [.tuple (o.os.map eOu)] = some (.im, .bool true) := isTup_tup (by simp [PyData.plain, plainAll_map fun x _ => pl_eOu x])
  have tr : turns (run P (n + 4)) (.nm 6) none (.call 5 [.v 0, .v 6]) [some (false, .int many), some (false, eOp o), some (false, .str o.lb), some (false, .str o.mu.s), some (false, .str o.mn.s), some (false, .tuple (o.os.map eOu)), none] (o.os.map eOu) = _ := turns_all (fun p => .bool ((fun _ => true) p)) (fun p => [some (false, .int many), some (false, eOp o), some (false, .str o.lb), some (false, .str o.mu.s), some (false, .str o.mn.s), some (false, .tuple (o.os.map eOu)), some (false, eOu p)]) fun p hp => ⟨rfl, by simp_arith [r_is_outcome S n (h.ok p hp)]⟩
  have hall : o.os.all (fun _ => true) = true := by simp
  have d1 := dec_ge h.one
  have d2 : decide ((o.os.length : Int) ≤ 2) = true := dec_le (k := 2) h.two
  simp_arith [hl, ht, setTE_s, hb, r_is_word S.p2 _ h.lb.one h.lb.six h.lb.let_, r_are_apart S.p4 S.p3 S.p1, h.ap, ht2, le3_int, List.length_map, d1, d2, items_tup, tr, hall, rising_tup S.p1 _ h.ris]
theorem r_is_passage {many : Nat} {o : Pa} (h : PaOk many o) : run P (n + 6) 7 [.int many, ePa o] = some (false, .bool true) := by
  rw [run_go S.p7 _ _ rfl]
  show callE (exs _ f_is_passage.body [some (false, .int many), some (false, ePa o), none, none, none, none]) = _
  unfold f_is_passage
  have hl : bltD .len [ePa o] = some (.im, .int 3) := rfl
  have ht : bltD .isTuple [ePa o] = some (.im, .bool true) := isTup_tup (pl_ePa o)
  have hb : bindT (.tp [2, 3, 4]) (ePa o) [some (false, .int many), some (false, ePa o), none, none, none, none] = some [some (false, .int many), some (false, ePa o), some (false, .str o.tx), some (false, .str o.sh.s), some (false, .tuple (o.ops.map eOp)), none] := rfl
  have ht2 : bltD .isTuple [.tuple (o.ops.map eOp)] = some (.im, .bool true) := isTup_tup (by simp [PyData.plain, plainAll_map fun x _ => pl_eOp x])
  have tr : turns (run P (n + 5)) (.nm 5) none (.call 6 [.v 0, .v 5]) [some (false, .int many), some (false, ePa o), some (false, .str o.tx), some (false, .str o.sh.s), some (false, .tuple (o.ops.map eOp)), none] (o.ops.map eOp) = _ := turns_all (fun p => .bool ((fun _ => true) p)) (fun p => [some (false, .int many), some (false, ePa o), some (false, .str o.tx), some (false, .str o.sh.s), some (false, .tuple (o.ops.map eOp)), some (false, eOp p)]) fun p hp => ⟨rfl, by simp_arith [r_is_option S n (h.ok p hp)]⟩
  have e0 : ∀ p : Op, idxD (eOp p) (.int 0) = some (.im, .str p.lb) := fun p => ix0 ..
  have tr2 : turns (run P (n + 5)) (.nm 5) none (.idx (.v 5) (.c (.int 0))) [some (false, .int many), some (false, ePa o), some (false, .str o.tx), some (false, .str o.sh.s), some (false, .tuple (o.ops.map eOp)), none] (o.ops.map eOp) = _ := turns_all (fun p => .str p.lb) (fun p => [some (false, .int many), some (false, ePa o), some (false, .str o.tx), some (false, .str o.sh.s), some (false, .tuple (o.ops.map eOp)), some (false, eOp p)]) fun p hp => ⟨rfl, by simp_arith [e0]⟩
  have hall : o.ops.all (fun _ => true) = true := by simp
  have d2 : decide ((4 : Int) < (o.ops.length : Int)) = false := by have := h.four; simp; omega
  simp_arith [hl, ht, setTE_s, hb, r_is_word S.p2 _ h.tx.one h.tx.six h.tx.let_, r_are_marks S.p3 S.p1, ht2, List.length_map, d2, items_tup, tr, tr2, hall, rising_lst S.p1 _ h.ris]
theorem r_is_story {o : So} (h : SoOk o) : run P (n + 7) 8 [eSo o] = some (false, .bool true) := by
  rw [run_go S.p8 _ _ rfl]
  show callE (exs _ f_is_story.body [some (false, eSo o), none, none, none, none]) = _
  unfold f_is_story
  have hl : bltD .len [eSo o] = some (.im, .int 2) := rfl
  have ht : bltD .isTuple [eSo o] = some (.im, .bool true) := isTup_tup (pl_eSo o)
  have hb : bindT (.tp [1, 2]) (eSo o) [some (false, eSo o), none, none, none, none] = some [some (false, eSo o), some (false, .tuple (o.ss.map eM)), some (false, .tuple (o.ps.map ePa)), none, none] := rfl
  have ht1 : bltD .isTuple [.tuple (o.ss.map eM)] = some (.im, .bool true) := isTup_tup (by simp [PyData.plain, plainAll_map fun x _ => pl_eM x])
  have ht2 : bltD .isTuple [.tuple (o.ps.map ePa)] = some (.im, .bool true) := isTup_tup (by simp [PyData.plain, plainAll_map fun x _ => pl_ePa x])
  have tr : turns (run P (n + 6)) (.nm 4) none (.call 3 [.v 4]) [some (false, eSo o), some (false, .tuple (o.ss.map eM)), some (false, .tuple (o.ps.map ePa)), none, none] (o.ss.map eM) = _ := turns_all (fun p => .bool ((fun _ => true) p)) (fun p => [some (false, eSo o), some (false, .tuple (o.ss.map eM)), some (false, .tuple (o.ps.map ePa)), none, some (false, eM p)]) fun p hp => ⟨rfl, by simp_arith [eM, r_are_marks S.p3 S.p1 (n + 4) p]⟩
  have tr2 : turns (run P (n + 6)) (.nm 3) none (.call 7 [.blt .len [.v 2], .v 3]) [some (false, eSo o), some (false, .tuple (o.ss.map eM)), some (false, .tuple (o.ps.map ePa)), none, none] (o.ps.map ePa) = _ := turns_all (fun p => .bool ((fun _ => true) p)) (fun p => [some (false, eSo o), some (false, .tuple (o.ss.map eM)), some (false, .tuple (o.ps.map ePa)), some (false, ePa p), none]) fun p hp => ⟨rfl, by simp_arith [List.length_map, r_is_passage S n (h.ok p hp)]⟩
  have hall : o.ss.all (fun _ => true) = true := by simp
  have hall2 : o.ps.all (fun _ => true) = true := by simp
  have d1 := dec_ge h.s1
  have d2 : decide ((o.ss.length : Int) ≤ 4) = true := dec_le (k := 4) h.s4
  have d3 := dec_ge h.p1
  have d4 : decide ((o.ps.length : Int) ≤ 6) = true := dec_le (k := 6) h.p6
  simp_arith [hl, ht, setTE_s, hb, ht1, ht2, le3_int, List.length_map, d1, d2, d3, d4, items_tup, tr, tr2, hall, hall2, rising_tup S.p1 _ h.sr]
theorem r_check_story {o : So} (h : SoOk o) : run P (n + 8) 9 [eSo o] = some (false, .none) := by
  rw [run_go S.p9 _ _ rfl]
  show callE (exs _ f_check_story.body [some (false, eSo o)]) = _
  unfold f_check_story
  simp_arith [r_is_story S n h]
end
end Rk

/-! States, and the functions of states.py. -/
set_option autoImplicit false
set_option linter.all false
set_option maxRecDepth 100000
namespace Rk
open PySem PySem.W K60
local macro_rules
  | `(tactic| simp_arith [$hs,*]) => `(tactic| simp only [b_cons, b_nil, seqE_nx, seqE_rt, s_set, s_setT, s_par, s_exp, s_for, s_whl, s_ite, s_ret, s_retN, s_pass, s_cont, s_app, s_ext, s_pop, s_put, retE_im, retE_fr, expE_s, callE_rt, callE_nx,
  v_v, v_c, v_tup, v_lst, v_emp, v_bin, v_cmp, v_le2, v_and, v_or, v_not, v_ite, v_idx, v_from, v_upto, v_comp, v_compIf, v_call, v_blt, k_nil, k_cons, l_nil, l_cons, vE_im, vE_ow, op2_s, cm2_s, andE_t, andE_f, orE_t, orE_f, notE_s, iteE_t, iteE_f, consE_s, boolOf_s, keepOf_im, keepOf_fr, blE_s, cutE_t, cutE_f,
  caE_d, backOf_d, cpE_d, free_nm, free_tp, notOwn_n, notOwn_f, List.all_cons, List.all_nil, walk_seq, lent, List.any_cons, List.any_nil, reduceCtorEq, decide_false, decide_true, Bool.or_self, Bool.or_false, Bool.false_or, Bool.false_and, Bool.and_false, Bool.true_and, Bool.and_true, Bool.not_true, Bool.not_false, Bool.false_eq_true, if_false, if_true, ite_true, ite_false,
  List.getElem?_cons_zero, List.getElem?_cons_succ, List.set_cons_zero, List.set_cons_succ, Option.map_some, List.map_cons, List.map_nil, lt_int, gt_int, le_int, eq_int, ne_int, eq_str, ne_str, in_sg, notin_sg, len_tup, len_lst, isInt_int, isBool_int, isStr_str, sub_int, add_int, all_map, any_map, $hs,*])

/-! ### sets, sorted, of typed things -/
section
variable {α : Type} (enc : α → D)
def insT (x : α) : List α → List α
  | [] => [x]
  | y :: r => if dataLt (enc y) (enc x) then y :: insT x r else x :: y :: r
def isortT : List α → List α
  | [] => []
  | x :: r => insT enc x (isortT r)
def dedupT : List α → List α
  | [] => []
  | x :: r => if r.any (fun y => PyData.eqv (enc x) (enc y)) then dedupT r else x :: dedupT r
def sset (xs : List α) : List α := isortT enc (dedupT enc xs)
theorem ins_map (x : α) : ∀ l : List α, insD (enc x) (l.map enc) = (insT enc x l).map enc
  | [] => rfl
  | y :: r => by
    simp only [List.map_cons, insD, insT]
    split
    · rw [ins_map x r]; rfl
    · rfl
theorem isort_map : ∀ l : List α, isort (l.map enc) = (isortT enc l).map enc
  | [] => rfl
  | x :: r => by simp only [List.map_cons, isort, isortT, isort_map r, ins_map]
theorem dedup_map : ∀ l : List α, dedup (l.map enc) = (dedupT enc l).map enc
  | [] => rfl
  | x :: r => by
    simp only [List.map_cons, dedup, dedupT, dedup_map r, List.any_map]
    have : (PyData.eqv (enc x) ∘ enc) = fun y => PyData.eqv (enc x) (enc y) := rfl
    rw [this]
    split <;> rfl
theorem insT_mem {x y : α} : ∀ {l : List α}, y ∈ insT enc x l ↔ y = x ∨ y ∈ l
  | [] => by simp [insT]
  | z :: r => by
    simp only [insT]
    split
    · rw [List.mem_cons, insT_mem (l := r), List.mem_cons]
      constructor
      · rintro (h | h | h)
        · exact .inr (.inl h)
        · exact .inl h
        · exact .inr (.inr h)
      · rintro (h | h | h)
        · exact .inr (.inl h)
        · exact .inl h
        · exact .inr (.inr h)
    · simp
theorem isortT_mem {y : α} : ∀ {l : List α}, y ∈ isortT enc l ↔ y ∈ l
  | [] => by simp [isortT]
  | x :: r => by simp only [isortT, insT_mem, isortT_mem (l := r), List.mem_cons]
theorem dedupT_len : ∀ l : List α, (dedupT enc l).length ≤ l.length
  | [] => Nat.le_refl _
  | x :: r => by
    have := dedupT_len r
    simp only [dedupT]
    split <;> simp only [List.length_cons] <;> omega
theorem insT_len (x : α) : ∀ l : List α, (insT enc x l).length = l.length + 1
  | [] => rfl
  | y :: r => by
    simp only [insT]
    split
    · simp [insT_len x r]
    · simp
theorem isortT_len : ∀ l : List α, (isortT enc l).length = l.length
  | [] => rfl
  | x :: r => by simp [isortT, insT_len, isortT_len r]
theorem sset_len (l : List α) : (sset enc l).length ≤ l.length := by unfold sset; rw [isortT_len]; exact dedupT_len enc l
/-- one datum, one thing -/
def Inj (enc : α → D) : Prop := ∀ a b, PyData.eqv (enc a) (enc b) = true ↔ a = b
theorem dedupT_mem (hi : Inj enc) {y : α} : ∀ {l : List α}, y ∈ dedupT enc l ↔ y ∈ l
  | [] => by simp [dedupT]
  | x :: r => by
    have ih := dedupT_mem hi (y := y) (l := r)
    simp only [dedupT]
    split
    · rename_i h
      rw [ih, List.mem_cons]
      refine ⟨.inr, fun z => z.elim (fun z => ?_) id⟩
      obtain ⟨w, hw, e⟩ := List.any_eq_true.mp h
      rw [z, (hi x w).mp e]; exact hw
    · rw [List.mem_cons, List.mem_cons, ih]
theorem sset_mem (hi : Inj enc) {y : α} {l : List α} : y ∈ sset enc l ↔ y ∈ l := by unfold sset; rw [isortT_mem, dedupT_mem enc hi]
theorem dedupT_nodup (hi : Inj enc) : ∀ l : List α, (dedupT enc l).Nodup
  | [] => by simp [dedupT]
  | x :: r => by
    simp only [dedupT]
    split
    · exact dedupT_nodup hi r
    · rename_i h
      refine List.nodup_cons.mpr ⟨fun z => h ?_, dedupT_nodup hi r⟩
      exact List.any_eq_true.mpr ⟨x, (dedupT_mem enc hi).mp z, (hi x x).mpr rfl⟩
theorem sortedSet_ev {xs : List α} (hs : sortable (xs.map enc) = true) (hk : setOk (xs.map enc) = true) (hl : (dedupT enc xs).length < 63) : bltD .sortedSet [.list (xs.map enc)] = some (.fr, .list ((sset enc xs).map enc)) := by
  simp only [bltD, hs, hk, dedup_map, isort_map, List.length_map, hl, Bool.and_self, decide_true, if_true]
  rfl
theorem sortedSet_evT {xs : List α} (hs : sortable (xs.map enc) = true) (hk : setOk (xs.map enc) = true) (hl : (dedupT enc xs).length < 63) : bltD .sortedSet [.tuple (xs.map enc)] = some (.fr, .list ((sset enc xs).map enc)) := by
  simp only [bltD, hs, hk, dedup_map, isort_map, List.length_map, hl, Bool.and_self, decide_true, if_true]
  rfl
theorem few_of {xs : List α} (h : xs.length < 63) : (dedupT enc xs).length < 63 := Nat.lt_of_le_of_lt (dedupT_len enc xs) h
theorem few_in (hi : Inj enc) {xs U : List α} (h : ∀ x ∈ xs, x ∈ U) (hU : U.length < 63) : (dedupT enc xs).length < 63 :=
  Nat.lt_of_le_of_lt (nodup_le (dedupT_nodup enc hi xs) fun x hx => h x ((dedupT_mem enc hi).mp hx)) hU
end

/-! ### states -/
structure Sta where
  s : Nat
  p : Nat
  m : Mk
  deriving DecidableEq
def eSta (t : Sta) : D := .tuple [.int (t.s : Int), .int (t.p : Int), .str t.m.s]
theorem inj_Sta : Inj eSta := fun a b => by
  obtain ⟨a1, a2, a3⟩ := a
  obtain ⟨b1, b2, b3⟩ := b
  simp only [eSta, PyData.eqv, PyData.eqvAll, Bool.and_true, Bool.and_eq_true, beq_iff_eq, Sta.mk.injEq]
  constructor
  · rintro ⟨h1, h2, h3⟩
    exact ⟨by omega, by omega, Mk.inj h3⟩
  · rintro ⟨h1, h2, h3⟩
    exact ⟨by omega, by omega, by rw [h3]⟩
theorem all_map' {α : Type} {f : α → D} {p : D → Bool} {xs : List α} (h : ∀ x, p (f x) = true) : (xs.map f).all p = true := by
  rw [List.all_map]; exact List.all_eq_true.mpr fun x _ => h x
theorem sortable_Sta {xs : List Sta} (hl : xs.length ≤ 1000) : sortable (xs.map eSta) = true := by
  simp only [sortable, Bool.and_eq_true]
  refine ⟨⟨⟨⟨all_map' fun x => all_map' fun y => rfl, by rw [all_map' (p := hdOk) fun x => rfl]; rfl⟩, all_map' fun x => rfl⟩, by simp [fitsN]; omega⟩, plainAll_map fun x _ => rfl⟩
theorem setOk_Sta {xs : List Sta} : setOk (xs.map eSta) = true := by
  simp only [setOk, Bool.or_eq_true]
  exact .inl (.inl (all_map' fun x => rfl))
theorem sset_Sta {xs : List Sta} (hl : xs.length < 63) : bltD .sortedSet [.list (xs.map eSta)] = some (.fr, .list ((sset eSta xs).map eSta)) := sortedSet_ev eSta (sortable_Sta (by omega)) setOk_Sta (few_of _ hl)
def eS (x : Str) : D := .str x
theorem inj_S : Inj eS := fun a b => by simp [eS, PyData.eqv]
theorem sortable_S {xs : List Str} (hl : xs.length ≤ 1000) : sortable (xs.map eS) = true := by
  simp only [sortable, Bool.and_eq_true]
  refine ⟨⟨⟨⟨all_map' fun x => all_map' fun y => rfl, by rw [all_map' (p := notNT) fun x => rfl]; simp⟩, all_map' fun x => rfl⟩, by simp [fitsN]; omega⟩, plainAll_map fun x _ => rfl⟩
theorem setOk_S {xs : List Str} : setOk (xs.map eS) = true := by
  simp only [setOk, Bool.or_eq_true]
  exact .inl (.inr (all_map' fun x => rfl))
theorem sset_S {xs : List Str} (hl : xs.length < 63) : bltD .sortedSet [.list (xs.map eS)] = some (.fr, .list ((sset eS xs).map eS)) := sortedSet_ev eS (sortable_S (by omega)) setOk_S (few_of _ hl)

/-! ### what can be done in a state -/
def off (o : Op) (m : Mk) : Bool := (o.mu.l.all fun c => decide (c ∈ m.l)) && !(o.mn.l.any fun c => decide (c ∈ m.l))
def chg (m se cl : Mk) : Mk := ⟨(m.a || se.a) && !cl.a, (m.b || se.b) && !cl.b, (m.c || se.c) && !cl.c, (m.d || se.d) && !cl.d⟩
theorem join_mk (m : Mk) : bltD .join [.str "", .list (m.l.map sg)] = some (.im, .str m.s) := by
  obtain ⟨a, b, c, d⟩ := m
  cases a <;> cases b <;> cases c <;> cases d <;> rfl
theorem chg_l (m se cl : Mk) : ([97, 98, 99, 100].filter fun c => (decide (c ∈ m.l) || decide (c ∈ se.l)) && !decide (c ∈ cl.l)) = (chg m se cl).l := by
  obtain ⟨a, b, c, d⟩ := m
  obtain ⟨a1, b1, c1, d1⟩ := se
  obtain ⟨a2, b2, c2, d2⟩ := cl
  have e : ∀ (x : Mk), decide (97 ∈ x.l) = x.a ∧ decide (98 ∈ x.l) = x.b ∧ decide (99 ∈ x.l) = x.c ∧ decide (100 ∈ x.l) = x.d := fun x => by
    obtain ⟨a, b, c, d⟩ := x
    cases a <;> cases b <;> cases c <;> cases d <;> decide
  simp only [List.filter_cons, List.filter_nil, e]
  simp only [chg, Mk.l]
  by_cases hA : ((a || a1) && !a2) = true <;> by_cases hB : ((b || b1) && !b2) = true <;> by_cases hC : ((c || c1) && !c2) = true <;> by_cases hD : ((d || d1) && !d2) = true <;> simp only [hA, hB, hC, hD, if_true, if_false] <;> rfl
/-- the options of the passage -/
def opsAt (S : So) (t : Sta) : List Op := match S.ps[t.p]? with
  | some p => p.ops
  | none => []
def offered (S : So) (t : Sta) : List Op := (opsAt S t).filter fun o => off o t.m
def outs (t : Sta) (o : Op) : List Sta := o.os.map fun x => ⟨t.s, x.to, chg t.m x.se x.cl⟩
def nexts (S : So) (t : Sta) (lb : Str) : List Sta := ((offered S t).filter fun o => decide (o.lb = lb)).flatMap (outs t)
/-- a state of a story -/
structure In (S : So) (t : Sta) : Prop where
  s : t.s < S.ss.length
  p : t.p < S.ps.length
structure States (P : Tb) : Prop where
  st : Stories P
  p10 : P 10 = some f_find_firsts
  p11 : P 11 = some f_is_offered
  p12 : P 12 = some f_options_at
  p13 : P 13 = some f_find_offered
  p14 : P 14 = some f_changed
  p15 : P 15 = some f_outcomes_at
  p16 : P 16 = some f_find_next
section
variable {P : Tb} (n : Nat)
theorem r_offered (fn : Fn) (hfn : fn = f_is_offered) {f : Nat} (h : P f = some fn) (o : Op) (m : Mk) : run P (n + 1) f [eOp o, .str m.s] = some (false, .bool (off o m)) := by
  subst hfn
  rw [run_go h _ _ rfl]
  show callE (exs _ f_is_offered.body [some (false, eOp o), some (false, .str m.s), none]) = _
  unfold f_is_offered
  have e1 : idxD (eOp o) (.int 1) = some (.im, .str o.mu.s) := ix1 ..
  have e2 : idxD (eOp o) (.int 2) = some (.im, .str o.mn.s) := ix2 ..
  have tr : ∀ x : Mk, turns (run P n) (.nm 2) none (.cmp .isin (.v 2) (.v 1)) [some (false, eOp o), some (false, .str m.s), none] (x.l.map sg) = some (x.l.map fun c => .bool ((fun c => decide (c ∈ m.l)) c)) := fun x => turns_all (fun c => .bool (decide (c ∈ m.l))) (fun c => [some (false, eOp o), some (false, .str m.s), some (false, sg c)]) fun c hc => ⟨rfl, by simp_arith []; rfl⟩
  simp_arith [e1, e2, Mk.items, tr]
  unfold off
  cases o.mu.l.all fun c => decide (c ∈ m.l) <;> simp_arith []
theorem r_changed (h : P 14 = some f_changed) (m se cl : Mk) : run P (n + 1) 14 [.str m.s, .str se.s, .str cl.s] = some (false, .str (chg m se cl).s) := by
  rw [run_go h _ _ rfl]
  show callE (exs _ f_changed.body [some (false, .str m.s), some (false, .str se.s), some (false, .str cl.s), none]) = _
  unfold f_changed
  have it : itemsOf (.str "abcd") = some ([97, 98, 99, 100].map sg) := by
    have := items_str (x := "abcd") (by decide +kernel)
    rw [abcd_l] at this
    exact this
  have tr : turns (run P n) (.nm 3) (some (.and (.or (.cmp .isin (.v 3) (.v 0)) (.cmp .isin (.v 3) (.v 1))) (.cmp .notin (.v 3) (.v 2)))) (.v 3) [some (false, .str m.s), some (false, .str se.s), some (false, .str cl.s), none] ([97, 98, 99, 100].map sg) = some ((chg m se cl).l.map sg) := by
    rw [← chg_l]
    refine turns_if (fun c => (decide (c ∈ m.l) || decide (c ∈ se.l)) && !decide (c ∈ cl.l)) sg (fun c => [some (false, .str m.s), some (false, .str se.s), some (false, .str cl.s), some (false, sg c)]) fun c hc => ⟨rfl, ?_, fun _ => by simp_arith []⟩
    simp_arith []
    have f1 : decide (c ∈ m.s.cps.toList) = decide (c ∈ m.l) := rfl
    have f2 : decide (c ∈ se.s.cps.toList) = decide (c ∈ se.l) := rfl
    have f3 : decide (c ∈ cl.s.cps.toList) = decide (c ∈ cl.l) := rfl
    rw [f1, f2, f3]
    cases decide (c ∈ m.l) <;> cases decide (c ∈ se.l) <;> simp_arith []
  have tr' : turns (run P n) (.nm 3) (some (.and (.or (.cmp .isin (.v 3) (.v 0)) (.cmp .isin (.v 3) (.v 1))) (.cmp .notin (.v 3) (.v 2)))) (.v 3) [some (false, .str m.s), some (false, .str se.s), some (false, .str cl.s), none] [sg 97, sg 98, sg 99, sg 100] = some ((chg m se cl).l.map sg) := tr
  simp_arith [it, tr', join_mk]
variable (S : States P)
include S
theorem r_options_at {o : So} {t : Sta} (ht : In o t) : run P (n + 2) 12 [eSo o, eSta t] = some (true, .list ((offered o t).map eOp)) := by
  rw [run_go S.p12 _ _ rfl]
  show callE (exs _ f_options_at.body [some (false, eSo o), some (false, eSta t), none]) = _
  unfold f_options_at
  obtain ⟨p, hp⟩ : ∃ p, o.ps[t.p]? = some p := ⟨_, List.getElem?_eq_getElem ht.p⟩
  have e1 : idxD (eSo o) (.int 1) = some (.im, .tuple (o.ps.map ePa)) := ix1 ..
  have e2 : idxD (eSta t) (.int 1) = some (.im, .int (t.p : Int)) := ix1 ..
  have e3 : idxD (.tuple (o.ps.map ePa)) (.int (t.p : Int)) = some (.im, ePa p) := ix_tup (by rw [List.getElem?_map, hp]; rfl)
  have e4 : idxD (ePa p) (.int 2) = some (.im, .tuple (p.ops.map eOp)) := ix2 ..
  have e5 : idxD (eSta t) (.int 2) = some (.im, .str t.m.s) := ix2 ..
  have tr : turns (run P (n + 1)) (.nm 2) (some (.call 11 [.v 2, .idx (.v 1) (.c (.int 2))])) (.v 2) [some (false, eSo o), some (false, eSta t), none] (p.ops.map eOp) = some ((p.ops.filter fun x => off x t.m).map eOp) :=
    turns_if (fun x => off x t.m) eOp (fun x => [some (false, eSo o), some (false, eSta t), some (false, eOp x)]) fun x hx => ⟨rfl, by simp_arith [e5, r_offered n f_is_offered rfl S.p11], fun _ => by simp_arith []⟩
  simp_arith [e1, e2, e3, e4, items_tup, tr]
  simp only [offered, opsAt, hp]
theorem r_find_offered {o : So} {t : Sta} (ht : In o t) : run P (n + 3) 13 [eSo o, eSta t] = some (true, .list ((offered o t).map fun x => .str x.lb)) := by
  rw [run_go S.p13 _ _ rfl]
  show callE (exs _ f_find_offered.body [some (false, eSo o), some (false, eSta t), none]) = _
  unfold f_find_offered
  have e0 : ∀ p : Op, idxD (eOp p) (.int 0) = some (.im, .str p.lb) := fun p => ix0 ..
  have tr : turns (run P (n + 2)) (.nm 2) none (.idx (.v 2) (.c (.int 0))) [some (false, eSo o), some (false, eSta t), none] ((offered o t).map eOp) = _ := turns_all (fun x => .str x.lb) (fun x => [some (false, eSo o), some (false, eSta t), some (false, eOp x)]) fun x hx => ⟨rfl, by simp_arith [e0]⟩
  simp_arith [r_options_at n S ht, items_lst, tr]
end
end Rk

/-! Steps. -/
set_option autoImplicit false
set_option linter.all false
set_option maxRecDepth 100000
namespace Rk
open PySem PySem.W K60
local macro_rules
  | `(tactic| simp_arith [$hs,*]) => `(tactic| simp only [b_cons, b_nil, seqE_nx, seqE_rt, s_set, s_setT, s_par, s_exp, s_for, s_whl, s_ite, s_ret, s_retN, s_pass, s_cont, s_app, s_ext, s_pop, s_put, retE_im, retE_fr, expE_s, callE_rt, callE_nx,
  v_v, v_c, v_tup, v_lst, v_emp, v_bin, v_cmp, v_le2, v_and, v_or, v_not, v_ite, v_idx, v_from, v_upto, v_comp, v_compIf, v_call, v_blt, k_nil, k_cons, l_nil, l_cons, vE_im, vE_ow, op2_s, cm2_s, andE_t, andE_f, orE_t, orE_f, notE_s, iteE_t, iteE_f, consE_s, boolOf_s, keepOf_im, keepOf_fr, blE_s, cutE_t, cutE_f,
  caE_d, backOf_d, cpE_d, free_nm, free_tp, notOwn_n, notOwn_f, List.all_cons, List.all_nil, walk_seq, lent, List.any_cons, List.any_nil, reduceCtorEq, decide_false, decide_true, Bool.or_self, Bool.or_false, Bool.false_or, Bool.false_and, Bool.and_false, Bool.true_and, Bool.and_true, Bool.not_true, Bool.not_false, Bool.false_eq_true, if_false, if_true, ite_true, ite_false,
  List.getElem?_cons_zero, List.getElem?_cons_succ, List.set_cons_zero, List.set_cons_succ, Option.map_some, List.map_cons, List.map_nil, lt_int, gt_int, le_int, eq_int, ne_int, eq_str, ne_str, in_sg, notin_sg, len_tup, len_lst, isInt_int, isBool_int, isStr_str, sub_int, add_int, all_map, any_map, $hs,*])
theorem setE_im (F : FT0) (i : Nat) (e : Ex) (ρ : Env) (d : D) (h : isV e = false) : setE F i e ρ (some (.im, d)) = some (.nx (ρ.set i (some (false, d)))) := by
  have : thaw e ρ = ρ := by cases e <;> first | rfl | simp [isV] at h
  simp [setE, this, slotOf]
theorem setE_fr (F : FT0) (i : Nat) (e : Ex) (ρ : Env) (d : D) (h : isV e = false) : setE F i e ρ (some (.fr, d)) = some (.nx (ρ.set i (some (true, d)))) := by
  have : thaw e ρ = ρ := by cases e <;> first | rfl | simp [isV] at h
  simp [setE, this, slotOf]
theorem forE_s {F : FT0} {t : Tg} {k : Ik} {body : List Sm} {ρ : Env} {rs : List (Tag × D)} {items : List D} (h1 : lent rs = false) (h2 : walkD k (rs.map (·.2)) = some items) : forE F t k body ρ (some rs) = trips F t body items ρ := by
  simp [forE, h1, h2]
theorem appE_s {x : Nat} {ρ : Env} {xs : List D} {d : D} (h : xs.length ≤ 10000) : appE x ρ (some (some (true, .list xs))) (some d) = some (.nx (ρ.set x (some (true, .list (xs ++ [d]))))) := by
  have : fitsN xs.length = true := by simp [fitsN]; omega
  simp [appE, this]
theorem extE_s {x : Nat} {ρ : Env} {xs ys : List D} {t : Tag} (h : xs.length + ys.length ≤ 10000) : extE x ρ (some (some (true, .list xs))) (some (t, .list ys)) = some (.nx (ρ.set x (some (true, .list (xs ++ ys))))) := by
  have : fitsN (xs.length + ys.length) = true := by simp [fitsN]; omega
  simp [extE, this]
theorem retE_v (i : Nat) (d : D) : retE (.v i) (some (.ow, d)) = some (.rt (true, d)) := rfl
theorem trips_at {α : Type} {F : FT0} {t : Tg} {body : List Sm} {enc : α → D} (S : List α → Env → Prop) (xs : List α) {ρ : Env} (h0 : S [] ρ) (st : ∀ d x r ρ, xs = d ++ x :: r → S d ρ → ∃ ρ1 ρ', bindT t (enc x) ρ = some ρ1 ∧ (exs F body ρ1 = some (.nx ρ') ∨ exs F body ρ1 = some (.ct ρ')) ∧ S (d ++ [x]) ρ') : ∃ ρ', trips F t body (xs.map enc) ρ = some (.nx ρ') ∧ S xs ρ' := by
  have go : ∀ (r d : List α) (ρ : Env), xs = d ++ r → S d ρ → ∃ ρ', trips F t body (r.map enc) ρ = some (.nx ρ') ∧ S xs ρ' := by
    intro r
    induction r with
    | nil => intro d ρ e h; exact ⟨ρ, rfl, by rw [e, List.append_nil]; exact h⟩
    | cons x r ih =>
      intro d ρ e h
      obtain ⟨ρ1, ρ', h1, h2, h3⟩ := st d x r ρ e h
      obtain ⟨ρ2, h4, h5⟩ := ih (d ++ [x]) ρ' (by rw [e]; simp) h3
      refine ⟨ρ2, ?_, h5⟩
      unfold trips at h4 ⊢
      simp only [List.map_cons, forL, h1]
      rcases h2 with h2 | h2 <;> simp only [h2] <;> exact h4
  exact go xs [] ρ rfl h0
/-- bounds of a drawn story -/
structure Small (S : So) : Prop where
  ps : S.ps.length ≤ 6
  ops : ∀ p ∈ S.ps, p.ops.length ≤ 4
  os : ∀ p ∈ S.ps, ∀ o ∈ p.ops, o.os.length ≤ 2
theorem Small.at_ {S : So} (h : Small S) (t : Sta) : (opsAt S t).length ≤ 4 ∧ ∀ o ∈ opsAt S t, o.os.length ≤ 2 := by
  unfold opsAt
  split
  · rename_i p hp
    have := List.mem_of_getElem? hp
    exact ⟨h.ops p this, h.os p this⟩
  · exact ⟨by simp, by simp⟩
theorem flat_len {α β : Type} {f : α → List β} {k : Nat} : ∀ {l : List α}, (∀ x ∈ l, (f x).length ≤ k) → (l.flatMap f).length ≤ l.length * k
  | [], _ => by simp
  | x :: l, h => by
    have ih := flat_len (l := l) fun y hy => h y (List.mem_cons_of_mem _ hy)
    have := h x List.mem_cons_self
    simp only [List.flatMap_cons, List.length_append, List.length_cons, Nat.add_mul, Nat.one_mul]
    omega
theorem nexts_len {S : So} (h : Small S) (t : Sta) (lb : Str) : (nexts S t lb).length ≤ 8 := by
  obtain ⟨h1, h2⟩ := h.at_ t
  have hsub : ∀ o ∈ (offered S t).filter (fun o => decide (o.lb = lb)), o ∈ opsAt S t := fun o ho => (List.mem_filter.mp (List.mem_filter.mp ho).1).1
  have l1 : ((offered S t).filter (fun o => decide (o.lb = lb))).length ≤ 4 := Nat.le_trans (List.length_filter_le _ _) (Nat.le_trans (List.length_filter_le _ _) h1)
  have := flat_len (f := outs t) (k := 2) fun o ho => by
    unfold outs
    rw [List.length_map]
    exact h2 o (hsub o ho)
  unfold nexts
  omega
section
variable {P : Tb} (n : Nat) (S : States P)
include S
theorem r_outcomes_at {o : So} {t : Sta} (ht : In o t) (sm : Small o) (lb : Str) : run P (n + 3) 15 [eSo o, eSta t, .str lb] = some (true, .list ((nexts o t lb).map eSta)) := by
  rw [run_go S.p15 _ _ rfl]
  show callE (exs _ f_outcomes_at.body [some (false, eSo o), some (false, eSta t), some (false, .str lb), none, none, none, none, none]) = _
  have e0 : ∀ p : Op, idxD (eOp p) (.int 0) = some (.im, .str p.lb) := fun p => ix0 ..
  have e3 : ∀ p : Op, idxD (eOp p) (.int 3) = some (.im, .tuple (p.os.map eOu)) := fun p => ix3 ..
  have f0 : idxD (eSta t) (.int 0) = some (.im, .int (t.s : Int)) := ix0 ..
  have f2 : idxD (eSta t) (.int 2) = some (.im, .str t.m.s) := ix2 ..
  -- the inner loop
  have inner : ∀ (p : Op) (pre : List Sta) (x4 x5 x6 x7 : Option Slot), pre.length ≤ 100 → p.os.length ≤ 2 → ∃ y5 y6 y7, trips (run P (n + 2)) (.tp [5, 6, 7]) [.app 3 (.tup [.idx (.v 1) (.c (.int 0)), .v 5, .call 14 [.idx (.v 1) (.c (.int 2)), .v 6, .v 7]])] (p.os.map eOu) [some (false, eSo o), some (false, eSta t), some (false, .str lb), some (true, .list (pre.map eSta)), x4, x5, x6, x7] = some (.nx [some (false, eSo o), some (false, eSta t), some (false, .str lb), some (true, .list ((pre ++ outs t p).map eSta)), x4, y5, y6, y7]) := by
    intro p pre x4 x5 x6 x7 hpre hp
    obtain ⟨ρ', h1, y5, y6, y7, h2⟩ := trips_at (F := run P (n + 2)) (t := .tp [5, 6, 7]) (body := [.app 3 (.tup [.idx (.v 1) (.c (.int 0)), .v 5, .call 14 [.idx (.v 1) (.c (.int 2)), .v 6, .v 7]])]) (enc := eOu) (ρ := [some (false, eSo o), some (false, eSta t), some (false, .str lb), some (true, .list (pre.map eSta)), x4, x5, x6, x7])
      (fun d ρ => ∃ y5 y6 y7, ρ = [some (false, eSo o), some (false, eSta t), some (false, .str lb), some (true, .list ((pre ++ d.map fun x => (⟨t.s, x.to, chg t.m x.se x.cl⟩ : Sta)).map eSta)), x4, y5, y6, y7]) p.os ⟨x5, x6, x7, by simp⟩ (fun d x r ρ e ⟨y5, y6, y7, hρ⟩ => by
        subst hρ
        have hl : ((pre ++ d.map fun x => (⟨t.s, x.to, chg t.m x.se x.cl⟩ : Sta)).map eSta).length ≤ 10000 := by
          have : d.length ≤ 2 := by rw [e] at hp; simp at hp; omega
          simp; omega
        refine ⟨_, _, rfl, .inl ?_, some (false, .int x.to), some (false, .str x.se.s), some (false, .str x.cl.s), rfl⟩
        simp_arith [f0, f2, r_changed (n + 1) S.p14, appE_s hl]
        simp [eSta])
    refine ⟨y5, y6, y7, ?_⟩
    rw [h1, h2]
    rfl
  unfold f_outcomes_at
  have outer : ∃ ρ', trips (run P (n + 2)) (.nm 4) [.ite (.cmp .eq (.idx (.v 4) (.c (.int 0))) (.v 2)) [.for_ (.tp [5, 6, 7]) .seq [.idx (.v 4) (.c (.int 3))] [.app 3 (.tup [.idx (.v 1) (.c (.int 0)), .v 5, .call 14 [.idx (.v 1) (.c (.int 2)), .v 6, .v 7]])]] []] ((offered o t).map eOp) [some (false, eSo o), some (false, eSta t), some (false, .str lb), some (true, .list []), none, none, none, none] = some (.nx ρ') ∧
      ∃ y4 y5 y6 y7, ρ' = [some (false, eSo o), some (false, eSta t), some (false, .str lb), some (true, .list ((nexts o t lb).map eSta)), y4, y5, y6, y7] := by
    obtain ⟨h4, h2⟩ := sm.at_ t
    have l4 : (offered o t).length ≤ 4 := Nat.le_trans (List.length_filter_le _ _) h4
    refine trips_at (fun d ρ => ∃ y4 y5 y6 y7, ρ = [some (false, eSo o), some (false, eSta t), some (false, .str lb), some (true, .list (((d.filter fun o => decide (o.lb = lb)).flatMap (outs t)).map eSta)), y4, y5, y6, y7]) (offered o t) ⟨none, none, none, none, rfl⟩ fun d x r ρ e ⟨y4, y5, y6, y7, hρ⟩ => ?_
    subst hρ
    have hx : x ∈ offered o t := by rw [e]; simp
    have hx2 : x.os.length ≤ 2 := h2 x (List.mem_filter.mp hx).1
    have hd : d.length ≤ 4 := by rw [e] at l4; simp at l4; omega
    have hpre : ((d.filter fun o => decide (o.lb = lb)).flatMap (outs t)).length ≤ 100 := by
      have a1 := flat_len (f := outs t) (k := 2) (l := d.filter fun o => decide (o.lb = lb)) fun y hy => by
        unfold outs
        rw [List.length_map]
        exact h2 y (List.mem_filter.mp (show y ∈ offered o t by rw [e]; exact List.mem_append_left _ (List.mem_filter.mp hy).1)).1
      have a2 : (d.filter fun o => decide (o.lb = lb)).length ≤ d.length := List.length_filter_le _ _
      omega
    by_cases hlb : x.lb = lb
    · obtain ⟨z5, z6, z7, hin⟩ := inner x ((d.filter fun o => decide (o.lb = lb)).flatMap (outs t)) (some (false, eOp x)) y5 y6 y7 hpre hx2
      refine ⟨_, _, rfl, .inl ?_, some (false, eOp x), z5, z6, z7, rfl⟩
      have hd1 : decide (x.lb = lb) = true := by simp [hlb]
      have th : thaws [.idx (.v 4) (.c (.int 3))] [some (false, eSo o), some (false, eSta t), some (false, .str lb), some (true, .list (((d.filter fun o => decide (o.lb = lb)).flatMap (outs t)).map eSta)), some (false, eOp x), y5, y6, y7] = [some (false, eSo o), some (false, eSta t), some (false, .str lb), some (true, .list (((d.filter fun o => decide (o.lb = lb)).flatMap (outs t)).map eSta)), some (false, eOp x), y5, y6, y7] := rfl
      simp_arith [e0, hd1, th, e3, forE, items_tup, hin]
      simp [List.filter_append, hlb]
    · refine ⟨_, _, rfl, .inl ?_, some (false, eOp x), y5, y6, y7, rfl⟩
      have hd1 : decide (x.lb = lb) = false := by simp [hlb]
      simp_arith [e0, hd1]
      simp [List.filter_append, hlb]
  obtain ⟨ρ', h1, y4, y5, y6, y7, h2⟩ := outer
  subst h2
  have th : thaws [.call 12 [.v 0, .v 1]] [some (false, eSo o), some (false, eSta t), some (false, .str lb), some (true, .list []), none, none, none, none] = [some (false, eSo o), some (false, eSta t), some (false, .str lb), some (true, .list []), none, none, none, none] := rfl
  simp_arith [setE_fr _ _ (.lst []) _ _ rfl, th, r_options_at n S ht, forE, items_lst, h1, retE_v]
end
end Rk

/-! Steps, by the program and by the law. -/
set_option autoImplicit false
set_option linter.all false
set_option maxRecDepth 100000
namespace Rk
open PySem PySem.W K60
local macro_rules
  | `(tactic| simp_arith [$hs,*]) => `(tactic| simp only [b_cons, b_nil, seqE_nx, seqE_rt, s_set, s_setT, s_par, s_exp, s_for, s_whl, s_ite, s_ret, s_retN, s_pass, s_cont, s_app, s_ext, s_pop, s_put, retE_im, retE_fr, expE_s, callE_rt, callE_nx,
  v_v, v_c, v_tup, v_lst, v_emp, v_bin, v_cmp, v_le2, v_and, v_or, v_not, v_ite, v_idx, v_from, v_upto, v_comp, v_compIf, v_call, v_blt, k_nil, k_cons, l_nil, l_cons, vE_im, vE_ow, op2_s, cm2_s, andE_t, andE_f, orE_t, orE_f, notE_s, iteE_t, iteE_f, consE_s, boolOf_s, keepOf_im, keepOf_fr, blE_s, cutE_t, cutE_f,
  caE_d, backOf_d, cpE_d, free_nm, free_tp, notOwn_n, notOwn_f, List.all_cons, List.all_nil, walk_seq, lent, List.any_cons, List.any_nil, reduceCtorEq, decide_false, decide_true, Bool.or_self, Bool.or_false, Bool.false_or, Bool.false_and, Bool.and_false, Bool.true_and, Bool.and_true, Bool.not_true, Bool.not_false, Bool.false_eq_true, if_false, if_true, ite_true, ite_false,
  List.getElem?_cons_zero, List.getElem?_cons_succ, List.set_cons_zero, List.set_cons_succ, Option.map_some, List.map_cons, List.map_nil, lt_int, gt_int, le_int, eq_int, ne_int, eq_str, ne_str, in_sg, notin_sg, len_tup, len_lst, isInt_int, isBool_int, isStr_str, sub_int, add_int, all_map, any_map, $hs,*])
theorem map_inj {α : Type} {enc : α → D} (hi : Inj enc) : ∀ {l1 l2 : List α}, l1.map enc = l2.map enc → l1 = l2
  | [], [], _ => rfl
  | [], _ :: _, h => by simp at h
  | _ :: _, [], h => by simp at h
  | x :: l1, y :: l2, h => by
    simp only [List.map_cons, List.cons.injEq] at h
    rw [(hi x y).mp (by rw [h.1]; exact (hi y y).mpr rfl), map_inj hi h.2]
theorem sset_congr {α : Type} {enc : α → D} (hi : Inj enc) (hk : ∀ a, keyIn (enc a) = true) (ha : ∀ a b, alike (enc a) (enc b) = true) {l1 l2 : List α} (h : ∀ y, y ∈ l1 ↔ y ∈ l2) : sset enc l1 = sset enc l2 := by
  apply map_inj hi
  unfold sset
  rw [← isort_map, ← isort_map]
  have pm : (dedupT enc l1).Perm (dedupT enc l2) := (List.perm_ext_iff_of_nodup (dedupT_nodup enc hi l1) (dedupT_nodup enc hi l2)).mpr fun y => by rw [dedupT_mem enc hi, dedupT_mem enc hi]; exact h y
  refine isort_of_perm (pm.map enc) (fun d hd => ?_) fun a h1 b h2 => ?_
  · obtain ⟨x, _, rfl⟩ := List.mem_map.mp hd
    exact hk x
  · obtain ⟨x, _, rfl⟩ := List.mem_map.mp h1
    obtain ⟨y, _, rfl⟩ := List.mem_map.mp h2
    exact ha x y
theorem keyIn_Sta (t : Sta) : keyIn (eSta t) = true := rfl
theorem alike_Sta (a b : Sta) : alike (eSta a) (eSta b) = true := rfl
def fnext (S : So) (t : Sta) (lb : Str) : List Sta := sset eSta (nexts S t lb)
def steps (S : So) (t : Sta) : List Sta := sset eSta ((offered S t).flatMap fun o => fnext S t o.lb)
theorem steps_all (S : So) (t : Sta) : sset eSta ((opsAt S t).flatMap fun o => fnext S t o.lb) = steps S t := by
  unfold steps
  refine sset_congr inj_Sta keyIn_Sta alike_Sta fun y => ?_
  constructor
  · intro h
    obtain ⟨o, ho, hy⟩ := List.mem_flatMap.mp h
    have hy' := (sset_mem eSta inj_Sta).mp hy
    obtain ⟨o', ho', hy2⟩ := List.mem_flatMap.mp hy'
    obtain ⟨h1, h2⟩ := List.mem_filter.mp ho'
    have h2 : o'.lb = o.lb := by simpa using h2
    exact List.mem_flatMap.mpr ⟨o', h1, by rw [h2]; exact hy⟩
  · intro h
    obtain ⟨o, ho, hy⟩ := List.mem_flatMap.mp h
    exact List.mem_flatMap.mpr ⟨o, (List.mem_filter.mp ho).1, hy⟩
theorem fnext_len {S : So} (h : Small S) (t : Sta) (lb : Str) : (fnext S t lb).length ≤ 8 := Nat.le_trans (sset_len _ _) (nexts_len h t lb)
theorem steps_len {S : So} (h : Small S) (t : Sta) : (steps S t).length ≤ 32 := by
  unfold steps
  refine Nat.le_trans (sset_len _ _) ?_
  have a1 := flat_len (f := fun o : Op => fnext S t o.lb) (k := 8) (l := offered S t) fun o _ => fnext_len h t o.lb
  have a2 : (offered S t).length ≤ 4 := Nat.le_trans (List.length_filter_le _ _) (h.at_ t).1
  omega
structure Sure (P : Tb) : Prop where
  st : States P
  p17 : P 17 = some f_steps_from
structure LawB (P : Tb) : Prop where
  p29 : P 29 = some f__law_firsts
  p30 : P 30 = some f__law_open
  p31 : P 31 = some f__law_goes
  p32 : P 32 = some f__law_steps
section
variable {P : Tb} (n : Nat)
theorem r_find_next (S : States P) {o : So} {t : Sta} (ht : In o t) (sm : Small o) (lb : Str) : run P (n + 4) 16 [eSo o, eSta t, .str lb] = some (true, .list ((fnext o t lb).map eSta)) := by
  rw [run_go S.p16 _ _ rfl]
  show callE (exs _ f_find_next.body [some (false, eSo o), some (false, eSta t), some (false, .str lb)]) = _
  unfold f_find_next
  simp_arith [r_outcomes_at n S ht sm, sset_Sta (xs := nexts o t lb) (by have := nexts_len sm t lb; omega)]
  rfl
theorem r_steps_from (S : Sure P) {o : So} {t : Sta} (ht : In o t) (sm : Small o) : run P (n + 5) 17 [eSo o, eSta t] = some (true, .list ((steps o t).map eSta)) := by
  rw [run_go S.p17 _ _ rfl]
  show callE (exs _ f_steps_from.body [some (false, eSo o), some (false, eSta t), none, none]) = _
  unfold f_steps_from
  have l4 : (offered o t).length ≤ 4 := Nat.le_trans (List.length_filter_le _ _) (sm.at_ t).1
  obtain ⟨ρ', h1, y3, h2⟩ := trips_at (F := run P (n + 4)) (t := .nm 3) (body := [.ext 2 (.call 16 [.v 0, .v 1, .v 3])]) (enc := fun x : Op => .str x.lb) (ρ := [some (false, eSo o), some (false, eSta t), some (true, .list []), none])
    (fun d ρ => ∃ y3, ρ = [some (false, eSo o), some (false, eSta t), some (true, .list ((d.flatMap fun x => fnext o t x.lb).map eSta)), y3]) (offered o t) ⟨none, rfl⟩ (fun d x r ρ e ⟨y3, hρ⟩ => by
      subst hρ
      have hd : d.length ≤ 4 := by rw [e] at l4; simp at l4; omega
      have a1 := flat_len (f := fun o' : Op => fnext o t o'.lb) (k := 8) (l := d) fun y _ => fnext_len sm t y.lb
      have a2 := fnext_len sm t x.lb
      have hl : ((d.flatMap fun x => fnext o t x.lb).map eSta).length + ((fnext o t x.lb).map eSta).length ≤ 10000 := by rw [List.length_map, List.length_map]; omega
      refine ⟨_, _, rfl, .inl ?_, some (false, .str x.lb), rfl⟩
      simp_arith [r_find_next n S.st ht sm, extE_s hl]
      simp)
  subst h2
  have th : thaws [.call 13 [.v 0, .v 1]] [some (false, eSo o), some (false, eSta t), some (true, .list []), none] = [some (false, eSo o), some (false, eSta t), some (true, .list []), none] := rfl
  have hlen : ((offered o t).flatMap fun x => fnext o t x.lb).length < 63 := by
    have a1 := flat_len (f := fun o' : Op => fnext o t o'.lb) (k := 8) (l := offered o t) fun y _ => fnext_len sm t y.lb
    omega
  simp_arith [setE_fr _ _ (.lst []) _ _ rfl, th, r_find_offered (n + 1) S.st ht, forE, items_lst, h1, sset_Sta hlen]
  rfl
theorem r_law_goes (S : States P) (L : LawB P) {o : So} {t : Sta} (ht : In o t) (sm : Small o) (lb : Str) : run P (n + 2) 31 [eSo o, eSta t, .str lb] = some (true, .list ((fnext o t lb).map eSta)) := by
  rw [run_go L.p31 _ _ rfl]
  show callE (exs _ f__law_goes.body [some (false, eSo o), some (false, eSta t), some (false, .str lb), none, none, none, none, none, none, none, none, none, none]) = _
  obtain ⟨p, hp⟩ : ∃ p, o.ps[t.p]? = some p := ⟨_, List.getElem?_eq_getElem ht.p⟩
  have hops : opsAt o t = p.ops := by simp only [opsAt, hp]
  obtain ⟨hp4, hp2⟩ := sm.at_ t
  rw [hops] at hp4 hp2
  have e0 : ∀ p : Op, idxD (eOp p) (.int 0) = some (.im, .str p.lb) := fun p => ix0 ..
  have e3 : ∀ p : Op, idxD (eOp p) (.int 3) = some (.im, .tuple (p.os.map eOu)) := fun p => ix3 ..
  have g1 : idxD (eSo o) (.int 1) = some (.im, .tuple (o.ps.map ePa)) := ix1 ..
  have g3 : idxD (.tuple (o.ps.map ePa)) (.int (t.p : Int)) = some (.im, ePa p) := ix_tup (by rw [List.getElem?_map, hp]; rfl)
  have g4 : idxD (ePa p) (.int 2) = some (.im, .tuple (p.ops.map eOp)) := ix2 ..
  let env := fun (d : List Sta) (x4 x8 x9 x10 x11 : Option Slot) => ([some (false, eSo o), some (false, eSta t), some (false, .str lb), some (true, .list (d.map eSta)), x4, some (false, .int t.s), some (false, .int t.p), some (false, .str t.m.s), x8, x9, x10, x11, none] : Env)
  have it : itemsOf (.str "abcd") = some [sg 97, sg 98, sg 99, sg 100] := by
    have := items_str (x := "abcd") (by decide +kernel)
    rw [abcd_l] at this
    exact this
  have add_mk : ∀ x y : Mk, binD .add (.str x.s) (.str y.s) = some (.im, .str (x.s ++ y.s)) := fun x y => by
    have h1 := x.len
    have h2 := y.len
    have : fitsN (x.s.length + y.s.length) = true := by simp [fitsN]; omega
    simp only [binD, this, if_true]
  have mem_add : ∀ (x y : Mk) (c : Nat), decide (c ∈ (x.s ++ y.s).cps.toList) = (decide (c ∈ x.l) || decide (c ∈ y.l)) := fun x y c => by
    have : (x.s ++ y.s).cps.toList = x.l ++ y.l := by
      show (x.s.cps ++ y.s.cps).toList = _
      simp [Mk.s]
    rw [this]
    simp [List.mem_append]
  have inner : ∀ (q : Op) (pre : List Sta) (x4 x8 x9 x10 x11 : Option Slot), pre.length ≤ 100 → q.os.length ≤ 2 → ∃ y8 y9 y10 y11, trips (run P (n + 1)) (.tp [8, 9, 10]) [.set (.nm 11) (.compIf (.nm 12) .seq [.c (.str "abcd")] (.and (.cmp .isin (.v 12) (.bin .add (.v 7) (.v 9))) (.cmp .notin (.v 12) (.v 10))) (.v 12)), .app 3 (.tup [.v 5, .v 8, .blt .join [.c (.str ""), .v 11]])] (q.os.map eOu) (env pre x4 x8 x9 x10 x11) = some (.nx (env (pre ++ outs t q) x4 y8 y9 y10 y11)) := by
    intro q pre x4 x8 x9 x10 x11 hpre hq
    obtain ⟨ρ', h1, y8, y9, y10, y11, h2⟩ := trips_at (F := run P (n + 1)) (t := .tp [8, 9, 10]) (body := [.set (.nm 11) (.compIf (.nm 12) .seq [.c (.str "abcd")] (.and (.cmp .isin (.v 12) (.bin .add (.v 7) (.v 9))) (.cmp .notin (.v 12) (.v 10))) (.v 12)), .app 3 (.tup [.v 5, .v 8, .blt .join [.c (.str ""), .v 11]])]) (enc := eOu) (ρ := env pre x4 x8 x9 x10 x11)
      (fun d ρ => ∃ y8 y9 y10 y11, ρ = env (pre ++ d.map fun x => (⟨t.s, x.to, chg t.m x.se x.cl⟩ : Sta)) x4 y8 y9 y10 y11) q.os ⟨x8, x9, x10, x11, by simp⟩ (fun d x r ρ e ⟨y8, y9, y10, y11, hρ⟩ => by
        subst hρ
        have hl : ((pre ++ d.map fun x => (⟨t.s, x.to, chg t.m x.se x.cl⟩ : Sta)).map eSta).length ≤ 10000 := by
          have : d.length ≤ 2 := by rw [e] at hq; simp at hq; omega
          simp; omega
        have tr : turns (run P (n + 1)) (.nm 12) (some (.and (.cmp .isin (.v 12) (.bin .add (.v 7) (.v 9))) (.cmp .notin (.v 12) (.v 10)))) (.v 12) (env (pre ++ d.map fun x => (⟨t.s, x.to, chg t.m x.se x.cl⟩ : Sta)) x4 (some (false, .int x.to)) (some (false, .str x.se.s)) (some (false, .str x.cl.s)) y11) ([97, 98, 99, 100].map sg) = some ((chg t.m x.se x.cl).l.map sg) := by
          rw [← chg_l]
          refine turns_if (fun c => (decide (c ∈ t.m.l) || decide (c ∈ x.se.l)) && !decide (c ∈ x.cl.l)) sg (fun c => [some (false, eSo o), some (false, eSta t), some (false, .str lb), some (true, .list ((pre ++ d.map fun x => (⟨t.s, x.to, chg t.m x.se x.cl⟩ : Sta)).map eSta)), x4, some (false, .int t.s), some (false, .int t.p), some (false, .str t.m.s), some (false, .int x.to), some (false, .str x.se.s), some (false, .str x.cl.s), y11, some (false, sg c)]) fun c hc => ⟨rfl, ?_, fun _ => by simp_arith []⟩
          have f3 : decide (c ∈ x.cl.s.cps.toList) = decide (c ∈ x.cl.l) := rfl
          simp_arith [add_mk, mem_add, f3]
          cases (decide (c ∈ t.m.l) || decide (c ∈ x.se.l)) <;> simp_arith []
        have tr' : turns (run P (n + 1)) (.nm 12) (some (.and (.cmp .isin (.v 12) (.bin .add (.v 7) (.v 9))) (.cmp .notin (.v 12) (.v 10)))) (.v 12) [some (false, eSo o), some (false, eSta t), some (false, .str lb), some (true, .list ((pre ++ d.map fun x => (⟨t.s, x.to, chg t.m x.se x.cl⟩ : Sta)).map eSta)), x4, some (false, .int t.s), some (false, .int t.p), some (false, .str t.m.s), some (false, .int x.to), some (false, .str x.se.s), some (false, .str x.cl.s), y11, none] [sg 97, sg 98, sg 99, sg 100] = some ((chg t.m x.se x.cl).l.map sg) := tr
        refine ⟨[some (false, eSo o), some (false, eSta t), some (false, .str lb), some (true, .list ((pre ++ d.map fun x => (⟨t.s, x.to, chg t.m x.se x.cl⟩ : Sta)).map eSta)), x4, some (false, .int t.s), some (false, .int t.p), some (false, .str t.m.s), some (false, .int x.to), some (false, .str x.se.s), some (false, .str x.cl.s), y11, none], _, rfl, .inl ?_, some (false, .int x.to), some (false, .str x.se.s), some (false, .str x.cl.s), some (true, .list ((chg t.m x.se x.cl).l.map sg)), rfl⟩
        simp_arith [it, tr', setE_fr _ 11 (.compIf _ _ _ _ _) _ _ rfl, join_mk, appE_s hl]
        simp [env, eSta])
    refine ⟨y8, y9, y10, y11, ?_⟩
    rw [h1, h2]
    rfl
  have hn : nexts o t lb = (p.ops.filter fun x => decide (x.lb = lb) && off x t.m).flatMap (outs t) := by
    unfold nexts offered
    rw [hops, List.filter_filter]
  have outer : ∃ ρ', trips (run P (n + 1)) (.nm 4) [.ite (.and (.cmp .eq (.idx (.v 4) (.c (.int 0))) (.v 2)) (.call 30 [.v 4, .v 7])) [.for_ (.tp [8, 9, 10]) .seq [.idx (.v 4) (.c (.int 3))] [.set (.nm 11) (.compIf (.nm 12) .seq [.c (.str "abcd")] (.and (.cmp .isin (.v 12) (.bin .add (.v 7) (.v 9))) (.cmp .notin (.v 12) (.v 10))) (.v 12)), .app 3 (.tup [.v 5, .v 8, .blt .join [.c (.str ""), .v 11]])]] []] (p.ops.map eOp) (env [] none none none none none) = some (.nx ρ') ∧
      ∃ y4 y8 y9 y10 y11, ρ' = env (nexts o t lb) y4 y8 y9 y10 y11 := by
    rw [hn]
    refine trips_at (fun d ρ => ∃ y4 y8 y9 y10 y11, ρ = env ((d.filter fun x => decide (x.lb = lb) && off x t.m).flatMap (outs t)) y4 y8 y9 y10 y11) p.ops ⟨none, none, none, none, none, rfl⟩ fun d x r ρ e ⟨y4, y8, y9, y10, y11, hρ⟩ => ?_
    subst hρ
    have hx : x ∈ p.ops := by rw [e]; simp
    have hd : d.length ≤ 4 := by rw [e] at hp4; simp at hp4; omega
    have hpre : ((d.filter fun x => decide (x.lb = lb) && off x t.m).flatMap (outs t)).length ≤ 100 := by
      have a1 := flat_len (f := outs t) (k := 2) (l := d.filter fun x => decide (x.lb = lb) && off x t.m) fun y hy => by
        unfold outs
        rw [List.length_map]
        exact hp2 y (by rw [e]; exact List.mem_append_left _ (List.mem_filter.mp hy).1)
      have a2 : (d.filter fun x => decide (x.lb = lb) && off x t.m).length ≤ d.length := List.length_filter_le _ _
      omega
    have ro := r_offered n f__law_open rfl L.p30 x t.m
    by_cases hlb : (decide (x.lb = lb) && off x t.m) = true
    · obtain ⟨z8, z9, z10, z11, hin⟩ := inner x ((d.filter fun x => decide (x.lb = lb) && off x t.m).flatMap (outs t)) (some (false, eOp x)) y8 y9 y10 y11 hpre (hp2 x hx)
      refine ⟨_, _, rfl, .inl ?_, some (false, eOp x), z8, z9, z10, z11, rfl⟩
      rw [Bool.and_eq_true] at hlb
      have th : thaws [.idx (.v 4) (.c (.int 3))] (env ((d.filter fun x => decide (x.lb = lb) && off x t.m).flatMap (outs t)) (some (false, eOp x)) y8 y9 y10 y11) = env ((d.filter fun x => decide (x.lb = lb) && off x t.m).flatMap (outs t)) (some (false, eOp x)) y8 y9 y10 y11 := rfl
      have hin' := hin
      simp only [env] at hin' th
      simp_arith [env, e0, hlb.1, hlb.2, ro, th, e3, forE, items_tup, hin']
      simp [List.filter_append, hlb.1, hlb.2]
    · refine ⟨_, _, rfl, .inl ?_, some (false, eOp x), y8, y9, y10, y11, rfl⟩
      have hz : ([x].filter fun x => decide (x.lb = lb) && off x t.m) = [] := by simp only [List.filter_cons, hlb, List.filter_nil]; rfl
      rw [List.filter_append, hz, List.append_nil]
      cases h1 : decide (x.lb = lb) with
      | false => simp_arith [env, e0, h1]
      | true =>
        have h2 : off x t.m = false := by rw [h1] at hlb; simpa using hlb
        simp_arith [env, e0, h1, ro, h2]
  obtain ⟨ρ', h1, y4, y8, y9, y10, y11, h2⟩ := outer
  subst h2
  simp only [env, List.map_nil] at h1
  unfold f__law_goes
  have hb : bindT (.tp [5, 6, 7]) (eSta t) [some (false, eSo o), some (false, eSta t), some (false, .str lb), none, none, none, none, none, none, none, none, none, none] = some [some (false, eSo o), some (false, eSta t), some (false, .str lb), none, none, some (false, .int t.s), some (false, .int t.p), some (false, .str t.m.s), none, none, none, none, none] := rfl
  have th : thaws [.idx (.idx (.idx (.v 0) (.c (.int 1))) (.v 6)) (.c (.int 2))] [some (false, eSo o), some (false, eSta t), some (false, .str lb), some (true, .list []), none, some (false, .int t.s), some (false, .int t.p), some (false, .str t.m.s), none, none, none, none, none] = [some (false, eSo o), some (false, eSta t), some (false, .str lb), some (true, .list []), none, some (false, .int t.s), some (false, .int t.p), some (false, .str t.m.s), none, none, none, none, none] := rfl
  have hlen : (nexts o t lb).length < 63 := by have := nexts_len sm t lb; omega
  simp_arith [setTE_s, hb, setE_fr _ _ (.lst []) _ _ rfl, th, g1, g3, g4, forE, items_tup, h1, sset_Sta hlen]
  rfl
theorem r_law_steps (S : States P) (L : LawB P) {o : So} {t : Sta} (ht : In o t) (sm : Small o) : run P (n + 3) 32 [eSo o, eSta t] = some (true, .list ((steps o t).map eSta)) := by
  rw [run_go L.p32 _ _ rfl]
  show callE (exs _ f__law_steps.body [some (false, eSo o), some (false, eSta t), none, none]) = _
  unfold f__law_steps
  obtain ⟨p, hp⟩ : ∃ p, o.ps[t.p]? = some p := ⟨_, List.getElem?_eq_getElem ht.p⟩
  have hops : opsAt o t = p.ops := by simp only [opsAt, hp]
  obtain ⟨hp4, hp2⟩ := sm.at_ t
  rw [hops] at hp4
  have e0 : ∀ p : Op, idxD (eOp p) (.int 0) = some (.im, .str p.lb) := fun p => ix0 ..
  have g1 : idxD (eSo o) (.int 1) = some (.im, .tuple (o.ps.map ePa)) := ix1 ..
  have g2 : idxD (eSta t) (.int 1) = some (.im, .int (t.p : Int)) := ix1 ..
  have g3 : idxD (.tuple (o.ps.map ePa)) (.int (t.p : Int)) = some (.im, ePa p) := ix_tup (by rw [List.getElem?_map, hp]; rfl)
  have g4 : idxD (ePa p) (.int 2) = some (.im, .tuple (p.ops.map eOp)) := ix2 ..
  obtain ⟨ρ', h1, y3, h2⟩ := trips_at (F := run P (n + 2)) (t := .nm 3) (body := [.ext 2 (.call 31 [.v 0, .v 1, .idx (.v 3) (.c (.int 0))])]) (enc := eOp) (ρ := [some (false, eSo o), some (false, eSta t), some (true, .list []), none])
    (fun d ρ => ∃ y3, ρ = [some (false, eSo o), some (false, eSta t), some (true, .list ((d.flatMap fun x => fnext o t x.lb).map eSta)), y3]) p.ops ⟨none, rfl⟩ (fun d x r ρ e ⟨y3, hρ⟩ => by
      subst hρ
      have hd : d.length ≤ 4 := by rw [e] at hp4; simp at hp4; omega
      have a1 := flat_len (f := fun o' : Op => fnext o t o'.lb) (k := 8) (l := d) fun y _ => fnext_len sm t y.lb
      have a2 := fnext_len sm t x.lb
      have hl : ((d.flatMap fun x => fnext o t x.lb).map eSta).length + ((fnext o t x.lb).map eSta).length ≤ 10000 := by rw [List.length_map, List.length_map]; omega
      refine ⟨_, _, rfl, .inl ?_, some (false, eOp x), rfl⟩
      simp_arith [e0, r_law_goes n S L ht sm, extE_s hl]
      simp)
  subst h2
  have th : thaws [.idx (.idx (.idx (.v 0) (.c (.int 1))) (.idx (.v 1) (.c (.int 1)))) (.c (.int 2))] [some (false, eSo o), some (false, eSta t), some (true, .list []), none] = [some (false, eSo o), some (false, eSta t), some (true, .list []), none] := rfl
  have hlen : (p.ops.flatMap fun x => fnext o t x.lb).length < 63 := by
    have a1 := flat_len (f := fun o' : Op => fnext o t o'.lb) (k := 8) (l := p.ops) fun y _ => fnext_len sm t y.lb
    omega
  have hst := steps_all o t
  rw [hops] at hst
  simp_arith [setE_fr _ _ (.lst []) _ _ rfl, th, g1, g2, g3, g4, forE, items_tup, h1, sset_Sta hlen, hst]
end
end Rk

/-! Walking on from states. -/
set_option autoImplicit false
set_option linter.all false
set_option maxRecDepth 100000
namespace Rk
open PySem PySem.W K60
local macro_rules
  | `(tactic| simp_arith [$hs,*]) => `(tactic| simp only [b_cons, b_nil, seqE_nx, seqE_rt, s_set, s_setT, s_par, s_exp, s_for, s_whl, s_ite, s_ret, s_retN, s_pass, s_cont, s_app, s_ext, s_pop, s_put, retE_im, retE_fr, expE_s, callE_rt, callE_nx,
  v_v, v_c, v_tup, v_lst, v_emp, v_bin, v_cmp, v_le2, v_and, v_or, v_not, v_ite, v_idx, v_from, v_upto, v_comp, v_compIf, v_call, v_blt, k_nil, k_cons, l_nil, l_cons, vE_im, vE_ow, op2_s, cm2_s, andE_t, andE_f, orE_t, orE_f, notE_s, iteE_t, iteE_f, consE_s, boolOf_s, keepOf_im, keepOf_fr, blE_s, cutE_t, cutE_f,
  caE_d, backOf_d, cpE_d, free_nm, free_tp, notOwn_n, notOwn_f, List.all_cons, List.all_nil, walk_seq, lent, List.any_cons, List.any_nil, reduceCtorEq, decide_false, decide_true, Bool.or_self, Bool.or_false, Bool.false_or, Bool.false_and, Bool.and_false, Bool.true_and, Bool.and_true, Bool.not_true, Bool.not_false, Bool.false_eq_true, if_false, if_true, ite_true, ite_false,
  List.getElem?_cons_zero, List.getElem?_cons_succ, List.set_cons_zero, List.set_cons_succ, Option.map_some, List.map_cons, List.map_nil, lt_int, gt_int, le_int, eq_int, ne_int, eq_str, ne_str, in_sg, notin_sg, len_tup, len_lst, isInt_int, isBool_int, isStr_str, sub_int, add_int, all_map, any_map, $hs,*])
abbrev Kn := List (Sta × List Sta)
def eKn (k : Kn) : List (D × D) := k.map fun q => (eSta q.1, .list (q.2.map eSta))
def has (k : Kn) (t : Sta) : Bool := k.any fun q => decide (q.1 = t)
def dfs (step : Sta → List Sta) : Nat → Kn → List Sta → Kn
  | 0, k, _ => k
  | n + 1, k, last => match last.getLast? with
    | none => k
    | some t => if has k t then dfs step n k last.dropLast else dfs step n (k ++ [(t, step t)]) (last.dropLast ++ step t)
def ahead (step : Sta → List Sta) (init : List Sta) : Kn := dfs step (WF - 1) [] init
theorem keysT_eKn (k : Kn) : keysT (eKn k) = true := by
  simp only [keysT, eKn, List.all_map]
  exact List.all_eq_true.mpr fun x _ => rfl
theorem eqv_Sta (a b : Sta) : PyData.eqv (eSta a) (eSta b) = decide (a = b) := by
  by_cases h : a = b
  · rw [(inj_Sta a b).mpr h]; simp [h]
  · have : PyData.eqv (eSta a) (eSta b) = false := by
      cases e : PyData.eqv (eSta a) (eSta b) with
      | false => rfl
      | true => exact absurd ((inj_Sta a b).mp e) h
    rw [this]; simp [h]
def val (k : Kn) (t : Sta) : Option (List Sta) := (k.find? fun q => decide (q.1 = t)).map (·.2)
theorem dget_eKn (t : Sta) : ∀ k : Kn, dget (eKn k) (eSta t) = (val k t).map fun l => .list (l.map eSta)
  | [] => rfl
  | q :: k => by
    have ih := dget_eKn t k
    simp only [eKn, List.map_cons, dget, eqv_Sta, val, List.find?_cons] at ih ⊢
    cases h : decide (q.1 = t) with
    | true => simp
    | false => simpa using ih
theorem val_some (k : Kn) (t : Sta) : (val k t).isSome = has k t := by
  induction k with
  | nil => rfl
  | cons q k ih =>
    simp only [val, has, List.find?_cons, List.any_cons] at ih ⊢
    cases h : decide (q.1 = t) with
    | true => simp
    | false => simpa [h] using ih
theorem dput_new (t : Sta) (d : D) : ∀ k : Kn, has k t = false → dput (eKn k) (eSta t) d = eKn k ++ [(eSta t, d)]
  | [], _ => rfl
  | q :: k, h => by
    simp only [has, List.any_cons, Bool.or_eq_false_iff] at h
    have ih := dput_new t d k h.2
    simp only [eKn, List.map_cons, dput, eqv_Sta, h.1, Bool.false_eq_true, if_false] at ih ⊢
    rw [ih]
    rfl
theorem val_new {k : Kn} {t : Sta} {l : List Sta} (h : has k t = false) : val (k ++ [(t, l)]) t = some l := by
  have hn : k.find? (fun q => decide (q.1 = t)) = none := by
    have := val_some k t
    rw [h] at this
    simp only [val, Option.isSome_map] at this
    simpa using this
  simp [val, List.find?_append, hn]
theorem notin_Kn (k : Kn) (t : Sta) : cmpD .notin (eSta t) (.dict (eKn k)) = some (!has k t) := by
  have hk : keyT (eSta t) = true := rfl
  simp only [cmpD, hk, keysT_eKn, Bool.and_self, if_true, dget_eKn, Option.isSome_map, val_some]
theorem idx_Kn {k : Kn} {t : Sta} {l : List Sta} (h : val k t = some l) : idxD (.dict (eKn k)) (eSta t) = some (.im, .list (l.map eSta)) := by
  have hk : keyT (eSta t) = true := rfl
  have e : idxD (.dict (eKn k)) (eSta t) = if keyT (eSta t) && keysT (eKn k) then (dget (eKn k) (eSta t)).map (Tag.im, ·) else none := rfl
  rw [e, hk, keysT_eKn, dget_eKn, h]
  rfl
theorem putE_s {x : Nat} {ρ : Env} {k : Kn} {t : Sta} {l : List Sta} (hl : k.length ≤ 10000) (h : has k t = false) : putE x ρ (some (some (true, .dict (eKn k)))) (some (.list (l.map eSta))) (some (eSta t)) = some (.nx (ρ.set x (some (true, .dict (eKn (k ++ [(t, l)])))))) := by
  have hk : keyT (eSta t) = true := rfl
  have hf : fitsN (eKn k).length = true := by simp [fitsN, eKn]; omega
  simp only [putE, hk, keysT_eKn, hf, Bool.and_self, if_true, dput_new t _ k h]
  simp [eKn]
/-- the walk's text, with the def that tells the steps -/
def dfsFn (g : Nat) : Fn := ⟨2, 5, [.par [2, 3] [.emp, .blt .list [.v 1]],
    .whl (.cmp .ne (.v 3) (.lst [])) [.pop 4 3,
    .ite (.cmp .notin (.v 4) (.v 2)) [.put 2 (.v 4) (.call g [.v 0, .v 4]),
    .ext 3 (.idx (.v 2) (.v 4))] []],
    .ret (.v 2)]⟩
theorem ahead_is : f_states_ahead = dfsFn 17 := rfl
theorem met_is : f__law_met = dfsFn 32 := rfl
theorem nodup_len {α : Type} [DecidableEq α] : ∀ {l U : List α}, l.Nodup → (∀ x ∈ l, x ∈ U) → l.length ≤ U.length
  | [], _, _, _ => Nat.zero_le _
  | x :: l, U, h, hs => by
    obtain ⟨h1, h2⟩ := List.nodup_cons.mp h
    have hx := hs x List.mem_cons_self
    have ih := nodup_len (l := l) (U := U.erase x) h2 fun y hy => (List.mem_erase_of_ne (fun e => h1 (by rw [← e]; exact hy))).mpr (hs y (List.mem_cons_of_mem _ hy))
    rw [List.length_erase_of_mem hx] at ih
    have := List.length_pos_of_mem hx
    simp only [List.length_cons]
    omega
/-- what holds through the walk -/
structure Wk (U : List Sta) (k : Kn) (last : List Sta) : Prop where
  nd : (k.map (·.1)).Nodup
  sub : ∀ q ∈ k, q.1 ∈ U
  las : ∀ t ∈ last, t ∈ U
theorem Wk.len {U : List Sta} {k : Kn} {last : List Sta} (h : Wk U k last) : k.length ≤ U.length := by
  have := nodup_len h.nd fun x hx => by
    obtain ⟨q, hq, rfl⟩ := List.mem_map.mp hx
    exact h.sub q hq
  simpa using this
theorem ne_nil {ds : List D} (hp : PyData.plainAll ds = true) : cmpD .ne (.list ds) (.list []) = some (!ds.isEmpty) := by
  have hd : depOk (.list ds) (.list []) = true := by
    have e : (PyData.list ([] : List D)).depth ≤ 100 := by decide
    simp only [depOk, decide_eq_true_eq]
    exact Nat.le_trans (Nat.min_le_right _ _) e
  have h1 : (PyData.list ds).plain = true := by simpa [PyData.plain] using hp
  have h2 : (PyData.list ([] : List D)).plain = true := rfl
  show Option.map not (if ((PyData.list ds).plain && (PyData.list ([] : List D)).plain && depOk (.list ds) (.list [])) = true then some (PyData.eqv (.list ds) (.list [])) else none) = _
  rw [h1, h2, hd]
  cases ds <;> rfl
theorem rounds_go {F : FT0} {c : Ex} {body : List Sm} {M : Nat} {ρ ρ' : Env} (hc : boolOf (ev F c ρ) = some true) (hb : exs F body ρ = some (.nx ρ')) : rounds F c body (M + 1) ρ = rounds F c body M ρ' := by
  unfold rounds
  rw [whlL, hc]
  simp only [hb]
theorem rounds_end {F : FT0} {c : Ex} {body : List Sm} {M : Nat} {ρ : Env} (hc : boolOf (ev F c ρ) = some false) : rounds F c body (M + 1) ρ = some (.nx ρ) := by
  unfold rounds
  rw [whlL, hc]
theorem ne_nil_lst {xs : List Sta} : cmpD .ne (.list (xs.map eSta)) (.list []) = some (!xs.isEmpty) := by
  rw [ne_nil (plainAll_map fun x _ => rfl)]
  cases xs <;> rfl
section
variable {P : Tb} {o : So} {g : Nat} {step : Sta → List Sta} {U : List Sta} {m : Nat}
theorem dfs_run (hg : ∀ t ∈ U, run P m g [eSo o, eSta t] = some (true, .list ((step t).map eSta))) (cl : ∀ t ∈ U, ∀ u ∈ step t, u ∈ U) (hs : ∀ t ∈ U, (step t).length ≤ 32) (hU : U.length ≤ 200) {init : D} :
    ∀ (M : Nat) (k : Kn) (last : List Sta) (x4 : Option Slot), Wk U k last → last.length + 33 * (U.length - k.length) ≤ M → last.length + 33 * (U.length - k.length) ≤ 9000 → ∃ y4, rounds (run P m) (.cmp .ne (.v 3) (.lst [])) [.pop 4 3, .ite (.cmp .notin (.v 4) (.v 2)) [.put 2 (.v 4) (.call g [.v 0, .v 4]), .ext 3 (.idx (.v 2) (.v 4))] []] (M + 1) [some (false, eSo o), some (false, init), some (true, .dict (eKn k)), some (true, .list (last.map eSta)), x4] = some (.nx [some (false, eSo o), some (false, init), some (true, .dict (eKn (dfs step M k last))), some (true, .list []), y4]) ∧ Wk U (dfs step M k last) [] := by
  intro M
  induction M with
  | zero =>
    intro k last x4 w h1 h2
    have hl : last = [] := by cases last with
      | nil => rfl
      | cons _ _ => simp at h1
    subst hl
    refine ⟨x4, ?_, w⟩
    have hz : cmpD .ne (.list ([] : List D)) (.list []) = some false := rfl
    exact rounds_end (by simp_arith [List.map_nil, hz])
  | succ M ih =>
    intro k last x4 w h1 h2
    cases hlast : last.getLast? with
    | none =>
      have hl : last = [] := by simpa using hlast
      subst hl
      refine ⟨x4, ?_, ?_⟩
      · have hz : cmpD .ne (.list ([] : List D)) (.list []) = some false := rfl
        simp only [dfs, List.getLast?_nil]
        exact rounds_end (by simp_arith [List.map_nil, hz])
      · simp only [dfs, List.getLast?_nil]
        exact ⟨w.nd, w.sub, w.las⟩
    | some t =>
      have htm : t ∈ last := List.mem_of_getLast? hlast
      have htU := w.las t htm
      have hne : last.isEmpty = false := by cases last with
        | nil => simp at htm
        | cons _ _ => rfl
      have hpos : 0 < last.length := List.length_pos_of_mem htm
      have hdl : last.dropLast.length = last.length - 1 := by simp
      have hg1 : (last.map eSta).getLast? = some (eSta t) := by rw [List.getLast?_map, hlast]; rfl
      have hg2 : (last.map eSta).dropLast = last.dropLast.map eSta := by rw [List.map_dropLast]
      have hlas : ∀ u ∈ last.dropLast, u ∈ U := fun u hu => w.las u (List.dropLast_subset last hu)
      have hc : ∀ (x4 : Option Slot), boolOf (ev (run P m) (.cmp .ne (.v 3) (.lst [])) [some (false, eSo o), some (false, init), some (true, .dict (eKn k)), some (true, .list (last.map eSta)), x4]) = some true := fun x4 => by simp_arith [ne_nil_lst, hne]
      have hpop : ∀ (x4 : Option Slot), popE 4 3 [some (false, eSo o), some (false, init), some (true, .dict (eKn k)), some (true, .list (last.map eSta)), x4] (some (some (true, .list (last.map eSta)))) = some (.nx [some (false, eSo o), some (false, init), some (true, .dict (eKn k)), some (true, .list (last.dropLast.map eSta)), some (false, eSta t)]) := fun x4 => by
        simp only [popE, hg1, hg2]
        rfl
      by_cases hh : has k t = true
      · have w' : Wk U k last.dropLast := ⟨w.nd, w.sub, hlas⟩
        obtain ⟨y4, hr, hw⟩ := ih k last.dropLast (some (false, eSta t)) w' (by omega) (by omega)
        refine ⟨y4, ?_, by simp only [dfs, hlast, hh, if_true]; exact hw⟩
        simp only [dfs, hlast, hh, if_true]
        rw [rounds_go (hc x4) (by simp_arith [hpop, notin_Kn, hh]; rfl)]
        exact hr
      · have hh : has k t = false := by simpa using hh
        have htk : t ∉ k.map (·.1) := fun z => by
          obtain ⟨q, hq, e⟩ := List.mem_map.mp z
          have : has k t = true := List.any_eq_true.mpr ⟨q, hq, by simpa using e⟩
          rw [hh] at this; cases this
        have hstep := hs t htU
        have w' : Wk U (k ++ [(t, step t)]) (last.dropLast ++ step t) := by
          refine ⟨?_, fun q hq => ?_, fun u hu => ?_⟩
          · rw [List.map_append]
            refine List.nodup_append.mpr ⟨w.nd, by simp, fun a ha b hb => ?_⟩
            simp only [List.map_cons, List.map_nil, List.mem_singleton] at hb
            rw [hb]
            exact fun e => htk (by rw [← e]; exact ha)
          · rcases List.mem_append.mp hq with z | z
            · exact w.sub q z
            · rw [List.mem_singleton.mp z]; exact htU
          · rcases List.mem_append.mp hu with z | z
            · exact hlas u z
            · exact cl t htU u z
        have hkl := w'.len
        simp only [List.length_append, List.length_cons, List.length_nil] at hkl
        have hm : (last.dropLast ++ step t).length + 33 * (U.length - (k ++ [(t, step t)]).length) < last.length + 33 * (U.length - k.length) := by
          simp only [List.length_append, List.length_cons, List.length_nil, hdl]
          omega
        obtain ⟨y4, hr, hw⟩ := ih (k ++ [(t, step t)]) (last.dropLast ++ step t) (some (false, eSta t)) w' (by omega) (by omega)
        refine ⟨y4, ?_, by simp only [dfs, hlast, hh, Bool.false_eq_true, if_false]; exact hw⟩
        have hext : (last.dropLast.map eSta).length + ((step t).map eSta).length ≤ 10000 := by simp only [List.length_map, hdl]; omega
        simp only [dfs, hlast, hh, Bool.false_eq_true, if_false]
        rw [rounds_go (hc x4) (by simp_arith [hpop, notin_Kn, hh, hg t htU, putE_s (k := k) (t := t) (l := step t) (show k.length ≤ 10000 by omega) hh, idx_Kn (val_new hh), extE_s hext]; rfl)]
        rw [List.map_append] at hr
        exact hr
theorem r_dfs (hg : ∀ t ∈ U, run P m g [eSo o, eSta t] = some (true, .list ((step t).map eSta))) (cl : ∀ t ∈ U, ∀ u ∈ step t, u ∈ U) (hs : ∀ t ∈ U, (step t).length ≤ 32) (hU : U.length ≤ 200) {init : List Sta} (hi : ∀ t ∈ init, t ∈ U) (hl : init.length ≤ 200) {f : Nat} (hf : P f = some (dfsFn g)) :
    run P (m + 1) f [eSo o, .list (init.map eSta)] = some (true, .dict (eKn (ahead step init))) ∧ Wk U (ahead step init) [] := by
  obtain ⟨y4, hr, hw⟩ := dfs_run hg cl hs hU (init := .list (init.map eSta)) (WF - 1) [] init none ⟨by simp, fun q hq => (by cases hq), hi⟩ (by simp [WF]; omega) (by simp; omega)
  refine ⟨?_, hw⟩
  rw [run_go hf _ _ rfl]
  show callE (exs _ (dfsFn g).body [some (false, eSo o), some (false, .list (init.map eSta)), none, none, none]) = _
  unfold dfsFn
  have hli : bltD .list [.list (init.map eSta)] = some (.fr, .list (init.map eSta)) := rfl
  have hpar : parE [2, 3] [some (false, eSo o), some (false, .list (init.map eSta)), none, none, none] (some [(.fr, .dict []), (.fr, .list (init.map eSta))]) = some (.nx [some (false, eSo o), some (false, .list (init.map eSta)), some (true, .dict (eKn [])), some (true, .list (init.map eSta)), none]) := rfl
  have hwf : WF = (WF - 1) + 1 := rfl
  rw [hwf.symm] at hr
  simp_arith [hli, hpar, hr, retE_v]
  rfl
end
end Rk

/-! Texts ahead, and what a label loses. -/
set_option autoImplicit false
set_option linter.all false
set_option maxRecDepth 100000
namespace Rk
open PySem PySem.W K60
local macro_rules
  | `(tactic| simp_arith [$hs,*]) => `(tactic| simp only [b_cons, b_nil, seqE_nx, seqE_rt, s_set, s_setT, s_par, s_exp, s_for, s_whl, s_ite, s_ret, s_retN, s_pass, s_cont, s_app, s_ext, s_pop, s_put, retE_im, retE_fr, expE_s, callE_rt, callE_nx,
  v_v, v_c, v_tup, v_lst, v_emp, v_bin, v_cmp, v_le2, v_and, v_or, v_not, v_ite, v_idx, v_from, v_upto, v_comp, v_compIf, v_call, v_blt, k_nil, k_cons, l_nil, l_cons, vE_im, vE_ow, op2_s, cm2_s, andE_t, andE_f, orE_t, orE_f, notE_s, iteE_t, iteE_f, consE_s, boolOf_s, keepOf_im, keepOf_fr, blE_s, cutE_t, cutE_f,
  caE_d, backOf_d, cpE_d, free_nm, free_tp, notOwn_n, notOwn_f, List.all_cons, List.all_nil, walk_seq, lent, List.any_cons, List.any_nil, reduceCtorEq, decide_false, decide_true, Bool.or_self, Bool.or_false, Bool.false_or, Bool.false_and, Bool.and_false, Bool.true_and, Bool.and_true, Bool.not_true, Bool.not_false, Bool.false_eq_true, if_false, if_true, ite_true, ite_false,
  List.getElem?_cons_zero, List.getElem?_cons_succ, List.set_cons_zero, List.set_cons_succ, Option.map_some, List.map_cons, List.map_nil, lt_int, gt_int, le_int, eq_int, ne_int, eq_str, ne_str, in_sg, notin_sg, len_tup, len_lst, isInt_int, isBool_int, isStr_str, sub_int, add_int, all_map, any_map, $hs,*])
/-- outcomes lead to passages, and leave the marks c and d as they are -/
structure Ab (S : So) : Prop where
  sm : Small S
  go : ∀ p ∈ S.ps, ∀ o ∈ p.ops, ∀ x ∈ o.os, x.to < S.ps.length ∧ x.se.c = false ∧ x.se.d = false ∧ x.cl.c = false ∧ x.cl.d = false
def marks4 (c d : Bool) : List Mk := [⟨false, false, c, d⟩, ⟨false, true, c, d⟩, ⟨true, false, c, d⟩, ⟨true, true, c, d⟩]
def univ (S : So) (s : Nat) (c d : Bool) : List Sta := (List.range S.ps.length).flatMap fun p => (marks4 c d).map fun m => ⟨s, p, m⟩
theorem univ_mem {S : So} {s : Nat} {c d : Bool} {t : Sta} : t ∈ univ S s c d ↔ t.s = s ∧ t.p < S.ps.length ∧ t.m.c = c ∧ t.m.d = d := by
  obtain ⟨ts, tp, ⟨a, b, c', d'⟩⟩ := t
  simp only [univ, List.mem_flatMap, List.mem_range, marks4, List.map_cons, List.map_nil, List.mem_cons, List.not_mem_nil, or_false, Sta.mk.injEq, Mk.mk.injEq]
  constructor
  · rintro ⟨p, hp, h | h | h | h⟩ <;> (obtain ⟨h1, h2, _, _, h3, h4⟩ := h; exact ⟨h1, by rw [h2]; exact hp, h3, h4⟩)
  · rintro ⟨h1, h2, h3, h4⟩
    refine ⟨tp, h2, ?_⟩
    cases a <;> cases b <;> simp [h1, h3, h4]
theorem univ_len {S : So} (h : Small S) (s : Nat) (c d : Bool) : (univ S s c d).length ≤ 24 := by
  have := flat_len (f := fun p => (marks4 c d).map fun m => (⟨s, p, m⟩ : Sta)) (k := 4) (l := List.range S.ps.length) fun p _ => by simp [marks4]
  have h6 := h.ps
  simp only [List.length_range] at this
  unfold univ
  omega
theorem nexts_in {S : So} (h : Ab S) {t : Sta} (ht : t.p < S.ps.length) {lb : Str} {u : Sta} (hu : u ∈ nexts S t lb) : u.s = t.s ∧ u.p < S.ps.length ∧ u.m.c = t.m.c ∧ u.m.d = t.m.d := by
  obtain ⟨o, ho, hu⟩ := List.mem_flatMap.mp hu
  have ho := (List.mem_filter.mp (List.mem_filter.mp ho).1).1
  obtain ⟨x, hx, rfl⟩ := List.mem_map.mp hu
  unfold opsAt at ho
  split at ho
  · rename_i p hp
    obtain ⟨h1, h2, h3, h4, h5⟩ := h.go p (List.mem_of_getElem? hp) o ho x hx
    exact ⟨rfl, h1, by simp [chg, h2, h4], by simp [chg, h3, h5]⟩
  · cases ho
theorem fnext_in {S : So} (h : Ab S) {t : Sta} (ht : t.p < S.ps.length) {lb : Str} {u : Sta} (hu : u ∈ fnext S t lb) : u.s = t.s ∧ u.p < S.ps.length ∧ u.m.c = t.m.c ∧ u.m.d = t.m.d := nexts_in h ht ((sset_mem eSta inj_Sta).mp hu)
theorem steps_in {S : So} (h : Ab S) {t : Sta} (ht : t.p < S.ps.length) {u : Sta} (hu : u ∈ steps S t) : u.s = t.s ∧ u.p < S.ps.length ∧ u.m.c = t.m.c ∧ u.m.d = t.m.d := by
  obtain ⟨o, ho, hy⟩ := List.mem_flatMap.mp ((sset_mem eSta inj_Sta).mp hu)
  exact fnext_in h ht hy
def text (S : So) (t : Sta) : Str := match S.ps[t.p]? with
  | some p => p.tx
  | none => ⟨#[]⟩
def endsOf (k : Kn) : List Sta := (k.filter fun q => q.2.isEmpty).map (·.1)
def txs (S : So) (init : List Sta) : List Str := sset eS ((endsOf (ahead (steps S) init)).map (text S))
theorem eq_nil {ds : List D} (hp : PyData.plainAll ds = true) : cmpD .eq (.list ds) (.list []) = some ds.isEmpty := by
  have hd : depOk (.list ds) (.list []) = true := by
    have e : (PyData.list ([] : List D)).depth ≤ 100 := by decide
    simp only [depOk, decide_eq_true_eq]
    exact Nat.le_trans (Nat.min_le_right _ _) e
  have h1 : (PyData.list ds).plain = true := by simpa [PyData.plain] using hp
  have h2 : (PyData.list ([] : List D)).plain = true := rfl
  show (if ((PyData.list ds).plain && (PyData.list ([] : List D)).plain && depOk (.list ds) (.list [])) = true then some (PyData.eqv (.list ds) (.list [])) else none) = _
  rw [h1, h2, hd]
  cases ds <;> rfl
theorem val_mem {k : Kn} (nd : (k.map (·.1)).Nodup) {q : Sta × List Sta} (h : q ∈ k) : val k q.1 = some q.2 := by
  induction k with
  | nil => cases h
  | cons p k ih =>
    rw [List.map_cons, List.nodup_cons] at nd
    simp only [val, List.find?_cons]
    rcases List.mem_cons.mp h with e | e
    · subst e; simp
    · have hne : p.1 ≠ q.1 := fun z => nd.1 (by rw [z]; exact List.mem_map.mpr ⟨q, e, rfl⟩)
      simp only [hne, decide_false]
      exact ih nd.2 e
theorem items_Kn {k : Kn} (hl : k.length ≤ 1000) : itemsOf (.dict (eKn k)) = some (k.map fun q => eSta q.1) := by
  have hf : fitsN (eKn k).length = true := by simp [fitsN, eKn]; omega
  simp only [itemsOf, keysT_eKn, hf, Bool.and_self, if_true]
  simp [eKn]
/-- the defs with states_ahead -/
structure Touring (P : Tb) : Prop where
  su : Sure P
  la : LawB P
  p18 : P 18 = some f_states_ahead
  p37 : P 37 = some f__law_met
  p19 : P 19 = some f_find_met
  p83 : P 83 = some f_has_state
  p84 : P 84 = some f_check_state
  p85 : P 85 = some f_check_offered
  p86 : P 86 = some f_find_texts
  p87 : P 87 = some f_texts_ahead
  p88 : P 88 = some f_find_lost
  p89 : P 89 = some f_lost_by
  p90 : P 90 = some f_last_chances
  p91 : P 91 = some f__law_texts
def txFn (g : Nat) : Fn := ⟨2, 4, [.set (.nm 2) (.call g [.v 0, .v 1]),
    .ret (.blt .sortedSet [.compIf (.nm 3) .seq [.v 2] (.cmp .eq (.idx (.v 2) (.v 3)) (.lst [])) (.idx (.idx (.idx (.v 0) (.c (.int 1))) (.idx (.v 3) (.c (.int 1)))) (.c (.int 0)))])]⟩
section
variable {P : Tb} (n : Nat) (T : Touring P) {S : So} (ab : Ab S)
include T ab
/-- both walks, from states of a story -/
theorem r_ahead {U : List Sta} (hU : ∀ t ∈ U, In S t) (cl : ∀ t ∈ U, ∀ u ∈ steps S t, u ∈ U) (hl : U.length ≤ 200) {init : List Sta} (hi : ∀ t ∈ init, t ∈ U) (hil : init.length ≤ 200) :
    run P (n + 6) 18 [eSo S, .list (init.map eSta)] = some (true, .dict (eKn (ahead (steps S) init))) ∧ run P (n + 4) 37 [eSo S, .list (init.map eSta)] = some (true, .dict (eKn (ahead (steps S) init))) ∧ Wk U (ahead (steps S) init) [] := by
  have a := r_dfs (m := n + 5) (fun t ht => r_steps_from n T.su (hU t ht) ab.sm) cl (fun t _ => steps_len ab.sm t) hl hi hil (T.p18.trans (by rw [ahead_is]))
  have b := r_dfs (m := n + 3) (fun t ht => r_law_steps n T.su.st T.la (hU t ht) ab.sm) cl (fun t _ => steps_len ab.sm t) hl hi hil (T.p37.trans (by rw [met_is]))
  exact ⟨a.1, b.1, a.2⟩
omit T in
theorem r_tx {m : Nat} {g f : Nat} {init : List Sta} {U : List Sta} (hr : run P m g [eSo S, .list (init.map eSta)] = some (true, .dict (eKn (ahead (steps S) init)))) (w : Wk U (ahead (steps S) init) []) (hU : ∀ t ∈ U, In S t) (hl : U.length < 63) (hf : P f = some (txFn g)) :
    run P (m + 1) f [eSo S, .list (init.map eSta)] = some (true, .list ((txs S init).map eS)) := by
  rw [run_go hf _ _ rfl]
  show callE (exs _ (txFn g).body [some (false, eSo S), some (false, .list (init.map eSta)), none, none]) = _
  unfold txFn
  have hk := w.len
  have g1 : idxD (eSo S) (.int 1) = some (.im, .tuple (S.ps.map ePa)) := ix1 ..
  have g2 : ∀ t : Sta, idxD (eSta t) (.int 1) = some (.im, .int (t.p : Int)) := fun t => ix1 ..
  have g3 : ∀ t ∈ U, ∃ p, S.ps[t.p]? = some p ∧ idxD (.tuple (S.ps.map ePa)) (.int (t.p : Int)) = some (.im, ePa p) := fun t ht => by
    obtain ⟨p, hp⟩ : ∃ p, S.ps[t.p]? = some p := ⟨_, List.getElem?_eq_getElem (hU t ht).p⟩
    exact ⟨p, hp, ix_tup (by rw [List.getElem?_map, hp]; rfl)⟩
  have g4 : ∀ p : Pa, idxD (ePa p) (.int 0) = some (.im, .str p.tx) := fun p => ix0 ..
  have tr : turns (run P m) (.nm 3) (some (.cmp .eq (.idx (.v 2) (.v 3)) (.lst []))) (.idx (.idx (.idx (.v 0) (.c (.int 1))) (.idx (.v 3) (.c (.int 1)))) (.c (.int 0))) [some (false, eSo S), some (false, .list (init.map eSta)), some (true, .dict (eKn (ahead (steps S) init))), none] ((ahead (steps S) init).map fun q => eSta q.1) = some (((endsOf (ahead (steps S) init)).map (text S)).map eS) := by
    have := turns_if (F := run P m) (t := .nm 3) (c := .cmp .eq (.idx (.v 2) (.v 3)) (.lst [])) (e := .idx (.idx (.idx (.v 0) (.c (.int 1))) (.idx (.v 3) (.c (.int 1)))) (.c (.int 0))) (ρ := [some (false, eSo S), some (false, .list (init.map eSta)), some (true, .dict (eKn (ahead (steps S) init))), none]) (enc := fun q : Sta × List Sta => eSta q.1) (fun q => q.2.isEmpty) (fun q => eS (text S q.1)) (xs := ahead (steps S) init) (fun q => [some (false, eSo S), some (false, .list (init.map eSta)), some (true, .dict (eKn (ahead (steps S) init))), some (false, eSta q.1)]) fun q hq => ?_
    · rw [this]
      simp [endsOf, List.map_map]
    · refine ⟨rfl, ?_, fun _ => ?_⟩
      · simp_arith [idx_Kn (val_mem w.nd hq), eq_nil (ds := q.2.map eSta) (plainAll_map fun x _ => rfl)]
        cases q.2 <;> rfl
      · obtain ⟨p, hp, e⟩ := g3 q.1 (w.sub q hq)
        simp_arith [g1, g2, e, g4]
        simp only [text, hp, eS]
  have hlen : ((endsOf (ahead (steps S) init)).map (text S)).length < 63 := by
    have : (endsOf (ahead (steps S) init)).length ≤ (ahead (steps S) init).length := by
      unfold endsOf
      rw [List.length_map]
      exact List.length_filter_le _ _
    rw [List.length_map]
    omega
  simp_arith [hr, setE_fr _ 2 (.call g [.v 0, .v 1]) _ _ rfl, items_Kn (show (ahead (steps S) init).length ≤ 1000 by omega), tr, sset_S hlen]
  rfl
/-- from states of one kind -/
theorem r_texts {init : List Sta} {s : Nat} {c d : Bool} (hs : s < S.ss.length) (hi : ∀ t ∈ init, t ∈ univ S s c d) (hil : init.length ≤ 200) :
    run P (n + 7) 86 [eSo S, .list (init.map eSta)] = some (true, .list ((txs S init).map eS)) ∧ run P (n + 5) 91 [eSo S, .list (init.map eSta)] = some (true, .list ((txs S init).map eS)) := by
  have hU : ∀ t ∈ univ S s c d, In S t := fun t ht => by
    obtain ⟨h1, h2, _, _⟩ := univ_mem.mp ht
    exact ⟨by rw [h1]; exact hs, h2⟩
  have cl : ∀ t ∈ univ S s c d, ∀ u ∈ steps S t, u ∈ univ S s c d := fun t ht u hu => by
    obtain ⟨h1, h2, h3, h4⟩ := univ_mem.mp ht
    obtain ⟨k1, k2, k3, k4⟩ := steps_in ab h2 hu
    exact univ_mem.mpr ⟨k1.trans h1, k2, k3.trans h3, k4.trans h4⟩
  have ul := univ_len ab.sm s c d
  obtain ⟨a, b, w⟩ := r_ahead n T ab hU cl (by omega) hi hil
  exact ⟨r_tx ab a w hU (by omega) (T.p86.trans rfl), r_tx ab b w hU (by omega) (T.p91.trans rfl)⟩
end
end Rk

/-! What a label loses; last chances. -/
set_option autoImplicit false
set_option linter.all false
set_option maxRecDepth 100000
namespace Rk
open PySem PySem.W K60
local macro_rules
  | `(tactic| simp_arith [$hs,*]) => `(tactic| simp only [b_cons, b_nil, seqE_nx, seqE_rt, s_set, s_setT, s_par, s_exp, s_for, s_whl, s_ite, s_ret, s_retN, s_pass, s_cont, s_app, s_ext, s_pop, s_put, retE_im, retE_fr, expE_s, callE_rt, callE_nx,
  v_v, v_c, v_tup, v_lst, v_emp, v_bin, v_cmp, v_le2, v_and, v_or, v_not, v_ite, v_idx, v_from, v_upto, v_comp, v_compIf, v_call, v_blt, k_nil, k_cons, l_nil, l_cons, vE_im, vE_ow, op2_s, cm2_s, andE_t, andE_f, orE_t, orE_f, notE_s, iteE_t, iteE_f, consE_s, boolOf_s, keepOf_im, keepOf_fr, blE_s, cutE_t, cutE_f,
  caE_d, backOf_d, cpE_d, free_nm, free_tp, notOwn_n, notOwn_f, List.all_cons, List.all_nil, walk_seq, lent, List.any_cons, List.any_nil, reduceCtorEq, decide_false, decide_true, Bool.or_self, Bool.or_false, Bool.false_or, Bool.false_and, Bool.and_false, Bool.true_and, Bool.and_true, Bool.not_true, Bool.not_false, Bool.false_eq_true, if_false, if_true, ite_true, ite_false,
  List.getElem?_cons_zero, List.getElem?_cons_succ, List.set_cons_zero, List.set_cons_succ, Option.map_some, List.map_cons, List.map_nil, lt_int, gt_int, le_int, eq_int, ne_int, eq_str, ne_str, in_sg, notin_sg, len_tup, len_lst, isInt_int, isBool_int, isStr_str, sub_int, add_int, all_map, any_map, $hs,*])
def lostT (S : So) (t : Sta) (lb : Str) : List Str := (txs S [t]).filter fun x => !decide (x ∈ txs S (fnext S t lb))
theorem in_strs (x : Str) (l : List Str) : inAny (l.map eS) (.str x) = some (decide (x ∈ l)) := by
  have hp : PyData.plainAll (l.map eS) = true := plainAll_map fun x _ => rfl
  have hd : min (PyData.depthAll (l.map eS)) (PyData.str x).depth ≤ 100 := Nat.le_trans (Nat.min_le_right _ _) (by simp)
  have hx : (PyData.str x).plain = true := rfl
  simp only [inAny, hp, hx, hd, Bool.and_self, decide_true, if_true]
  congr 1
  induction l with
  | nil => rfl
  | cons y l ih =>
    simp only [List.map_cons, List.any_cons, ih (plainAll_map fun x _ => rfl) (Nat.le_trans (Nat.min_le_right _ _) (by simp)), eS, PyData.eqv, beq_dec]
    by_cases h : y = x
    · subst h; simp
    · have : ¬ x = y := fun z => h z.symm
      simp [h, this]
theorem notin_strs (x : Str) (l : List Str) : cmpD .notin (.str x) (.list (l.map eS)) = some (!decide (x ∈ l)) := by
  show (inAny (l.map eS) (.str x)).map not = _
  rw [in_strs]; rfl
section
variable {P : Tb} (n : Nat) (T : Touring P) {S : So} (ab : Ab S)
include T
theorem r_has_state {t : Sta} (ht : In S t) : run P (n + 3) 83 [eSo S, eSta t] = some (false, .bool true) := by
  rw [run_go T.p83 _ _ rfl]
  show callE (exs _ f_has_state.body [some (false, eSo S), some (false, eSta t)]) = _
  unfold f_has_state
  have st := T.su.st.st
  have hl : bltD .len [eSta t] = some (.im, .int 3) := rfl
  have h1 : bltD .isTuple [eSta t] = some (.im, .bool true) := isTup_tup rfl
  have e0 : idxD (eSta t) (.int 0) = some (.im, .int (t.s : Int)) := ix0 ..
  have e1 : idxD (eSta t) (.int 1) = some (.im, .int (t.p : Int)) := ix1 ..
  have e2 : idxD (eSta t) (.int 2) = some (.im, .str t.m.s) := ix2 ..
  have g0 : idxD (eSo S) (.int 0) = some (.im, .tuple (S.ss.map eM)) := ix0 ..
  have g1 : idxD (eSo S) (.int 1) = some (.im, .tuple (S.ps.map ePa)) := ix1 ..
  have d1 : decide ((0 : Int) ≤ (t.s : Int)) = true := by simp
  have d2 : decide ((t.s : Int) ≤ (S.ss.length : Int) - 1) = true := by have := ht.s; simp; omega
  have d3 : decide ((0 : Int) ≤ (t.p : Int)) = true := by simp
  have d4 : decide ((t.p : Int) ≤ (S.ps.length : Int) - 1) = true := by have := ht.p; simp; omega
  simp_arith [hl, h1, e0, e1, e2, g0, g1, r_are_marks st.p3 st.p1, r_is_int st.p0, List.length_map, d1, d2, d3, d4]
theorem r_check_state {t : Sta} (ht : In S t) : run P (n + 4) 84 [eSo S, eSta t] = some (false, .none) := by
  rw [run_go T.p84 _ _ rfl]
  show callE (exs _ f_check_state.body [some (false, eSo S), some (false, eSta t)]) = _
  unfold f_check_state
  simp_arith [r_has_state n T ht]
theorem r_check_offered {l : List Str} {x : Str} (h : x ∈ l) : run P (n + 1) 85 [.list (l.map eS), .str x] = some (false, .none) := by
  rw [run_go T.p85 _ _ rfl]
  show callE (exs _ f_check_offered.body [some (false, .list (l.map eS)), some (false, .str x)]) = _
  unfold f_check_offered
  have hd : decide (x ∈ l) = true := by simpa using h
  simp_arith [notin_strs, hd]
include ab
theorem self_univ {t : Sta} (ht : In S t) : ∀ u ∈ [t], u ∈ univ S t.s t.m.c t.m.d := fun u hu => by
  rw [List.mem_singleton.mp hu]; exact univ_mem.mpr ⟨rfl, ht.p, rfl, rfl⟩
theorem next_univ {t : Sta} (ht : In S t) (lb : Str) : ∀ u ∈ fnext S t lb, u ∈ univ S t.s t.m.c t.m.d := fun u hu => by
  obtain ⟨h1, h2, h3, h4⟩ := fnext_in ab ht.p hu
  exact univ_mem.mpr ⟨h1, h2, h3, h4⟩
theorem r_texts_ahead (ok : SoOk S) {t : Sta} (ht : In S t) : run P (n + 9) 87 [eSo S, eSta t] = some (true, .list ((txs S [t]).map eS)) := by
  rw [run_go T.p87 _ _ rfl]
  show callE (exs _ f_texts_ahead.body [some (false, eSo S), some (false, eSta t)]) = _
  unfold f_texts_ahead
  have h := (r_texts (n + 1) T ab ht.s (self_univ T ab ht) (by simp)).1
  rw [List.map_cons, List.map_nil] at h
  simp_arith [r_check_story T.su.st.st n ok, r_check_state (n + 4) T ht, h]
theorem r_find_lost {t : Sta} (ht : In S t) (lb : Str) : run P (n + 8) 88 [eSo S, eSta t, .str lb] = some (true, .list ((lostT S t lb).map eS)) := by
  rw [run_go T.p88 _ _ rfl]
  show callE (exs _ f_find_lost.body [some (false, eSo S), some (false, eSta t), some (false, .str lb), none, none]) = _
  unfold f_find_lost
  have h := (r_texts n T ab ht.s (self_univ T ab ht) (by simp)).1
  rw [List.map_cons, List.map_nil] at h
  have h2 := (r_texts n T ab ht.s (next_univ T ab ht lb) (by have := fnext_len ab.sm t lb; omega)).1
  have tr : turns (run P (n + 7)) (.nm 4) (some (.cmp .notin (.v 4) (.v 3))) (.v 4) [some (false, eSo S), some (false, eSta t), some (false, .str lb), some (true, .list ((txs S (fnext S t lb)).map eS)), none] ((txs S [t]).map eS) = some ((lostT S t lb).map eS) :=
    turns_if (fun x => !decide (x ∈ txs S (fnext S t lb))) eS (fun x => [some (false, eSo S), some (false, eSta t), some (false, .str lb), some (true, .list ((txs S (fnext S t lb)).map eS)), some (false, eS x)]) fun x hx => ⟨rfl, by simp_arith [eS, notin_strs], fun _ => by simp_arith []⟩
  simp_arith [r_find_next (n + 3) T.su.st ht ab.sm, h2, setE_fr _ 3 (.call 86 [.v 0, .call 16 [.v 0, .v 1, .v 2]]) _ _ rfl, h, items_lst, tr]
theorem r_lost_by (ok : SoOk S) {t : Sta} (ht : In S t) {lb : Str} (hl : lb ∈ (offered S t).map (·.lb)) : run P (n + 9) 89 [eSo S, eSta t, .str lb] = some (true, .list ((lostT S t lb).map eS)) := by
  rw [run_go T.p89 _ _ rfl]
  show callE (exs _ f_lost_by.body [some (false, eSo S), some (false, eSta t), some (false, .str lb)]) = _
  unfold f_lost_by
  have ho := r_find_offered (n + 5) T.su.st ht
  have e : ((offered S t).map fun x => PyData.str x.lb) = ((offered S t).map (·.lb)).map eS := by rw [List.map_map]; rfl
  rw [e] at ho
  simp_arith [r_check_story T.su.st.st n ok, r_check_state (n + 4) T ht, ho, r_check_offered (n + 7) T hl, r_find_lost n T ab ht]
end
end Rk

/-! The first states, the met states, last chances. -/
set_option autoImplicit false
set_option linter.all false
set_option maxRecDepth 100000
namespace Rk
open PySem PySem.W K60
local macro_rules
  | `(tactic| simp_arith [$hs,*]) => `(tactic| simp only [b_cons, b_nil, seqE_nx, seqE_rt, s_set, s_setT, s_par, s_exp, s_for, s_whl, s_ite, s_ret, s_retN, s_pass, s_cont, s_app, s_ext, s_pop, s_put, retE_im, retE_fr, expE_s, callE_rt, callE_nx,
  v_v, v_c, v_tup, v_lst, v_emp, v_bin, v_cmp, v_le2, v_and, v_or, v_not, v_ite, v_idx, v_from, v_upto, v_comp, v_compIf, v_call, v_blt, k_nil, k_cons, l_nil, l_cons, vE_im, vE_ow, op2_s, cm2_s, andE_t, andE_f, orE_t, orE_f, notE_s, iteE_t, iteE_f, consE_s, boolOf_s, keepOf_im, keepOf_fr, blE_s, cutE_t, cutE_f,
  caE_d, backOf_d, cpE_d, free_nm, free_tp, notOwn_n, notOwn_f, List.all_cons, List.all_nil, walk_seq, lent, List.any_cons, List.any_nil, reduceCtorEq, decide_false, decide_true, Bool.or_self, Bool.or_false, Bool.false_or, Bool.false_and, Bool.and_false, Bool.true_and, Bool.and_true, Bool.not_true, Bool.not_false, Bool.false_eq_true, if_false, if_true, ite_true, ite_false,
  List.getElem?_cons_zero, List.getElem?_cons_succ, List.set_cons_zero, List.set_cons_succ, Option.map_some, List.map_cons, List.map_nil, lt_int, gt_int, le_int, eq_int, ne_int, eq_str, ne_str, in_sg, notin_sg, len_tup, len_lst, isInt_int, isBool_int, isStr_str, sub_int, add_int, all_map, any_map, $hs,*])
def firsts (S : So) : List Sta := S.ss.zipIdx.map fun p => ⟨p.2, 0, p.1⟩
def univA (S : So) : List Sta := (firsts S).flatMap fun t => univ S t.s t.m.c t.m.d
def metK (S : So) : Kn := ahead (steps S) (firsts S)
def met (S : So) : List Sta := isortT eSta ((metK S).map (·.1))
def ePr (q : Sta × Str) : D := .tuple [eSta q.1, .str q.2]
def chances (S : So) (t : Sta) : List (Sta × Str) := ((offered S t).filter fun o => !(lostT S t o.lb).isEmpty).map fun o => (t, o.lb)
def lastC (S : So) : List (Sta × Str) := (met S).flatMap (chances S)
theorem firsts_in {S : So} (ok : SoOk S) {t : Sta} (h : t ∈ firsts S) : In S t := by
  obtain ⟨⟨m, i⟩, hp, rfl⟩ := List.mem_map.mp h
  have := List.mem_zipIdx hp
  exact ⟨by show i < _; omega, by have := ok.p1; show 0 < _; omega⟩
theorem firsts_len (S : So) : (firsts S).length = S.ss.length := by simp [firsts]
theorem univA_in {S : So} (ok : SoOk S) : ∀ t ∈ univA S, In S t := fun t ht => by
  obtain ⟨f, hf, hu⟩ := List.mem_flatMap.mp ht
  obtain ⟨h1, h2, _, _⟩ := univ_mem.mp hu
  exact ⟨by rw [h1]; exact (firsts_in ok hf).s, h2⟩
theorem univA_cl {S : So} (ab : Ab S) : ∀ t ∈ univA S, ∀ u ∈ steps S t, u ∈ univA S := fun t ht u hu => by
  obtain ⟨f, hf, hm⟩ := List.mem_flatMap.mp ht
  obtain ⟨h1, h2, h3, h4⟩ := univ_mem.mp hm
  obtain ⟨k1, k2, k3, k4⟩ := steps_in ab h2 hu
  exact List.mem_flatMap.mpr ⟨f, hf, univ_mem.mpr ⟨k1.trans h1, k2, k3.trans h3, k4.trans h4⟩⟩
theorem univA_len {S : So} (ok : SoOk S) (ab : Ab S) : (univA S).length ≤ 96 := by
  have := flat_len (f := fun t : Sta => univ S t.s t.m.c t.m.d) (k := 24) (l := firsts S) fun t _ => univ_len ab.sm _ _ _
  have h4 := ok.s4
  rw [firsts_len] at this
  unfold univA
  omega
theorem firsts_univ {S : So} (ok : SoOk S) : ∀ t ∈ firsts S, t ∈ univA S := fun t ht => List.mem_flatMap.mpr ⟨t, ht, univ_mem.mpr ⟨rfl, (firsts_in ok ht).p, rfl, rfl⟩⟩
theorem sorted_Kn {k : Kn} (hl : k.length ≤ 1000) : bltD .sorted [.dict (eKn k)] = some (.fr, .list ((isortT eSta (k.map (·.1))).map eSta)) := by
  have e : (eKn k).map (·.1) = (k.map (·.1)).map eSta := by simp [eKn]
  have hs : sortable ((k.map (·.1)).map eSta) = true := sortable_Sta (by simpa using hl)
  have ek : bltD .sorted [.dict (eKn k)] = if keysT (eKn k) && sortable ((eKn k).map (·.1)) then some (.fr, .list (isort ((eKn k).map (·.1)))) else none := rfl
  rw [ek, keysT_eKn, e, hs, isort_map]
  rfl
section
variable {P : Tb} (n : Nat)
theorem r_firsts {f : Nat} (hf : P f = some f_find_firsts) (S : So) : run P (n + 1) f [eSo S] = some (true, .list ((firsts S).map eSta)) := by
  rw [run_go hf _ _ rfl]
  show callE (exs _ f_find_firsts.body [some (false, eSo S), none, none]) = _
  unfold f_find_firsts
  have g0 : idxD (eSo S) (.int 0) = some (.im, .tuple (S.ss.map eM)) := ix0 ..
  have hw : walkD .enum [.tuple (S.ss.map eM)] = some (S.ss.zipIdx.map fun p => .tuple [.int (p.2 : Int), eM p.1]) := by
    simp only [walkD, seqOf, Option.map_some, List.mapIdx_eq_zipIdx_map, List.zipIdx_map, List.map_map]
    rfl
  have tr : turns (run P n) (.tp [1, 2]) none (.tup [.v 1, .c (.int 0), .v 2]) [some (false, eSo S), none, none] (S.ss.zipIdx.map fun p => .tuple [.int (p.2 : Int), eM p.1]) = _ := turns_all (fun p => .tuple [.int (p.2 : Int), .int 0, eM p.1]) (fun p => [some (false, eSo S), some (false, .int (p.2 : Int)), some (false, eM p.1)]) fun p hp => ⟨rfl, by simp_arith []⟩
  simp_arith [g0, hw, tr]
  simp [firsts, List.map_map]
  intros
  rfl
variable (T : Touring P) {S : So} (ok : SoOk S) (ab : Ab S)
include T ok ab
theorem wk_met : Wk (univA S) (metK S) [] := (r_ahead 0 T ab (univA_in ok) (univA_cl ab) (by have := univA_len ok ab; omega) (firsts_univ ok) (by rw [firsts_len]; have := ok.s4; omega)).2.2
theorem met_len : (metK S).length ≤ 96 := Nat.le_trans (wk_met T ok ab).len (univA_len ok ab)
theorem met_in {t : Sta} (h : t ∈ met S) : In S t := by
  have h := (isortT_mem eSta).mp h
  obtain ⟨q, hq, rfl⟩ := List.mem_map.mp h
  exact univA_in ok _ ((wk_met T ok ab).sub q hq)
theorem r_law_met : run P (n + 4) 37 [eSo S, .list ((firsts S).map eSta)] = some (true, .dict (eKn (metK S))) :=
  (r_ahead n T ab (univA_in ok) (univA_cl ab) (by have := univA_len ok ab; omega) (firsts_univ ok) (by rw [firsts_len]; have := ok.s4; omega)).2.1
theorem r_find_met : run P (n + 7) 19 [eSo S] = some (true, .dict (eKn (metK S))) := by
  rw [run_go T.p19 _ _ rfl]
  show callE (exs _ f_find_met.body [some (false, eSo S)]) = _
  unfold f_find_met
  have h := (r_ahead n T ab (univA_in ok) (univA_cl ab) (by have := univA_len ok ab; omega) (firsts_univ ok) (by rw [firsts_len]; have := ok.s4; omega)).1
  simp_arith [r_firsts (n + 5) T.su.st.p10, h]
  rfl
theorem r_last_chances : run P (n + 9) 90 [eSo S] = some (true, .list ((lastC S).map ePr)) := by
  rw [run_go T.p90 _ _ rfl]
  show callE (exs _ f_last_chances.body [some (false, eSo S), none, none, none]) = _
  unfold f_last_chances
  have hml : (met S).length ≤ 96 := by
    have := met_len T ok ab
    unfold met
    rw [isortT_len, List.length_map]
    exact this
  have ch4 : ∀ t, (chances S t).length ≤ 4 := fun t => by
    unfold chances
    rw [List.length_map]
    exact Nat.le_trans (List.length_filter_le _ _) (Nat.le_trans (List.length_filter_le _ _) (ab.sm.at_ t).1)
  obtain ⟨ρ', h1, y2, h2⟩ := trips_at (F := run P (n + 8)) (t := .nm 2) (body := [.ext 1 (.compIf (.nm 3) .seq [.call 13 [.v 0, .v 2]] (.cmp .ne (.call 88 [.v 0, .v 2, .v 3]) (.lst [])) (.tup [.v 2, .v 3]))]) (enc := eSta) (ρ := [some (false, eSo S), some (true, .list []), none, none])
    (fun d ρ => ∃ y2, ρ = [some (false, eSo S), some (true, .list ((d.flatMap (chances S)).map ePr)), y2, none]) (met S) ⟨none, rfl⟩ (fun d t r ρ e ⟨y2, hρ⟩ => by
      subst hρ
      have ht : In S t := met_in T ok ab (by rw [e]; simp)
      have hd : d.length ≤ 96 := by rw [e] at hml; simp at hml; omega
      have a1 := flat_len (f := chances S) (k := 4) (l := d) fun t _ => ch4 t
      have a2 := ch4 t
      have hl : ((d.flatMap (chances S)).map ePr).length + ((chances S t).map ePr).length ≤ 10000 := by rw [List.length_map, List.length_map]; omega
      refine ⟨_, _, rfl, .inl ?_, some (false, eSta t), rfl⟩
      have tr : turns (run P (n + 8)) (.nm 3) (some (.cmp .ne (.call 88 [.v 0, .v 2, .v 3]) (.lst []))) (.tup [.v 2, .v 3]) [some (false, eSo S), some (true, .list ((d.flatMap (chances S)).map ePr)), some (false, eSta t), none] ((offered S t).map fun x => .str x.lb) = some ((chances S t).map ePr) := by
        have := turns_if (F := run P (n + 8)) (t := .nm 3) (c := .cmp .ne (.call 88 [.v 0, .v 2, .v 3]) (.lst [])) (e := .tup [.v 2, .v 3]) (ρ := [some (false, eSo S), some (true, .list ((d.flatMap (chances S)).map ePr)), some (false, eSta t), none]) (enc := fun x : Op => .str x.lb) (fun o => !(lostT S t o.lb).isEmpty) (fun o => ePr (t, o.lb)) (xs := offered S t) (fun x => [some (false, eSo S), some (true, .list ((d.flatMap (chances S)).map ePr)), some (false, eSta t), some (false, .str x.lb)]) fun x hx => ?_
        · rw [this]
          simp [chances, List.map_map]
        · refine ⟨rfl, ?_, fun _ => by simp_arith []; rfl⟩
          simp_arith [r_find_lost n T ab ht, ne_nil (ds := (lostT S t x.lb).map eS) (plainAll_map fun x _ => rfl)]
          cases lostT S t x.lb <;> rfl
      simp_arith [r_find_offered (n + 5) T.su.st ht, items_lst, tr, extE_s hl]
      simp)
  subst h2
  have th : thaws [.blt .sorted [.call 19 [.v 0]]] [some (false, eSo S), some (true, .list []), none, none] = [some (false, eSo S), some (true, .list []), none, none] := rfl
  have hsd := sorted_Kn (k := metK S) (by have := met_len T ok ab; omega)
  have hmet : isortT eSta ((metK S).map (·.1)) = met S := rfl
  rw [hmet] at hsd
  simp_arith [r_check_story T.su.st.st n ok, setE_fr _ 1 (.lst []) _ _ rfl, th, r_find_met (n + 1) T ok ab, hsd, forE, items_lst, h1, retE_v]
  rfl
end
end Rk

/-! What the walk meets. -/
set_option autoImplicit false
set_option linter.all false
set_option maxRecDepth 100000
namespace Rk
open PySem PySem.W K60
local macro_rules
  | `(tactic| simp_arith [$hs,*]) => `(tactic| simp only [b_cons, b_nil, seqE_nx, seqE_rt, s_set, s_setT, s_par, s_exp, s_for, s_whl, s_ite, s_ret, s_retN, s_pass, s_cont, s_app, s_ext, s_pop, s_put, retE_im, retE_fr, expE_s, callE_rt, callE_nx,
  v_v, v_c, v_tup, v_lst, v_emp, v_bin, v_cmp, v_le2, v_and, v_or, v_not, v_ite, v_idx, v_from, v_upto, v_comp, v_compIf, v_call, v_blt, k_nil, k_cons, l_nil, l_cons, vE_im, vE_ow, op2_s, cm2_s, andE_t, andE_f, orE_t, orE_f, notE_s, iteE_t, iteE_f, consE_s, boolOf_s, keepOf_im, keepOf_fr, blE_s, cutE_t, cutE_f,
  caE_d, backOf_d, cpE_d, free_nm, free_tp, notOwn_n, notOwn_f, List.all_cons, List.all_nil, walk_seq, lent, List.any_cons, List.any_nil, reduceCtorEq, decide_false, decide_true, Bool.or_self, Bool.or_false, Bool.false_or, Bool.false_and, Bool.and_false, Bool.true_and, Bool.and_true, Bool.not_true, Bool.not_false, Bool.false_eq_true, if_false, if_true, ite_true, ite_false,
  List.getElem?_cons_zero, List.getElem?_cons_succ, List.set_cons_zero, List.set_cons_succ, Option.map_some, List.map_cons, List.map_nil, lt_int, gt_int, le_int, eq_int, ne_int, eq_str, ne_str, in_sg, notin_sg, len_tup, len_lst, isInt_int, isBool_int, isStr_str, sub_int, add_int, all_map, any_map, $hs,*])
theorem has_app (k k' : Kn) (t : Sta) : has (k ++ k') t = (has k t || has k' t) := by simp [has]
theorem has_one (t u : Sta) (l : List Sta) : has [(t, l)] u = decide (t = u) := by simp [has]
theorem has_mem {k : Kn} {t : Sta} : has k t = true ↔ t ∈ k.map (·.1) := by
  simp only [has, List.any_eq_true, decide_eq_true_eq, List.mem_map]
/-- closed under steps -/
structure Clo (step : Sta → List Sta) (k : Kn) (last : List Sta) : Prop where
  st : ∀ q ∈ k, q.2 = step q.1
  cl : ∀ q ∈ k, ∀ u ∈ q.2, has k u = true ∨ u ∈ last
theorem dfs_closed {step : Sta → List Sta} {U : List Sta} (cl : ∀ t ∈ U, ∀ u ∈ step t, u ∈ U) (hs : ∀ t ∈ U, (step t).length ≤ 32) : ∀ (M : Nat) (k : Kn) (last : List Sta), Wk U k last → last.length + 33 * (U.length - k.length) ≤ M → Clo step k last →
    Clo step (dfs step M k last) [] ∧ (∀ t ∈ last, has (dfs step M k last) t = true) ∧ ∀ t, has k t = true → has (dfs step M k last) t = true := by
  intro M
  induction M with
  | zero =>
    intro k last w h1 c
    have hl : last = [] := by cases last with
      | nil => rfl
      | cons _ _ => simp at h1
    subst hl
    exact ⟨c, fun t ht => (by cases ht), fun t h => h⟩
  | succ M ih =>
    intro k last w h1 c
    cases hlast : last.getLast? with
    | none =>
      have hl : last = [] := by simpa using hlast
      subst hl
      simp only [dfs, List.getLast?_nil]
      exact ⟨c, fun t ht => (by cases ht), fun t h => h⟩
    | some t =>
      have htm : t ∈ last := List.mem_of_getLast? hlast
      have htU := w.las t htm
      have hpos : 0 < last.length := List.length_pos_of_mem htm
      have hdl : last.dropLast.length = last.length - 1 := by simp
      have hlas : ∀ u ∈ last.dropLast, u ∈ U := fun u hu => w.las u (List.dropLast_subset last hu)
      have hsp : ∀ u ∈ last, u ∈ last.dropLast ∨ u = t := fun u hu => by
        have hne : last ≠ [] := fun z => by rw [z] at htm; cases htm
        have e := List.dropLast_concat_getLast hne
        have e2 : last.getLast hne = t := by
          rw [List.getLast?_eq_some_getLast hne] at hlast
          exact Option.some.inj hlast
        rw [← e, e2] at hu
        rcases List.mem_append.mp hu with z | z
        · exact .inl z
        · exact .inr (List.mem_singleton.mp z)
      by_cases hh : has k t = true
      · simp only [dfs, hlast, hh, if_true]
        have c' : Clo step k last.dropLast := ⟨c.st, fun q hq u hu => by
          rcases c.cl q hq u hu with z | z
          · exact .inl z
          · rcases hsp u z with z | z
            · exact .inr z
            · exact .inl (by rw [z]; exact hh)⟩
        obtain ⟨a1, a2, a3⟩ := ih k last.dropLast ⟨w.nd, w.sub, hlas⟩ (by omega) c'
        refine ⟨a1, fun u hu => ?_, a3⟩
        rcases hsp u hu with z | z
        · exact a2 u z
        · exact a3 u (by rw [z]; exact hh)
      · have hh : has k t = false := by simpa using hh
        have htk : t ∉ k.map (·.1) := fun z => by
          have := has_mem.mpr z
          rw [hh] at this; cases this
        have w' : Wk U (k ++ [(t, step t)]) (last.dropLast ++ step t) := by
          refine ⟨?_, fun q hq => ?_, fun u hu => ?_⟩
          · rw [List.map_append]
            refine List.nodup_append.mpr ⟨w.nd, by simp, fun a ha b hb => ?_⟩
            simp only [List.map_cons, List.map_nil, List.mem_singleton] at hb
            rw [hb]
            exact fun e => htk (by rw [← e]; exact ha)
          · rcases List.mem_append.mp hq with z | z
            · exact w.sub q z
            · rw [List.mem_singleton.mp z]; exact htU
          · rcases List.mem_append.mp hu with z | z
            · exact hlas u z
            · exact cl t htU u z
        have hkl := w'.len
        have hstep := hs t htU
        simp only [List.length_append, List.length_cons, List.length_nil] at hkl
        have hm : (last.dropLast ++ step t).length + 33 * (U.length - (k ++ [(t, step t)]).length) ≤ M := by
          simp only [List.length_append, List.length_cons, List.length_nil, hdl]
          omega
        have c' : Clo step (k ++ [(t, step t)]) (last.dropLast ++ step t) := ⟨fun q hq => by
          rcases List.mem_append.mp hq with z | z
          · exact c.st q z
          · rw [List.mem_singleton.mp z], fun q hq u hu => by
          rw [has_app, has_one]
          rcases List.mem_append.mp hq with z | z
          · rcases c.cl q z u hu with y | y
            · exact .inl (by rw [y]; rfl)
            · rcases hsp u y with y | y
              · exact .inr (List.mem_append_left _ y)
              · exact .inl (by rw [y]; simp)
          · rw [List.mem_singleton.mp z] at hu
            exact .inr (List.mem_append_right _ hu)⟩
        simp only [dfs, hlast, hh, Bool.false_eq_true, if_false]
        obtain ⟨a1, a2, a3⟩ := ih _ _ w' hm c'
        have ht : has (dfs step M (k ++ [(t, step t)]) (last.dropLast ++ step t)) t = true := a3 t (by rw [has_app, has_one]; simp)
        refine ⟨a1, fun u hu => ?_, fun u hu => a3 u (by rw [has_app, hu]; rfl)⟩
        rcases hsp u hu with z | z
        · exact a2 u (List.mem_append_left _ z)
        · rw [z]; exact ht
theorem dfs_wk {step : Sta → List Sta} {U : List Sta} (cl : ∀ t ∈ U, ∀ u ∈ step t, u ∈ U) (hs : ∀ t ∈ U, (step t).length ≤ 32) : ∀ (M : Nat) (k : Kn) (last : List Sta), Wk U k last → Wk U (dfs step M k last) [] := by
  intro M
  induction M with
  | zero => intro k last w; exact ⟨w.nd, w.sub, fun t ht => (by cases ht)⟩
  | succ M ih =>
    intro k last w
    cases hlast : last.getLast? with
    | none => simp only [dfs, hlast]; exact ⟨w.nd, w.sub, fun t ht => (by cases ht)⟩
    | some t =>
      have htU := w.las t (List.mem_of_getLast? hlast)
      have hlas : ∀ u ∈ last.dropLast, u ∈ U := fun u hu => w.las u (List.dropLast_subset last hu)
      by_cases hh : has k t = true
      · simp only [dfs, hlast, hh, if_true]
        exact ih k last.dropLast ⟨w.nd, w.sub, hlas⟩
      · have hh : has k t = false := by simpa using hh
        simp only [dfs, hlast, hh, Bool.false_eq_true, if_false]
        refine ih _ _ ⟨?_, fun q hq => ?_, fun u hu => ?_⟩
        · rw [List.map_append]
          refine List.nodup_append.mpr ⟨w.nd, by simp, fun a ha b hb => ?_⟩
          simp only [List.map_cons, List.map_nil, List.mem_singleton] at hb
          rw [hb]
          exact fun e => by
            have := has_mem.mpr ha
            rw [e, hh] at this; cases this
        · rcases List.mem_append.mp hq with z | z
          · exact w.sub q z
          · rw [List.mem_singleton.mp z]; exact htU
        · rcases List.mem_append.mp hu with z | z
          · exact hlas u z
          · exact cl t htU u z
theorem ahead_wk {step : Sta → List Sta} {U : List Sta} (cl : ∀ t ∈ U, ∀ u ∈ step t, u ∈ U) (hs : ∀ t ∈ U, (step t).length ≤ 32) {init : List Sta} (hi : ∀ t ∈ init, t ∈ U) : Wk U (ahead step init) [] :=
  dfs_wk cl hs _ _ _ ⟨by simp, fun q hq => (by cases hq), hi⟩
theorem met_wk {S : So} (ok : SoOk S) (ab : Ab S) : Wk (univA S) (metK S) [] := ahead_wk (univA_cl ab) (fun t _ => steps_len ab.sm t) (firsts_univ ok)
theorem met_len' {S : So} (ok : SoOk S) (ab : Ab S) : (metK S).length ≤ 96 := Nat.le_trans (met_wk ok ab).len (univA_len ok ab)
theorem met_in' {S : So} (ok : SoOk S) (ab : Ab S) {t : Sta} (h : t ∈ met S) : In S t := by
  have h := (isortT_mem eSta).mp h
  obtain ⟨q, hq, rfl⟩ := List.mem_map.mp h
  exact univA_in ok _ ((met_wk ok ab).sub q hq)
section
variable {P : Tb} (n : Nat) (Su : Sure P) {S : So} (ok : SoOk S) (ab : Ab S)
include Su ab
theorem r_ahead' (h18 : P 18 = some f_states_ahead) {U : List Sta} (hU : ∀ t ∈ U, In S t) (cl : ∀ t ∈ U, ∀ u ∈ steps S t, u ∈ U) (hl : U.length ≤ 200) {init : List Sta} (hi : ∀ t ∈ init, t ∈ U) (hil : init.length ≤ 200) :
    run P (n + 6) 18 [eSo S, .list (init.map eSta)] = some (true, .dict (eKn (ahead (steps S) init))) :=
  (r_dfs (m := n + 5) (fun t ht => r_steps_from n Su (hU t ht) ab.sm) cl (fun t _ => steps_len ab.sm t) hl hi hil (h18.trans (by rw [ahead_is]))).1
include ok
theorem r_find_met' (h18 : P 18 = some f_states_ahead) (h19 : P 19 = some f_find_met) : run P (n + 7) 19 [eSo S] = some (true, .dict (eKn (metK S))) := by
  rw [run_go h19 _ _ rfl]
  show callE (exs _ f_find_met.body [some (false, eSo S)]) = _
  unfold f_find_met
  have h := r_ahead' n Su ab h18 (univA_in ok) (univA_cl ab) (by have := univA_len ok ab; omega) (firsts_univ ok) (by rw [firsts_len]; have := ok.s4; omega)
  simp_arith [r_firsts (n + 5) Su.st.p10, h]
  rfl
end
theorem ahead_closed {step : Sta → List Sta} {U : List Sta} (cl : ∀ t ∈ U, ∀ u ∈ step t, u ∈ U) (hs : ∀ t ∈ U, (step t).length ≤ 32) (hU : U.length ≤ 200) {init : List Sta} (hi : ∀ t ∈ init, t ∈ U) (hl : init.length ≤ 200) :
    Clo step (ahead step init) [] ∧ ∀ t ∈ init, has (ahead step init) t = true := by
  obtain ⟨a, b, _⟩ := dfs_closed cl hs (WF - 1) [] init ⟨by simp, fun q hq => (by cases hq), hi⟩ (by simp [WF]; omega) ⟨fun q hq => (by cases hq), fun q hq => (by cases hq)⟩
  exact ⟨a, b⟩
end Rk

/-! Graphs: walks, what can be reached, rounds, ends. -/
set_option autoImplicit false
set_option linter.all false
set_option maxRecDepth 100000
namespace Rk
section
variable {α : Type} {step : α → List α}
inductive Rch (step : α → List α) : α → α → Prop
  | refl (a : α) : Rch step a a
  | tail {a b c : α} : Rch step a b → c ∈ step b → Rch step a c
theorem Rch.head {a b c : α} (h : b ∈ step a) (r : Rch step b c) : Rch step a c := by
  induction r with
  | refl => exact .tail (.refl a) h
  | tail _ q ih => exact .tail ih q
theorem Rch.trans {a b c : α} (r1 : Rch step a b) (r2 : Rch step b c) : Rch step a c := by
  induction r2 with
  | refl => exact r1
  | tail _ q ih => exact .tail ih q
/-- a walk of so many steps -/
inductive Wlk (step : α → List α) : Nat → α → α → Prop
  | nil (a : α) : Wlk step 0 a a
  | snoc {n : Nat} {a b c : α} : Wlk step n a b → c ∈ step b → Wlk step (n + 1) a c
theorem Wlk.rch {n : Nat} {a b : α} (h : Wlk step n a b) : Rch step a b := by
  induction h with
  | nil => exact .refl _
  | snoc _ q ih => exact .tail ih q
theorem Rch.wlk {a b : α} (h : Rch step a b) : ∃ n, Wlk step n a b := by
  induction h with
  | refl => exact ⟨0, .nil _⟩
  | tail _ q ih => obtain ⟨n, h⟩ := ih; exact ⟨n + 1, .snoc h q⟩
theorem Wlk.cons {n : Nat} {a b c : α} (h : b ∈ step a) (w : Wlk step n b c) : Wlk step (n + 1) a c := by
  induction w with
  | nil => exact .snoc (.nil a) h
  | snoc _ q ih => exact .snoc (ih h) q
theorem Wlk.app {m n : Nat} {a b c : α} (w1 : Wlk step m a b) (w2 : Wlk step n b c) : Wlk step (m + n) a c := by
  induction w2 with
  | nil => exact w1
  | snoc _ q ih => exact .snoc (ih w1) q
theorem Wlk.uncons {n : Nat} {a c : α} (w : Wlk step (n + 1) a c) : ∃ b, b ∈ step a ∧ Wlk step n b c := by
  induction n generalizing c with
  | zero =>
    cases w with
    | snoc w q => cases w with | nil => exact ⟨c, q, .nil c⟩
  | succ n ih =>
    cases w with
    | snoc w q =>
      obtain ⟨b, h1, h2⟩ := ih w
      exact ⟨b, h1, .snoc h2 q⟩
theorem Wlk.pre {k r : Nat} {a c : α} (w : Wlk step (k + r) a c) : ∃ b, Wlk step k a b := by
  induction r generalizing c with
  | zero => exact ⟨c, w⟩
  | succ r ih =>
    cases w with
    | snoc w q => exact ih w
/-- a state that comes twice -/
def Rnd (step : α → List α) (a : α) : Prop := ∃ b ∈ step a, Rch step b a
theorem rnd_wlk {a : α} : Rnd step a ↔ ∃ n, Wlk step (n + 1) a a := by
  constructor
  · rintro ⟨b, h1, h2⟩
    obtain ⟨n, h⟩ := h2.wlk
    exact ⟨n, Wlk.cons h1 h⟩
  · rintro ⟨n, h⟩
    obtain ⟨b, h1, h2⟩ := h.uncons
    exact ⟨b, h1, h2.rch⟩
theorem Wlk.loops {n : Nat} {a : α} (w : Wlk step (n + 1) a a) : ∀ j, ∃ m, j ≤ m ∧ Wlk step m a a
  | 0 => ⟨0, Nat.le_refl _, .nil a⟩
  | j + 1 => by
    obtain ⟨m, h1, h2⟩ := w.loops j
    exact ⟨m + (n + 1), by omega, h2.app w⟩
/-- a round gives walks of any length -/
theorem rnd_long {f a : α} (h : Rch step f a) (r : Rnd step a) (k : Nat) : ∃ b, Wlk step k f b := by
  obtain ⟨n, hn⟩ := h.wlk
  obtain ⟨m, hm⟩ := rnd_wlk.mp r
  obtain ⟨j, h1, h2⟩ := hm.loops k
  have w := hn.app h2
  have e : n + j = k + (n + j - k) := by omega
  rw [e] at w
  exact w.pre
/-- the states of a walk, the last first -/
theorem Wlk.list {n : Nat} {a c : α} (w : Wlk step n a c) : ∃ l : List α, l.length = n + 1 ∧ (∀ x ∈ l, Rch step a x) ∧ ((∀ x ∈ l, ¬ Rnd step x) → l.Nodup) ∧ (∀ x ∈ l, Rch step x c) := by
  induction w with
  | nil a => exact ⟨[a], rfl, fun x hx => by rw [List.mem_singleton.mp hx]; exact .refl a, fun _ => by simp, fun x hx => by rw [List.mem_singleton.mp hx]; exact .refl a⟩
  | @snoc n a b c w q ih =>
    obtain ⟨l, h1, h2, h3, h4⟩ := ih
    refine ⟨c :: l, by simp [h1], fun x hx => ?_, fun hr => ?_, fun x hx => ?_⟩
    · rcases List.mem_cons.mp hx with e | e
      · rw [e]; exact .tail w.rch q
      · exact h2 x e
    · refine List.nodup_cons.mpr ⟨fun z => hr c List.mem_cons_self ?_, h3 fun x hx => hr x (List.mem_cons_of_mem _ hx)⟩
      -- c was met before: from c to b, then to c
      obtain ⟨k, hk⟩ := (h4 c z).wlk
      exact rnd_wlk.mpr ⟨k, .snoc hk q⟩
    · rcases List.mem_cons.mp hx with e | e
      · rw [e]; exact .refl c
      · exact .tail (h4 x e) q
/-- a long walk among few states has a round -/
theorem wlk_rnd {U : List α} {n : Nat} {a c : α} (w : Wlk step n a c) (hU : ∀ x, Rch step a x → x ∈ U) (hn : U.length ≤ n) : ∃ x, Rch step a x ∧ Rnd step x := by
  obtain ⟨l, h1, h2, h3, _⟩ := w.list
  by_cases h : ∀ x ∈ l, ¬ Rnd step x
  · have := nodup_le (h3 h) fun x hx => hU x (h2 x hx)
    omega
  · obtain ⟨x, hx⟩ := Classical.not_forall.mp h
    obtain ⟨hx1, hx2⟩ := Classical.not_imp.mp hx
    exact ⟨x, h2 x hx1, Classical.not_not.mp hx2⟩
/-- an end can be met -/
inductive Cend (step : α → List α) : α → Prop
  | fin {a : α} : step a = [] → Cend step a
  | go {a b : α} : b ∈ step a → Cend step b → Cend step a
theorem cend_iff {a : α} : Cend step a ↔ ∃ e, Rch step a e ∧ step e = [] := by
  constructor
  · intro h
    induction h with
    | fin h => exact ⟨_, .refl _, h⟩
    | go h _ ih => obtain ⟨e, h1, h2⟩ := ih; exact ⟨e, h1.head h, h2⟩
  · rintro ⟨e, h1, h2⟩
    induction h1 with
    | refl => exact .fin h2
    | @tail b c r q ih =>
      have : ∀ {x : α}, Rch step a x → Cend step x → Cend step a := by
        intro x rx hx
        induction rx with
        | refl => exact hx
        | tail _ q ih => exact ih (.go q hx)
      exact this (.tail r q) (.fin h2)
theorem not_cend {a : α} (h : ¬ Cend step a) : ∀ n, ∃ b, Wlk step n a b ∧ ¬ Cend step b
  | 0 => ⟨a, .nil a, h⟩
  | n + 1 => by
    obtain ⟨b, w, hb⟩ := not_cend h n
    cases e : step b with
    | nil => exact absurd (.fin e) hb
    | cons c r =>
      have hc : c ∈ step b := by rw [e]; exact List.mem_cons_self
      exact ⟨c, .snoc w hc, fun z => hb (.go hc z)⟩
end
/-! ### what the walk meets is what can be reached -/
theorem dfs_sound {step : Sta → List Sta} {init : List Sta} : ∀ (M : Nat) (k : Kn) (last : List Sta), (∀ q ∈ k, ∃ a ∈ init, Rch step a q.1) → (∀ t ∈ last, ∃ a ∈ init, Rch step a t) → ∀ q ∈ dfs step M k last, ∃ a ∈ init, Rch step a q.1 := by
  intro M
  induction M with
  | zero => intro k last h1 h2; exact h1
  | succ M ih =>
    intro k last h1 h2
    cases hlast : last.getLast? with
    | none => simp only [dfs, hlast]; exact h1
    | some t =>
      have ht := h2 t (List.mem_of_getLast? hlast)
      have hd : ∀ u ∈ last.dropLast, ∃ a ∈ init, Rch step a u := fun u hu => h2 u (List.dropLast_subset last hu)
      by_cases hh : has k t = true
      · simp only [dfs, hlast, hh, if_true]
        exact ih k _ h1 hd
      · simp only [dfs, hlast, hh, Bool.false_eq_true, if_false]
        refine ih _ _ (fun q hq => ?_) fun u hu => ?_
        · rcases List.mem_append.mp hq with z | z
          · exact h1 q z
          · rw [List.mem_singleton.mp z]; exact ht
        · rcases List.mem_append.mp hu with z | z
          · exact hd u z
          · obtain ⟨a, ha, hr⟩ := ht
            exact ⟨a, ha, .tail hr z⟩
theorem ahead_iff {step : Sta → List Sta} {U : List Sta} (cl : ∀ t ∈ U, ∀ u ∈ step t, u ∈ U) (hs : ∀ t ∈ U, (step t).length ≤ 32) (hU : U.length ≤ 200) {init : List Sta} (hi : ∀ t ∈ init, t ∈ U) (hl : init.length ≤ 200) {t : Sta} :
    has (ahead step init) t = true ↔ ∃ a ∈ init, Rch step a t := by
  obtain ⟨c, h⟩ := ahead_closed cl hs hU hi hl
  constructor
  · intro ht
    obtain ⟨q, hq, rfl⟩ := List.mem_map.mp (has_mem.mp ht)
    exact dfs_sound _ _ _ (fun q hq => (by cases hq)) (fun t ht => ⟨t, ht, .refl t⟩) q hq
  · rintro ⟨a, ha, hr⟩
    induction hr with
    | refl => exact h a ha
    | @tail b d r q ih =>
      obtain ⟨p, hp, e⟩ := List.mem_map.mp (has_mem.mp ih)
      rcases c.cl p hp d (by rw [c.st p hp, e]; exact q) with z | z
      · exact z
      · cases z
end Rk

/-! Ends, and dicts of states. -/
set_option autoImplicit false
set_option linter.all false
set_option maxRecDepth 100000
namespace Rk
open PySem PySem.W K60
local macro_rules
  | `(tactic| simp_arith [$hs,*]) => `(tactic| simp only [b_cons, b_nil, seqE_nx, seqE_rt, s_set, s_setT, s_par, s_exp, s_for, s_whl, s_ite, s_ret, s_retN, s_pass, s_cont, s_app, s_ext, s_pop, s_put, retE_im, retE_fr, expE_s, callE_rt, callE_nx,
  v_v, v_c, v_tup, v_lst, v_emp, v_bin, v_cmp, v_le2, v_and, v_or, v_not, v_ite, v_idx, v_from, v_upto, v_comp, v_compIf, v_call, v_blt, k_nil, k_cons, l_nil, l_cons, vE_im, vE_ow, op2_s, cm2_s, andE_t, andE_f, orE_t, orE_f, notE_s, iteE_t, iteE_f, consE_s, boolOf_s, keepOf_im, keepOf_fr, blE_s, cutE_t, cutE_f,
  caE_d, backOf_d, cpE_d, free_nm, free_tp, notOwn_n, notOwn_f, List.all_cons, List.all_nil, walk_seq, lent, List.any_cons, List.any_nil, reduceCtorEq, decide_false, decide_true, Bool.or_self, Bool.or_false, Bool.false_or, Bool.false_and, Bool.and_false, Bool.true_and, Bool.and_true, Bool.not_true, Bool.not_false, Bool.false_eq_true, if_false, if_true, ite_true, ite_false,
  List.getElem?_cons_zero, List.getElem?_cons_succ, List.set_cons_zero, List.set_cons_succ, Option.map_some, List.map_cons, List.map_nil, lt_int, gt_int, le_int, eq_int, ne_int, eq_str, ne_str, in_sg, notin_sg, len_tup, len_lst, isInt_int, isBool_int, isStr_str, sub_int, add_int, all_map, any_map, $hs,*])
/-- a closed part of a graph, as a dict -/
structure Gr (step : Sta → List Sta) (k : Kn) : Prop where
  nd : (k.map (·.1)).Nodup
  st : ∀ q ∈ k, q.2 = step q.1
  cl : ∀ t, has k t = true → ∀ u ∈ step t, has k u = true
  len : k.length ≤ 96
  few : ∀ t, has k t = true → (step t).length ≤ 32
abbrev ksOf (k : Kn) : List Sta := k.map (·.1)
section
variable {step : Sta → List Sta} {k : Kn} (g : Gr step k)
include g
theorem Gr.val {t : Sta} (h : has k t = true) : val k t = some (step t) := by
  obtain ⟨q, hq, rfl⟩ := List.mem_map.mp (has_mem.mp h)
  rw [val_mem g.nd hq, g.st q hq]
theorem Gr.idx {t : Sta} (h : has k t = true) : idxD (.dict (eKn k)) (eSta t) = some (.im, .list ((step t).map eSta)) := idx_Kn (g.val h)
theorem Gr.items : itemsOf (.dict (eKn k)) = some ((ksOf k).map eSta) := by
  rw [items_Kn (by have := g.len; omega), List.map_map]
  rfl
theorem Gr.klen : (ksOf k).length ≤ 96 := by rw [List.length_map]; exact g.len
theorem Gr.rch {a b : Sta} (r : Rch step a b) (h : has k a = true) : has k b = true := by
  induction r with
  | refl => exact h
  | tail _ q ih => exact g.cl _ ih _ q
end
theorem met_gr {S : So} (ok : SoOk S) (ab : Ab S) : Gr (steps S) (metK S) := by
  obtain ⟨c, _⟩ := met_clo' ok ab
  refine ⟨(met_wk ok ab).nd, c.st, fun t ht u hu => ?_, met_len' ok ab, fun t _ => steps_len ab.sm t⟩
  obtain ⟨q, hq, rfl⟩ := List.mem_map.mp (has_mem.mp ht)
  rcases c.cl q hq u (by rw [c.st q hq]; exact hu) with z | z
  · exact z
  · cases z
where
  met_clo' {S : So} (ok : SoOk S) (ab : Ab S) : Clo (steps S) (metK S) [] ∧ ∀ t ∈ firsts S, has (metK S) t = true :=
    ahead_closed (univA_cl ab) (fun t _ => steps_len ab.sm t) (by have := univA_len ok ab; omega) (firsts_univ ok) (by rw [firsts_len]; have := ok.s4; omega)
theorem met_iff {S : So} (ok : SoOk S) (ab : Ab S) {t : Sta} : has (metK S) t = true ↔ ∃ a ∈ firsts S, Rch (steps S) a t :=
  ahead_iff (univA_cl ab) (fun t _ => steps_len ab.sm t) (by have := univA_len ok ab; omega) (firsts_univ ok) (by rw [firsts_len]; have := ok.s4; omega)
theorem sorted_Stas {xs : List Sta} (hl : xs.length ≤ 1000) : bltD .sorted [.list (xs.map eSta)] = some (.fr, .list ((isortT eSta xs).map eSta)) := by
  simp only [bltD, sortable_Sta hl, if_true, isort_map]
theorem eq_nil_Stas (xs : List Sta) : cmpD .eq (.list (xs.map eSta)) (.list []) = some xs.isEmpty := by
  rw [eq_nil (plainAll_map fun x _ => rfl)]
  cases xs <;> rfl
theorem ne_nil_Stas (xs : List Sta) : cmpD .ne (.list (xs.map eSta)) (.list []) = some (!xs.isEmpty) := ne_nil_lst
/-! ### dicts by states -/
def eKv (l : List Sta) (v : Sta → D) : List (D × D) := l.map fun t => (eSta t, v t)
theorem keysT_eKv (l : List Sta) (v : Sta → D) : keysT (eKv l v) = true := by
  simp only [keysT, eKv, List.all_map]
  exact List.all_eq_true.mpr fun x _ => rfl
theorem dget_eKv (t : Sta) (v : Sta → D) : ∀ l : List Sta, dget (eKv l v) (eSta t) = if t ∈ l then some (v t) else none
  | [] => rfl
  | a :: l => by
    have ih := dget_eKv t v l
    have e : dget (eKv (a :: l) v) (eSta t) = if PyData.eqv (eSta a) (eSta t) then some (v a) else dget (eKv l v) (eSta t) := rfl
    rw [e, eqv_Sta, ih]
    by_cases h : a = t
    · subst h; simp
    · have : ¬ t = a := fun z => h z.symm
      simp [h, this]
theorem in_eKv (t : Sta) (l : List Sta) (v : Sta → D) : cmpD .isin (eSta t) (.dict (eKv l v)) = some (decide (t ∈ l)) := by
  have hk : keyT (eSta t) = true := rfl
  simp only [cmpD, hk, keysT_eKv, Bool.and_self, if_true, dget_eKv]
  by_cases h : t ∈ l <;> simp [h]
theorem notin_eKv (t : Sta) (l : List Sta) (v : Sta → D) : cmpD .notin (eSta t) (.dict (eKv l v)) = some (!decide (t ∈ l)) := by
  have hk : keyT (eSta t) = true := rfl
  simp only [cmpD, hk, keysT_eKv, Bool.and_self, if_true, dget_eKv]
  by_cases h : t ∈ l <;> simp [h]
theorem idx_eKv {t : Sta} {l : List Sta} (v : Sta → D) (h : t ∈ l) : idxD (.dict (eKv l v)) (eSta t) = some (.im, v t) := by
  have hk : keyT (eSta t) = true := rfl
  have e : idxD (.dict (eKv l v)) (eSta t) = if keyT (eSta t) && keysT (eKv l v) then (dget (eKv l v) (eSta t)).map (Tag.im, ·) else if keyI (eSta t) && keysI (eKv l v) then (dget (eKv l v) (eSta t)).map (Tag.im, ·) else none := rfl
  rw [e, hk, keysT_eKv, dget_eKv]
  simp [h]
theorem pairs_eKv (v : Sta → D) : ∀ l : List Sta, pairsOf (l.map fun t => .tuple [eSta t, v t]) = some (eKv l v)
  | [] => rfl
  | a :: l => by simp only [List.map_cons, pairsOf, pairs_eKv v l, Option.map_some]; rfl
theorem dput_endD (k x : D) : ∀ kvs : List (D × D), (∀ p ∈ kvs, PyData.eqv p.1 k = false) → dput kvs k x = kvs ++ [(k, x)]
  | [], _ => rfl
  | p :: r, h => by
    simp only [dput, h p List.mem_cons_self, Bool.false_eq_true, if_false, dput_endD k x r fun q hq => h q (List.mem_cons_of_mem _ hq)]
    rfl
theorem merge_eKv (v : Sta → D) : ∀ (more acc : List Sta), (acc ++ more).Nodup → (eKv more v).foldl (fun acc p => dput acc p.1 p.2) (eKv acc v) = eKv (acc ++ more) v
  | [], acc, _ => by simp [eKv]
  | q :: more, acc, h => by
    have hq : ∀ p ∈ eKv acc v, PyData.eqv p.1 (eSta q) = false := fun p hp => by
      obtain ⟨a, ha, rfl⟩ := List.mem_map.mp hp
      rw [eqv_Sta]
      have := (List.nodup_append.mp h).2.2 a ha q (by simp)
      simpa using this
    have e1 : eKv (q :: more) v = (eSta q, v q) :: eKv more v := rfl
    have e2 : eKv acc v ++ [(eSta q, v q)] = eKv (acc ++ [q]) v := by simp [eKv]
    rw [e1, List.foldl_cons, dput_endD _ _ _ hq, e2, merge_eKv v more (acc ++ [q]) (by simpa using h)]
    simp
theorem dict_eKv {l : List Sta} (v : Sta → D) (nd : l.Nodup) (hl : l.length ≤ 1000) : bltD .dictOf [.list (l.map fun t => .tuple [eSta t, v t])] = some (.fr, .dict (eKv l v)) := by
  have hf : fitsN (eKv l v).length = true := by simp [fitsN, eKv]; omega
  have e := merge_eKv v l [] (by simpa using nd)
  have e0 : dmerge (eKv l v) = eKv l v := by simpa [dmerge, eKv] using e
  simp only [bltD, pairs_eKv, Option.bind_some, keysT_eKv, hf, Bool.and_self, if_true, e0]
theorem len_eKv {l : List Sta} (v : Sta → D) (hl : l.length ≤ 1000) : bltD .len [.dict (eKv l v)] = some (.im, .int (l.length : Int)) := by
  have hf : fitsN (eKv l v).length = true := by simp [fitsN, eKv]; omega
  simp only [bltD, lenD, keysT_eKv, hf, Bool.and_self, if_true, Option.map_some]
  simp [eKv]
/-- one state more, at the end -/
def ins (g : List Sta) (t : Sta) : List Sta := if t ∈ g then g else g ++ [t]
abbrev eKb (g : List Sta) : List (D × D) := eKv g fun _ => .bool true
theorem dput_eKb (t : Sta) : ∀ g : List Sta, dput (eKb g) (eSta t) (.bool true) = eKb (ins g t)
  | [] => by simp [ins, eKv, dput]
  | a :: g => by
    have ih := dput_eKb t g
    have e : dput (eKb (a :: g)) (eSta t) (.bool true) = if PyData.eqv (eSta a) (eSta t) then (eSta a, .bool true) :: eKb g else (eSta a, .bool true) :: dput (eKb g) (eSta t) (.bool true) := rfl
    rw [e, eqv_Sta, ih]
    unfold ins
    by_cases h : a = t
    · subst h; simp [eKv]
    · have h' : ¬ t = a := fun z => h z.symm
      by_cases hg : t ∈ g
      · simp [h, h', hg, eKv]
      · simp [h, h', hg, eKv]
theorem put_eKb {x : Nat} {ρ : Env} {g : List Sta} {t : Sta} (hl : g.length ≤ 10000) : putE x ρ (some (some (true, .dict (eKb g)))) (some (.bool true)) (some (eSta t)) = some (.nx (ρ.set x (some (true, .dict (eKb (ins g t)))))) := by
  have hk : keyT (eSta t) = true := rfl
  have hf : fitsN (eKb g).length = true := by simp [fitsN, eKv]; omega
  simp only [putE, hk, keysT_eKv, hf, Bool.and_self, if_true, dput_eKb]
theorem ins_mem {g : List Sta} {t u : Sta} : u ∈ ins g t ↔ u = t ∨ u ∈ g := by
  unfold ins
  split
  · rename_i h
    exact ⟨.inr, fun z => z.elim (fun z => by rw [z]; exact h) id⟩
  · simp [or_comm]
theorem ins_nodup {g : List Sta} {t : Sta} (h : g.Nodup) : (ins g t).Nodup := by
  unfold ins
  split
  · exact h
  · rename_i hn
    refine List.nodup_append.mpr ⟨h, by simp, fun a ha b hb => ?_⟩
    rw [List.mem_singleton.mp hb]
    exact fun e => hn (by rw [← e]; exact ha)
theorem ins_len (g : List Sta) (t : Sta) : g.length ≤ (ins g t).length ∧ ((ins g t).length = g.length → t ∈ g) := by
  unfold ins
  split
  · rename_i h; exact ⟨Nat.le_refl _, fun _ => h⟩
  · exact ⟨by simp, fun h => by simp at h⟩
/-! ### ends -/
def endsL (S : So) : List Sta := isortT eSta ((ksOf (metK S)).filter fun t => (steps S t).isEmpty)
def textsL (S : So) : List Str := sset eS ((endsL S).map (text S))
theorem text_in {S : So} {t : Sta} (h : In S t) : text S t ∈ S.ps.map (·.tx) := by
  unfold text
  rw [List.getElem?_eq_getElem h.p]
  exact List.mem_map.mpr ⟨_, List.getElem_mem _, rfl⟩
theorem endsL_in {S : So} (ok : SoOk S) (ab : Ab S) {t : Sta} (h : t ∈ endsL S) : In S t ∧ has (metK S) t = true ∧ steps S t = [] := by
  obtain ⟨h1, h2⟩ := List.mem_filter.mp ((isortT_mem eSta).mp h)
  have h3 : has (metK S) t = true := has_mem.mpr h1
  refine ⟨?_, h3, by simpa using h2⟩
  obtain ⟨q, hq, rfl⟩ := List.mem_map.mp h1
  exact univA_in ok _ ((met_wk ok ab).sub q hq)
theorem endsL_len {S : So} (ok : SoOk S) (ab : Ab S) : (endsL S).length ≤ 96 := by
  unfold endsL
  rw [isortT_len]
  exact Nat.le_trans (List.length_filter_le _ _) (met_gr ok ab).klen
theorem texts_ev {S : So} (ok : SoOk S) (ab : Ab S) : bltD .sortedSet [.list (((endsL S).map (text S)).map eS)] = some (.fr, .list ((textsL S).map eS)) := by
  have := endsL_len ok ab
  refine sortedSet_ev eS (sortable_S (by simp; omega)) setOk_S (few_in eS inj_S (U := S.ps.map (·.tx)) (fun x hx => ?_) (by have := ok.p6; simp; omega))
  obtain ⟨t, ht, rfl⟩ := List.mem_map.mp hx
  exact text_in (endsL_in ok ab ht).1
structure Endless (P : Tb) : Prop where
  su : Sure P
  p18 : P 18 = some f_states_ahead
  p19 : P 19 = some f_find_met
  p27 : P 27 = some K52.f_find_count
  p28 : P 28 = some K52.f_count_plays
  p40 : P 40 = some K52.f_find_ends
  p41 : P 41 = some K52.f_met_ends
  p42 : P 42 = some K52.f_end_texts
  p43 : P 43 = some K52.f_find_traps
  p44 : P 44 = some K52.f_traps
  p45 : P 45 = some K52.f_is_round
  p46 : P 46 = some K52.f_find_rounds
  p47 : P 47 = some K52.f_rounds
  p48 : P 48 = some K52.f_longest_play
  p49 : P 49 = some K52.f__law_longest
section
variable {P : Tb} (n : Nat) (Z : Endless P) {S : So} (ok : SoOk S) (ab : Ab S)
include Z ok ab
theorem r_find_ends : run P (n + 8) 40 [eSo S] = some (true, .list ((endsL S).map eSta)) := by
  rw [run_go Z.p40 _ _ rfl]
  show callE (exs _ K52.f_find_ends.body [some (false, eSo S), none, none]) = _
  unfold K52.f_find_ends
  have g := met_gr ok ab
  have tr : turns (run P (n + 7)) (.nm 2) (some (.cmp .eq (.idx (.v 1) (.v 2)) (.lst []))) (.v 2) [some (false, eSo S), some (true, .dict (eKn (metK S))), none] ((ksOf (metK S)).map eSta) = some (((ksOf (metK S)).filter fun t => (steps S t).isEmpty).map eSta) :=
    turns_if (fun t => (steps S t).isEmpty) eSta (fun t => [some (false, eSo S), some (true, .dict (eKn (metK S))), some (false, eSta t)]) fun t ht => ⟨rfl, by simp_arith [g.idx (has_mem.mpr ht), eq_nil_Stas], fun _ => by simp_arith []⟩
  have hs := sorted_Stas (xs := (ksOf (metK S)).filter fun t => (steps S t).isEmpty) (by have := List.length_filter_le (fun t => (steps S t).isEmpty) (ksOf (metK S)); have := g.klen; omega)
  simp_arith [r_find_met' n Z.su ok ab Z.p18 Z.p19, setE_fr _ 1 (.call _ _) _ _ rfl, g.items, tr, hs]
  rfl
theorem r_met_ends : run P (n + 9) 41 [eSo S] = some (true, .list ((endsL S).map eSta)) := by
  rw [run_go Z.p41 _ _ rfl]
  show callE (exs _ K52.f_met_ends.body [some (false, eSo S)]) = _
  unfold K52.f_met_ends
  simp_arith [r_check_story Z.su.st.st n ok, r_find_ends n Z ok ab]
theorem r_end_texts : run P (n + 9) 42 [eSo S] = some (true, .list ((textsL S).map eS)) := by
  rw [run_go Z.p42 _ _ rfl]
  show callE (exs _ K52.f_end_texts.body [some (false, eSo S), none]) = _
  unfold K52.f_end_texts
  have g1 : idxD (eSo S) (.int 1) = some (.im, .tuple (S.ps.map ePa)) := ix1 ..
  have g2 : ∀ t : Sta, idxD (eSta t) (.int 1) = some (.im, .int (t.p : Int)) := fun t => ix1 ..
  have g4 : ∀ p : Pa, idxD (ePa p) (.int 0) = some (.im, .str p.tx) := fun p => ix0 ..
  have tr : turns (run P (n + 8)) (.nm 1) none (.idx (.idx (.idx (.v 0) (.c (.int 1))) (.idx (.v 1) (.c (.int 1)))) (.c (.int 0))) [some (false, eSo S), none] ((endsL S).map eSta) = some ((endsL S).map fun t => eS (text S t)) :=
    turns_all (fun t => eS (text S t)) (fun t => [some (false, eSo S), some (false, eSta t)]) fun t ht => ⟨rfl, by
      obtain ⟨p, hp⟩ : ∃ p, S.ps[t.p]? = some p := ⟨_, List.getElem?_eq_getElem (endsL_in ok ab ht).1.p⟩
      have g3 : idxD (.tuple (S.ps.map ePa)) (.int (t.p : Int)) = some (.im, ePa p) := ix_tup (by rw [List.getElem?_map, hp]; rfl)
      have ht' : text S t = p.tx := by simp only [text, hp]
      rw [ht']
      simp_arith [g1, g2, g3, g4]
      rfl⟩
  have em : ((endsL S).map fun t => eS (text S t)) = ((endsL S).map (text S)).map eS := by rw [List.map_map]; rfl
  rw [em] at tr
  simp_arith [r_check_story Z.su.st.st n ok, r_find_ends n Z ok ab, items_lst, tr, texts_ev ok ab]
end
end Rk

/-! Traps, rounds. -/
set_option autoImplicit false
set_option linter.all false
set_option maxRecDepth 100000
namespace Rk
open PySem PySem.W K60
local macro_rules
  | `(tactic| simp_arith [$hs,*]) => `(tactic| simp only [b_cons, b_nil, seqE_nx, seqE_rt, s_set, s_setT, s_par, s_exp, s_for, s_whl, s_ite, s_ret, s_retN, s_pass, s_cont, s_app, s_ext, s_pop, s_put, retE_im, retE_fr, expE_s, callE_rt, callE_nx,
  v_v, v_c, v_tup, v_lst, v_emp, v_bin, v_cmp, v_le2, v_and, v_or, v_not, v_ite, v_idx, v_from, v_upto, v_comp, v_compIf, v_call, v_blt, k_nil, k_cons, l_nil, l_cons, vE_im, vE_ow, op2_s, cm2_s, andE_t, andE_f, orE_t, orE_f, notE_s, iteE_t, iteE_f, consE_s, boolOf_s, keepOf_im, keepOf_fr, blE_s, cutE_t, cutE_f,
  caE_d, backOf_d, cpE_d, free_nm, free_tp, notOwn_n, notOwn_f, List.all_cons, List.all_nil, walk_seq, lent, List.any_cons, List.any_nil, reduceCtorEq, decide_false, decide_true, Bool.or_self, Bool.or_false, Bool.false_or, Bool.false_and, Bool.and_false, Bool.true_and, Bool.and_true, Bool.not_true, Bool.not_false, Bool.false_eq_true, if_false, if_true, ite_true, ite_false,
  List.getElem?_cons_zero, List.getElem?_cons_succ, List.set_cons_zero, List.set_cons_succ, Option.map_some, List.map_cons, List.map_nil, lt_int, gt_int, le_int, eq_int, ne_int, eq_str, ne_str, in_sg, notin_sg, len_tup, len_lst, isInt_int, isBool_int, isStr_str, sub_int, add_int, all_map, any_map, $hs,*])
section
variable (step : Sta → List Sta)
def hit (g : List Sta) (t : Sta) : Bool := (step t).any fun u => decide (u ∈ g)
def passG (g : List Sta) : List Sta → List Sta
  | [] => g
  | t :: r => passG (if hit step g t then ins g t else g) r
end
section
variable {step : Sta → List Sta}
theorem passG_app (g : List Sta) : ∀ (a b : List Sta), passG step g (a ++ b) = passG step (passG step g a) b
  | [], b => rfl
  | t :: a, b => by simp only [List.cons_append, passG]; exact passG_app _ a b
theorem stepG_len (g : List Sta) (t : Sta) : g.length ≤ (if hit step g t then ins g t else g).length ∧ ((if hit step g t then ins g t else g).length = g.length → (if hit step g t then ins g t else g) = g ∧ (hit step g t = true → t ∈ g)) := by
  split
  · rename_i h
    obtain ⟨h1, h2⟩ := ins_len g t
    refine ⟨h1, fun e => ?_⟩
    have := h2 e
    exact ⟨by simp [ins, this], fun _ => this⟩
  · rename_i h
    exact ⟨Nat.le_refl _, fun _ => ⟨rfl, fun z => absurd z h⟩⟩
theorem passG_len : ∀ (l g : List Sta), g.length ≤ (passG step g l).length ∧ ((passG step g l).length = g.length → passG step g l = g ∧ ∀ t ∈ l, hit step g t = true → t ∈ g)
  | [], g => ⟨Nat.le_refl _, fun _ => ⟨rfl, fun t ht => (by cases ht)⟩⟩
  | t :: l, g => by
    obtain ⟨a1, a2⟩ := stepG_len (step := step) g t
    obtain ⟨b1, b2⟩ := passG_len l (if hit step g t then ins g t else g)
    simp only [passG]
    refine ⟨Nat.le_trans a1 b1, fun e => ?_⟩
    have e1 : (if hit step g t then ins g t else g).length = g.length := by omega
    obtain ⟨c1, c2⟩ := a2 e1
    rw [c1] at b2 e ⊢
    obtain ⟨d1, d2⟩ := b2 e
    refine ⟨d1, fun u hu hh => ?_⟩
    rcases List.mem_cons.mp hu with z | z
    · rw [z] at hh ⊢; exact c2 hh
    · exact d2 u z hh
/-- what holds of the good ones -/
structure Good (step : Sta → List Sta) (ks g : List Sta) : Prop where
  nd : g.Nodup
  sub : ∀ t ∈ g, t ∈ ks
  can : ∀ t ∈ g, Cend step t
  ends : ∀ t ∈ ks, step t = [] → t ∈ g
theorem Good.one {ks g : List Sta} (h : Good step ks g) {t : Sta} (ht : t ∈ ks) : Good step ks (if hit step g t then ins g t else g) := by
  split
  · rename_i hh
    obtain ⟨u, hu, hg⟩ := List.any_eq_true.mp hh
    have hg : u ∈ g := by simpa using hg
    refine ⟨ins_nodup h.nd, fun x hx => ?_, fun x hx => ?_, fun x hx e => ins_mem.mpr (.inr (h.ends x hx e))⟩
    · rcases ins_mem.mp hx with e | e
      · rw [e]; exact ht
      · exact h.sub x e
    · rcases ins_mem.mp hx with e | e
      · rw [e]; exact .go hu (h.can u hg)
      · exact h.can x e
  · exact h
theorem Good.pass {ks : List Sta} : ∀ {l g : List Sta}, Good step ks g → (∀ t ∈ l, t ∈ ks) → Good step ks (passG step g l)
  | [], g, h, _ => h
  | t :: l, g, h, hl => Good.pass (l := l) (g := if hit step g t then ins g t else g) (h.one (hl t List.mem_cons_self)) fun u hu => hl u (List.mem_cons_of_mem _ hu)
/-- closed: who has a good one ahead is good -/
def ClosedG (step : Sta → List Sta) (ks g : List Sta) : Prop := ∀ t ∈ ks, hit step g t = true → t ∈ g
theorem closed_all {k : Kn} (G : Gr step k) {g : List Sta} (h : Good step (ksOf k) g) (c : ClosedG step (ksOf k) g) {t : Sta} (hc : Cend step t) (ht : has k t = true) : t ∈ g := by
  induction hc with
  | fin e => exact h.ends _ (has_mem.mp ht) e
  | @go a b hb _ ih =>
    refine c _ (has_mem.mp ht) (List.any_eq_true.mpr ⟨b, hb, ?_⟩)
    simpa using ih (G.cl _ ht _ hb)
end
noncomputable def trapsL (S : So) : List Sta := by classical exact isortT eSta ((ksOf (metK S)).filter fun t => !decide (Cend (steps S) t))
theorem any_map' (xs : List Sta) (f : Sta → Bool) : bltD .any [.list (xs.map fun x => .bool (f x))] = some (.im, .bool (xs.any f)) := any_map f xs
abbrev trapB : List Sm := [.ite (.blt .any [.comp (.nm 5) .seq [.idx (.v 1) (.v 4)] (.cmp .isin (.v 5) (.v 2))]) [.put 2 (.v 4) (.c (.bool true))] []]
section
variable {P : Tb} (n : Nat) (Z : Endless P) {S : So} (ok : SoOk S) (ab : Ab S)
include Z ok ab
theorem trap_pass {g : List Sta} (hg : Good (steps S) (ksOf (metK S)) g) (x3 x4 : Option Slot) (hx4 : notOwn (some x4) = true) : ∃ y4, notOwn (some y4) = true ∧ trips (run P (n + 7)) (.nm 4) trapB ((ksOf (metK S)).map eSta) [some (false, eSo S), some (false, .dict (eKn (metK S))), some (true, .dict (eKb g)), x3, x4, none] =
    some (.nx [some (false, eSo S), some (false, .dict (eKn (metK S))), some (true, .dict (eKb (passG (steps S) g (ksOf (metK S))))), x3, y4, none]) := by
  have G := met_gr ok ab
  have kl := G.klen
  obtain ⟨ρ', h1, y4, hy4, h2⟩ := trips_at (F := run P (n + 7)) (t := .nm 4) (body := trapB) (enc := eSta) (ρ := [some (false, eSo S), some (false, .dict (eKn (metK S))), some (true, .dict (eKb g)), x3, x4, none])
    (fun d ρ => ∃ y4, notOwn (some y4) = true ∧ ρ = [some (false, eSo S), some (false, .dict (eKn (metK S))), some (true, .dict (eKb (passG (steps S) g d))), x3, y4, none]) (ksOf (metK S)) ⟨x4, hx4, rfl⟩ (fun d t r ρ e ⟨y4, _, hρ⟩ => by
      subst hρ
      have ht : t ∈ ksOf (metK S) := by rw [e]; simp
      have hd : Good (steps S) (ksOf (metK S)) (passG (steps S) g d) := hg.pass fun u hu => by rw [e]; exact List.mem_append_left _ hu
      have hdl : (passG (steps S) g d).length ≤ 96 := Nat.le_trans (nodup_le hd.nd hd.sub) kl
      rw [passG_app]
      generalize passG (steps S) g d = gd at hd hdl
      have tr : turns (run P (n + 7)) (.nm 5) none (.cmp .isin (.v 5) (.v 2)) [some (false, eSo S), some (false, .dict (eKn (metK S))), some (true, .dict (eKb gd)), x3, some (false, eSta t), none] ((steps S t).map eSta) = some ((steps S t).map fun u => .bool ((fun u => decide (u ∈ gd)) u)) :=
        turns_all (fun u => .bool ((fun u => decide (u ∈ gd)) u)) (fun u => [some (false, eSo S), some (false, .dict (eKn (metK S))), some (true, .dict (eKb gd)), x3, some (false, eSta t), some (false, eSta u)]) fun u hu => ⟨rfl, by simp_arith [in_eKv]⟩
      refine ⟨_, _, rfl, .inl ?_, some (false, eSta t), rfl, rfl⟩
      simp only [passG]
      have hh : (steps S t).any (fun u => decide (u ∈ gd)) = hit (steps S) gd t := rfl
      cases hc : hit (steps S) gd t with
      | true => simp_arith [G.idx (has_mem.mpr ht), items_lst, tr, hh, hc, put_eKb (show gd.length ≤ 10000 by omega)]
      | false => simp_arith [G.idx (has_mem.mpr ht), items_lst, tr, hh, hc])
  exact ⟨y4, hy4, by rw [h1, h2]⟩
theorem trap_loop : ∀ (M : Nat) (g : List Sta) (size : Int) (b : Bool) (x4 : Option Slot), notOwn (some x4) = true → Good (steps S) (ksOf (metK S)) g → size ≠ (g.length : Int) → (ksOf (metK S)).length - g.length + 1 ≤ M →
    ∃ g' y3 y4, notOwn (some y4) = true ∧ rounds (run P (n + 7)) (.cmp .ne (.v 3) (.blt .len [.v 2])) [.set (.nm 3) (.blt .len [.v 2]), .for_ (.nm 4) .seq [.v 1] trapB] (M + 1) [some (false, eSo S), some (b, .dict (eKn (metK S))), some (true, .dict (eKb g)), some (false, .int size), x4, none] =
      some (.nx [some (false, eSo S), some (false, .dict (eKn (metK S))), some (true, .dict (eKb g')), y3, y4, none]) ∧ Good (steps S) (ksOf (metK S)) g' ∧ ClosedG (steps S) (ksOf (metK S)) g' := by
  have G := met_gr ok ab
  have kl := G.klen
  intro M
  induction M with
  | zero => intro g size b x4 hx4 hg hs hm; omega
  | succ M ih =>
    intro g size b x4 hx4 hg hs hm
    have hgl : g.length ≤ (ksOf (metK S)).length := nodup_le hg.nd hg.sub
    have hln := len_eKv (l := g) (fun _ => .bool true) (by omega)
    obtain ⟨y4, hy4, hp⟩ := trap_pass n Z ok ab hg (some (false, .int (g.length : Int))) x4 hx4
    have dn : decide (size = (g.length : Int)) = false := by rw [decide_eq_false_iff_not]; exact hs
    have hc : boolOf (ev (run P (n + 7)) (.cmp .ne (.v 3) (.blt .len [.v 2])) [some (false, eSo S), some (b, .dict (eKn (metK S))), some (true, .dict (eKb g)), some (false, .int size), x4, none]) = some true := by simp_arith [hln, dn]
    have th : ∀ x3 : Option Slot, thaws [.v 1] [some (false, eSo S), some (b, .dict (eKn (metK S))), some (true, .dict (eKb g)), x3, x4, none] = [some (false, eSo S), some (false, .dict (eKn (metK S))), some (true, .dict (eKb g)), x3, x4, none] := fun x3 => by cases b <;> rfl
    rw [rounds_go hc (by simp_arith [hln, setE_im _ 3 (.blt _ _) _ _ rfl, th, forE, G.items, hp]; rfl)]
    have hg' := hg.pass (l := ksOf (metK S)) fun t ht => ht
    obtain ⟨l1, l2⟩ := passG_len (step := steps S) (ksOf (metK S)) g
    by_cases hle : (passG (steps S) g (ksOf (metK S))).length = g.length
    · obtain ⟨e1, e2⟩ := l2 hle
      rw [e1]
      refine ⟨g, _, y4, hy4, rounds_end ?_, hg, e2⟩
      have dd : decide ((g.length : Int) = (g.length : Int)) = true := by simp
      simp_arith [hln, dd]
    · have := nodup_le hg'.nd hg'.sub
      exact ih _ _ false y4 hy4 hg' (by omega) (by omega)
theorem good_ends : Good (steps S) (ksOf (metK S)) ((ksOf (metK S)).filter fun t => (steps S t).isEmpty) := by
  have G := met_gr ok ab
  refine ⟨G.nd.filter _, fun t ht => (List.mem_filter.mp ht).1, fun t ht => .fin ?_, fun t ht e => List.mem_filter.mpr ⟨ht, by simp [e]⟩⟩
  have := (List.mem_filter.mp ht).2
  simpa using this
theorem r_find_traps : run P (n + 8) 43 [eSo S] = some (true, .list ((trapsL S).map eSta)) := by
  rw [run_go Z.p43 _ _ rfl]
  show callE (exs _ K52.f_find_traps.body [some (false, eSo S), none, none, none, none, none]) = _
  unfold K52.f_find_traps
  have G := met_gr ok ab
  have kl := G.klen
  have ge := good_ends Z ok ab
  generalize hE : (ksOf (metK S)).filter (fun t => (steps S t).isEmpty) = E0 at ge
  have el : E0.length ≤ 96 := Nat.le_trans (nodup_le ge.nd ge.sub) kl
  have tr : turns (run P (n + 7)) (.nm 4) (some (.cmp .eq (.idx (.v 1) (.v 4)) (.lst []))) (.tup [.v 4, .c (.bool true)]) [some (false, eSo S), some (true, .dict (eKn (metK S))), none, none, none, none] ((ksOf (metK S)).map eSta) = some (E0.map fun t => .tuple [eSta t, .bool true]) := by
    rw [← hE]
    exact turns_if (fun t => (steps S t).isEmpty) (fun t => .tuple [eSta t, .bool true]) (fun t => [some (false, eSo S), some (true, .dict (eKn (metK S))), none, none, some (false, eSta t), none]) fun t ht => ⟨rfl, by simp_arith [G.idx (has_mem.mpr ht), eq_nil_Stas], fun _ => by simp_arith []⟩
  have hd := dict_eKv (fun _ => .bool true) ge.nd (by omega)
  obtain ⟨g', y3, y4, hy4, hr, hg, hcl⟩ := trap_loop n Z ok ab (WF - 1) E0 (-1) true none rfl ge (by omega) (by unfold WF; omega)
  have hwf : WF - 1 + 1 = WF := rfl
  rw [hwf] at hr
  have tr2 : turns (run P (n + 7)) (.nm 4) (some (.cmp .notin (.v 4) (.v 2))) (.v 4) [some (false, eSo S), some (false, .dict (eKn (metK S))), some (true, .dict (eKb g')), y3, y4, none] ((ksOf (metK S)).map eSta) = some (((ksOf (metK S)).filter fun t => !decide (t ∈ g')).map eSta) :=
    turns_if (fun t => !decide (t ∈ g')) eSta (fun t => [some (false, eSo S), some (false, .dict (eKn (metK S))), some (true, .dict (eKb g')), y3, some (false, eSta t), none]) fun t ht => ⟨rfl, by simp_arith [notin_eKv], fun _ => by simp_arith []⟩
  have hfl : ((ksOf (metK S)).filter fun t => !decide (t ∈ g')).length ≤ 1000 := by
    have := List.length_filter_le (fun t => !decide (t ∈ g')) (ksOf (metK S))
    omega
  have hfin : isortT eSta ((ksOf (metK S)).filter fun t => !decide (t ∈ g')) = trapsL S := by
    unfold trapsL
    congr 1
    refine List.filter_congr fun t ht => ?_
    have hk := has_mem.mpr ht
    by_cases h : t ∈ g'
    · have := hg.can t h
      simp [h, this]
    · have : ¬ Cend (steps S) t := fun z => h (closed_all G hg hcl z hk)
      simp [h, this]
  simp_arith [r_find_met' n Z.su ok ab Z.p18 Z.p19, setE_fr _ 1 (.call _ _) _ _ rfl, G.items, tr, hd, setE_fr _ 2 (.blt _ _) _ _ rfl, setE_im _ 3 (.c _) _ _ rfl, hr, hy4, tr2, sorted_Stas hfl, hfin]
theorem r_traps : run P (n + 9) 44 [eSo S] = some (true, .list ((trapsL S).map eSta)) := by
  rw [run_go Z.p44 _ _ rfl]
  show callE (exs _ K52.f_traps.body [some (false, eSo S)]) = _
  unfold K52.f_traps
  simp_arith [r_check_story Z.su.st.st n ok, r_find_traps n Z ok ab]
end
end Rk

/-! Rounds. -/
set_option autoImplicit false
set_option linter.all false
set_option maxRecDepth 100000
namespace Rk
open PySem PySem.W K60
local macro_rules
  | `(tactic| simp_arith [$hs,*]) => `(tactic| simp only [b_cons, b_nil, seqE_nx, seqE_rt, s_set, s_setT, s_par, s_exp, s_for, s_whl, s_ite, s_ret, s_retN, s_pass, s_cont, s_app, s_ext, s_pop, s_put, retE_im, retE_fr, expE_s, callE_rt, callE_nx,
  v_v, v_c, v_tup, v_lst, v_emp, v_bin, v_cmp, v_le2, v_and, v_or, v_not, v_ite, v_idx, v_from, v_upto, v_comp, v_compIf, v_call, v_blt, k_nil, k_cons, l_nil, l_cons, vE_im, vE_ow, op2_s, cm2_s, andE_t, andE_f, orE_t, orE_f, notE_s, iteE_t, iteE_f, consE_s, boolOf_s, keepOf_im, keepOf_fr, blE_s, cutE_t, cutE_f,
  caE_d, backOf_d, cpE_d, free_nm, free_tp, notOwn_n, notOwn_f, List.all_cons, List.all_nil, walk_seq, lent, List.any_cons, List.any_nil, reduceCtorEq, decide_false, decide_true, Bool.or_self, Bool.or_false, Bool.false_or, Bool.false_and, Bool.and_false, Bool.true_and, Bool.and_true, Bool.not_true, Bool.not_false, Bool.false_eq_true, if_false, if_true, ite_true, ite_false,
  List.getElem?_cons_zero, List.getElem?_cons_succ, List.set_cons_zero, List.set_cons_succ, Option.map_some, List.map_cons, List.map_nil, lt_int, gt_int, le_int, eq_int, ne_int, eq_str, ne_str, in_sg, notin_sg, len_tup, len_lst, isInt_int, isBool_int, isStr_str, sub_int, add_int, all_map, any_map, $hs,*])
theorem eq_Sta (a b : Sta) : cmpD .eq (eSta a) (eSta b) = some (decide (a = b)) := by
  have h1 : (eSta a).plain = true := rfl
  have h2 : (eSta b).plain = true := rfl
  have h3 : depOk (eSta a) (eSta b) = true := rfl
  show eqD (eSta a) (eSta b) = _
  simp only [eqD, h1, h2, h3, Bool.and_self, if_true, eqv_Sta]
theorem rounds_ret {F : FT0} {c : Ex} {body : List Sm} {M : Nat} {ρ : Env} {r : Bool × D} (hc : boolOf (ev F c ρ) = some true) (hb : exs F body ρ = some (.rt r)) : rounds F c body (M + 1) ρ = some (.rt r) := by
  unfold rounds
  rw [whlL, hc]
  simp only [hb]
theorem seqE_none (F : FT0) (ss : List Sm) : seqE F ss none = none := rfl
theorem apart_b (b : Bool) : apart (false, .bool b) = true := rfl
abbrev rndB : List Sm := [.pop 4 3, .ite (.cmp .eq (.v 4) (.v 1)) [.ret (.c (.bool true))] [], .ite (.cmp .notin (.v 4) (.v 2)) [.put 2 (.v 4) (.c (.bool true)), .ext 3 (.idx (.v 0) (.v 4))] []]
section
variable {P : Tb} {m : Nat} {step : Sta → List Sta} {k : Kn} (G : Gr step k) {t : Sta}
include G
theorem rnd_loop : ∀ (M : Nat) (kn last : List Sta) (x4 : Option Slot), kn.Nodup → (∀ q ∈ kn, q ∈ ksOf k) → (∀ u ∈ last, u ∈ ksOf k) → t ∉ kn → (∀ q ∈ kn, ∀ u ∈ step q, u ∈ kn ∨ u ∈ last) → last.length + 33 * ((ksOf k).length - kn.length) ≤ M → last.length + 33 * ((ksOf k).length - kn.length) ≤ 9000 →
    (rounds (run P m) (.cmp .ne (.v 3) (.lst [])) rndB (M + 1) [some (false, .dict (eKn k)), some (false, eSta t), some (true, .dict (eKb kn)), some (true, .list (last.map eSta)), x4] = some (.rt (false, .bool true)) ∧ ∃ a ∈ last, Rch step a t) ∨
    ∃ kn' y4, rounds (run P m) (.cmp .ne (.v 3) (.lst [])) rndB (M + 1) [some (false, .dict (eKn k)), some (false, eSta t), some (true, .dict (eKb kn)), some (true, .list (last.map eSta)), x4] = some (.nx [some (false, .dict (eKn k)), some (false, eSta t), some (true, .dict (eKb kn')), some (true, .list []), y4]) ∧ (∀ u ∈ last, u ∈ kn') ∧ (∀ u ∈ kn, u ∈ kn') ∧ (∀ q ∈ kn', ∀ u ∈ step q, u ∈ kn') ∧ t ∉ kn' := by
  intro M
  induction M with
  | zero =>
    intro kn last x4 nd sub las ht cl h1 h2
    have hl : last = [] := by cases last with
      | nil => rfl
      | cons _ _ => simp at h1
    subst hl
    have hz : cmpD .ne (.list ([] : List D)) (.list []) = some false := rfl
    exact .inr ⟨kn, x4, rounds_end (by simp_arith [List.map_nil, hz]), fun u hu => (by cases hu), fun u hu => hu, fun q hq u hu => (cl q hq u hu).elim id fun z => (by cases z), ht⟩
  | succ M ih =>
    intro kn last x4 nd sub las ht cl h1 h2
    cases hlast : last.getLast? with
    | none =>
      have hl : last = [] := by simpa using hlast
      subst hl
      have hz : cmpD .ne (.list ([] : List D)) (.list []) = some false := rfl
      exact .inr ⟨kn, x4, rounds_end (by simp_arith [List.map_nil, hz]), fun u hu => (by cases hu), fun u hu => hu, fun q hq u hu => (cl q hq u hu).elim id fun z => (by cases z), ht⟩
    | some o =>
      have hom : o ∈ last := List.mem_of_getLast? hlast
      have hoU := las o hom
      have hok : has k o = true := has_mem.mpr hoU
      have hne : last.isEmpty = false := by cases last with
        | nil => simp at hom
        | cons _ _ => rfl
      have hpos : 0 < last.length := List.length_pos_of_mem hom
      have hdl : last.dropLast.length = last.length - 1 := by simp
      have hg1 : (last.map eSta).getLast? = some (eSta o) := by rw [List.getLast?_map, hlast]; rfl
      have hg2 : (last.map eSta).dropLast = last.dropLast.map eSta := by rw [List.map_dropLast]
      have hlas : ∀ u ∈ last.dropLast, u ∈ ksOf k := fun u hu => las u (List.dropLast_subset last hu)
      have hsp : ∀ u ∈ last, u ∈ last.dropLast ∨ u = o := fun u hu => by
        have hne' : last ≠ [] := fun z => by rw [z] at hom; cases hom
        have e := List.dropLast_concat_getLast hne'
        have e2 : last.getLast hne' = o := by
          rw [List.getLast?_eq_some_getLast hne'] at hlast
          exact Option.some.inj hlast
        rw [← e, e2] at hu
        rcases List.mem_append.mp hu with z | z
        · exact .inl z
        · exact .inr (List.mem_singleton.mp z)
      have hc : boolOf (ev (run P m) (.cmp .ne (.v 3) (.lst [])) [some (false, .dict (eKn k)), some (false, eSta t), some (true, .dict (eKb kn)), some (true, .list (last.map eSta)), x4]) = some true := by simp_arith [ne_nil_lst, hne]
      have hpop : popE 4 3 [some (false, .dict (eKn k)), some (false, eSta t), some (true, .dict (eKb kn)), some (true, .list (last.map eSta)), x4] (some (some (true, .list (last.map eSta)))) = some (.nx [some (false, .dict (eKn k)), some (false, eSta t), some (true, .dict (eKb kn)), some (true, .list (last.dropLast.map eSta)), some (false, eSta o)]) := by
        simp only [popE, hg1, hg2]
        rfl
      have hkl : kn.length ≤ (ksOf k).length := nodup_le nd sub
      by_cases hot : o = t
      · refine .inl ⟨rounds_ret hc ?_, o, hom, by rw [hot]; exact .refl t⟩
        have dt : decide (o = t) = true := by simpa using hot
        simp_arith [hpop, eq_Sta, dt]
      · have df : decide (o = t) = false := by simpa using hot
        by_cases hh : o ∈ kn
        · have dk : decide (o ∈ kn) = true := by simpa using hh
          have cl' : ∀ q ∈ kn, ∀ u ∈ step q, u ∈ kn ∨ u ∈ last.dropLast := fun q hq u hu => by
            rcases cl q hq u hu with z | z
            · exact .inl z
            · rcases hsp u z with z | z
              · exact .inr z
              · exact .inl (by rw [z]; exact hh)
          rw [rounds_go hc (by simp_arith [hpop, eq_Sta, df, notin_eKv, dk]; rfl)]
          rcases ih kn last.dropLast (some (false, eSta o)) nd sub hlas ht cl' (by omega) (by omega) with ⟨a1, a, a2, a3⟩ | ⟨kn', y4, b1, b2, b3, b4, b5⟩
          · exact .inl ⟨a1, a, List.dropLast_subset last a2, a3⟩
          · refine .inr ⟨kn', y4, b1, fun u hu => ?_, b3, b4, b5⟩
            rcases hsp u hu with z | z
            · exact b2 u z
            · rw [z]; exact b3 o hh
        · have dk : decide (o ∈ kn) = false := by simpa using hh
          have hins : ins kn o = kn ++ [o] := by simp [ins, hh]
          have nd' : (ins kn o).Nodup := ins_nodup nd
          have sub' : ∀ q ∈ ins kn o, q ∈ ksOf k := fun q hq => by
            rcases ins_mem.mp hq with z | z
            · rw [z]; exact hoU
            · exact sub q z
          have las' : ∀ u ∈ last.dropLast ++ step o, u ∈ ksOf k := fun u hu => by
            rcases List.mem_append.mp hu with z | z
            · exact hlas u z
            · exact has_mem.mp (G.cl o hok u z)
          have ht' : t ∉ ins kn o := fun z => by
            rcases ins_mem.mp z with y | y
            · exact hot y.symm
            · exact ht y
          have cl' : ∀ q ∈ ins kn o, ∀ u ∈ step q, u ∈ ins kn o ∨ u ∈ last.dropLast ++ step o := fun q hq u hu => by
            rcases ins_mem.mp hq with z | z
            · rw [z] at hu; exact .inr (List.mem_append_right _ hu)
            · rcases cl q z u hu with y | y
              · exact .inl (ins_mem.mpr (.inr y))
              · rcases hsp u y with y | y
                · exact .inr (List.mem_append_left _ y)
                · exact .inl (ins_mem.mpr (.inl y))
          have hil : (ins kn o).length = kn.length + 1 := by rw [hins]; simp
          have hil2 : (ins kn o).length ≤ (ksOf k).length := nodup_le nd' sub'
          have hst := G.few o hok
          have hm : (last.dropLast ++ step o).length + 33 * ((ksOf k).length - (ins kn o).length) < last.length + 33 * ((ksOf k).length - kn.length) := by
            simp only [List.length_append, hdl]
            omega
          have hkl96 := G.klen
          have hext : (last.dropLast.map eSta).length + ((step o).map eSta).length ≤ 10000 := by simp only [List.length_map, hdl]; omega
          rw [rounds_go hc (by simp_arith [hpop, eq_Sta, df, notin_eKv, dk, put_eKb (show kn.length ≤ 10000 by omega), G.idx hok, extE_s hext]; rfl)]
          have ih' := ih (ins kn o) (last.dropLast ++ step o) (some (false, eSta o)) nd' sub' las' ht' cl' (by omega) (by omega)
          rw [List.map_append] at ih'
          rcases ih' with ⟨a1, a, a2, a3⟩ | ⟨kn', y4, b1, b2, b3, b4, b5⟩
          · refine .inl ⟨a1, ?_⟩
            rcases List.mem_append.mp a2 with z | z
            · exact ⟨a, List.dropLast_subset last z, a3⟩
            · exact ⟨o, hom, a3.head z⟩
          · refine .inr ⟨kn', y4, b1, fun u hu => ?_, fun u hu => b3 u (ins_mem.mpr (.inr hu)), b4, b5⟩
            rcases hsp u hu with z | z
            · exact b2 u (List.mem_append_left _ z)
            · rw [z]; exact b3 o (ins_mem.mpr (.inl rfl))
theorem r_is_round (n : Nat) (h45 : P 45 = some K52.f_is_round) (ht : has k t = true) : ∃ b : Bool, (b = true ↔ Rnd step t) ∧ run P (n + 1) 45 [.dict (eKn k), eSta t] = some (false, .bool b) := by
  have hli : bltD .list [.list ((step t).map eSta)] = some (.fr, .list ((step t).map eSta)) := rfl
  have hpar : parE [2, 3] [some (false, .dict (eKn k)), some (false, eSta t), none, none, none] (some [(.fr, .dict []), (.fr, .list ((step t).map eSta))]) = some (.nx [some (false, .dict (eKn k)), some (false, eSta t), some (true, .dict (eKb [])), some (true, .list ((step t).map eSta)), none]) := rfl
  have hwf : WF = (WF - 1) + 1 := rfl
  have kl := G.klen
  have fw := G.few t ht
  rcases rnd_loop (P := P) (m := n) G (t := t) (WF - 1) [] (step t) none (by simp) (fun q hq => (by cases hq)) (fun u hu => has_mem.mp (G.cl t ht u hu)) (by simp) (fun q hq => (by cases hq)) (by unfold WF; simp only [List.length_nil]; omega) (by simp only [List.length_nil]; omega) with ⟨a1, a, a2, a3⟩ | ⟨kn', y4, b1, b2, b3, b4, b5⟩
  · refine ⟨true, ⟨fun _ => ⟨a, a2, a3⟩, fun _ => rfl⟩, ?_⟩
    rw [run_go h45 _ _ rfl]
    show callE (exs _ K52.f_is_round.body [some (false, .dict (eKn k)), some (false, eSta t), none, none, none]) = _
    unfold K52.f_is_round
    rw [hwf.symm] at a1
    simp_arith [G.idx ht, hli, hpar, a1]
  · refine ⟨false, ⟨fun h => (by cases h), fun ⟨a, h1, h2⟩ => ?_⟩, ?_⟩
    · have : ∀ x, Rch step a x → x ∈ kn' := fun x hx => by
        induction hx with
        | refl => exact b2 a h1
        | tail _ q ih => exact b4 _ ih _ q
      exact absurd (this t h2) b5
    · rw [run_go h45 _ _ rfl]
      show callE (exs _ K52.f_is_round.body [some (false, .dict (eKn k)), some (false, eSta t), none, none, none]) = _
      unfold K52.f_is_round
      rw [hwf.symm] at b1
      simp_arith [G.idx ht, hli, hpar, b1]
end
open Classical in
noncomputable def roundsL (S : So) : List Sta := isortT eSta ((ksOf (metK S)).filter fun t => decide (Rnd (steps S) t))
section
variable {P : Tb} (n : Nat) (Z : Endless P) {S : So} (ok : SoOk S) (ab : Ab S)
include Z ok ab
open Classical in
theorem r_find_rounds : run P (n + 8) 46 [eSo S] = some (true, .list ((roundsL S).map eSta)) := by
  rw [run_go Z.p46 _ _ rfl]
  show callE (exs _ K52.f_find_rounds.body [some (false, eSo S), none, none]) = _
  unfold K52.f_find_rounds
  have G := met_gr ok ab
  have kl := G.klen
  have tr : turns (run P (n + 7)) (.nm 2) (some (.call 45 [.v 1, .v 2])) (.v 2) [some (false, eSo S), some (true, .dict (eKn (metK S))), none] ((ksOf (metK S)).map eSta) = some (((ksOf (metK S)).filter fun t => decide (Rnd (steps S) t)).map eSta) :=
    turns_if (fun t => decide (Rnd (steps S) t)) eSta (fun t => [some (false, eSo S), some (true, .dict (eKn (metK S))), some (false, eSta t)]) fun t ht => ⟨rfl, by
      obtain ⟨b, hb, hr⟩ := r_is_round (P := P) G (n + 6) Z.p45 (has_mem.mpr ht)
      have e : decide (Rnd (steps S) t) = b := by
        cases b with
        | true => simpa using hb.mp rfl
        | false =>
          have : ¬ Rnd (steps S) t := fun z => by have := hb.mpr z; cases this
          simpa using this
      rw [e]
      simp_arith [hr, apart_b], fun _ => by simp_arith []⟩
  have hfl : ((ksOf (metK S)).filter fun t => decide (Rnd (steps S) t)).length ≤ 1000 := by
    have := List.length_filter_le (fun t => decide (Rnd (steps S) t)) (ksOf (metK S))
    omega
  simp_arith [r_find_met' n Z.su ok ab Z.p18 Z.p19, setE_fr _ 1 (.call _ _) _ _ rfl, G.items, tr, sorted_Stas hfl]
  rfl
theorem r_rounds : run P (n + 9) 47 [eSo S] = some (true, .list ((roundsL S).map eSta)) := by
  rw [run_go Z.p47 _ _ rfl]
  show callE (exs _ K52.f_rounds.body [some (false, eSo S)]) = _
  unfold K52.f_rounds
  simp_arith [r_check_story Z.su.st.st n ok, r_find_rounds n Z ok ab]
end
end Rk

/-! _law_pick. -/
set_option autoImplicit false
set_option linter.all false
set_option maxRecDepth 100000
namespace Rk
open PySem PySem.W K60
local macro_rules
  | `(tactic| simp_arith [$hs,*]) => `(tactic| simp only [b_cons, b_nil, seqE_nx, seqE_rt, s_set, s_setT, s_par, s_exp, s_for, s_whl, s_ite, s_ret, s_retN, s_pass, s_cont, s_app, s_ext, s_pop, s_put, retE_im, retE_fr, expE_s, callE_rt, callE_nx,
  v_v, v_c, v_tup, v_lst, v_emp, v_bin, v_cmp, v_le2, v_and, v_or, v_not, v_ite, v_idx, v_from, v_upto, v_comp, v_compIf, v_call, v_blt, k_nil, k_cons, l_nil, l_cons, vE_im, vE_ow, op2_s, cm2_s, andE_t, andE_f, orE_t, orE_f, notE_s, iteE_t, iteE_f, consE_s, boolOf_s, keepOf_im, keepOf_fr, blE_s, cutE_t, cutE_f,
  caE_d, backOf_d, cpE_d, free_nm, free_tp, notOwn_n, notOwn_f, List.all_cons, List.all_nil, walk_seq, lent, List.any_cons, List.any_nil, reduceCtorEq, decide_false, decide_true, Bool.or_self, Bool.or_false, Bool.false_or, Bool.false_and, Bool.and_false, Bool.true_and, Bool.and_true, Bool.not_true, Bool.not_false, Bool.false_eq_true, if_false, if_true, ite_true, ite_false,
  List.getElem?_cons_zero, List.getElem?_cons_succ, List.set_cons_zero, List.set_cons_succ, Option.map_some, List.map_cons, List.map_nil, lt_int, gt_int, le_int, eq_int, ne_int, eq_str, ne_str, in_sg, notin_sg, len_tup, len_lst, isInt_int, isBool_int, isStr_str, sub_int, add_int, all_map, any_map, $hs,*])
theorem big1000 : (1000 : Int) < 2 ^ 1000 := by decide +kernel
theorem ten18 : (1000000000000000000 : Int) < 2 ^ 1000 := by decide +kernel
theorem c31 : (31 : Int) < 2 ^ 1000 := by decide +kernel
theorem c840 : (840 : Int) < 2 ^ 1000 := by decide +kernel
theorem pow_ten : binD .pow (.int 10) (.int 18) = some (.im, .int 1000000000000000000) := by
  simp [binD]
theorem fdiv_c (a : Int) {j : Int} (h : 0 < j) (h2 : j < 2 ^ 1000) : binD .fdiv (.int a) (.int j) = some (.im, .int (a / j)) := by simp [binD, h, h2]
theorem mod_c (a : Int) {j : Int} (h : 0 < j) : binD .mod (.int a) (.int j) = some (.im, .int (a % j)) := by simp [binD, h]
theorem mul_r (a : Int) {j : Int} (h : j.natAbs < 2 ^ 64) : binD .mul (.int a) (.int j) = some (.im, .int (a * j)) := by
  simp only [binD, h, decide_true, Bool.true_or, if_true]
theorem mul_l {a : Int} (j : Int) (h : a.natAbs < 2 ^ 64) : binD .mul (.int a) (.int j) = some (.im, .int (a * j)) := by
  simp only [binD, h, decide_true, Bool.or_true, if_true]
theorem int_ev (a : Int) : bltD .int [.int a] = some (.im, .int a) := rfl
theorem pick_rounds {s kk many cell : D} : ∀ (a : Nat) (rest : Int) (M : Nat), a ≤ M → ∃ rest' again' : Int, ∀ F : FT0, rounds F (.and (.cmp .gt (.v 5) (.c (.int 0))) (.cmp .gt (.v 6) (.c (.int 0)))) [.par [5, 6] [.bin .fdiv (.v 5) (.c (.int 840)), .bin .sub (.v 6) (.c (.int 1))]] (M + 1) [some (false, s), some (false, kk), some (false, many), some (false, cell), none, some (false, .int rest), some (false, .int (a : Int))] = some (.nx [some (false, s), some (false, kk), some (false, many), some (false, cell), none, some (false, .int rest'), some (false, .int again')]) := by
  intro a
  induction a with
  | zero =>
    intro rest M h
    refine ⟨rest, ((0 : Nat) : Int), fun F => rounds_end ?_⟩
    have h0 : decide ((0 : Int) < ((0 : Nat) : Int)) = false := by decide
    cases hr : decide ((0 : Int) < rest) <;> simp_arith [hr, h0]
  | succ a ih =>
    intro rest M h
    cases hr : decide ((0 : Int) < rest) with
    | false => exact ⟨rest, ((a + 1 : Nat) : Int), fun F => rounds_end (by simp_arith [hr])⟩
    | true =>
      have h0 : decide ((0 : Int) < ((a + 1 : Nat) : Int)) = true := by rw [decide_eq_true_eq]; omega
      cases M with
      | zero => omega
      | succ M =>
        obtain ⟨r', a', e⟩ := ih (rest / 840) M (by omega)
        refine ⟨r', a', fun F => ?_⟩
        have hp : parE [5, 6] [some (false, s), some (false, kk), some (false, many), some (false, cell), none, some (false, .int rest), some (false, .int ((a + 1 : Nat) : Int))] (some [(.im, .int (rest / 840)), (.im, .int (((a + 1 : Nat) : Int) - 1))]) = some (.nx [some (false, s), some (false, kk), some (false, many), some (false, cell), none, some (false, .int (rest / 840)), some (false, .int (a : Int))]) := by
          have : ((a + 1 : Nat) : Int) - 1 = (a : Int) := by omega
          rw [this]; rfl
        rw [rounds_go (by simp_arith [hr, h0]) (by simp_arith [fdiv_c rest (show (0 : Int) < 840 by decide) c840, hp]; rfl)]
        exact e F
theorem r_pick {P : Tb} (h : P 34 = some f__law_pick) (ns : List Int) (hn : ns.length ≤ 1000) (k many : Nat) (hk : k ≤ 100000) (hm : 1 ≤ many) : ∃ v, v < many ∧ ∀ n, run P (n + 1) 34 [.list (ns.map .int), .int k, .int many] = some (false, .int (v : Int)) := by
  -- the cell
  obtain ⟨cell, hcell⟩ : ∃ cell : Int, ∀ (F : FT0), ev F (.ite (.cmp .ne (.v 0) (.lst [])) (.idx (.v 0) (.bin .mod (.blt .int [.v 1]) (.blt .len [.v 0]))) (.c (.int 0))) [some (false, .list (ns.map .int)), some (false, .int k), some (false, .int many), none, none, none, none] = some (.im, .int cell) := by
    by_cases he : ns = []
    · subst he
      refine ⟨0, fun F => ?_⟩
      have hz : cmpD .ne (.list ([] : List D)) (.list []) = some false := rfl
      simp_arith [hz]
    · have hl : 0 < ns.length := by cases ns with
        | nil => exact absurd rfl he
        | cons _ _ => simp
      have hpl : PyData.plainAll (ns.map PyData.int) = true := plainAll_map fun x _ => rfl
      have hne : cmpD .ne (.list (ns.map PyData.int)) (.list []) = some true := by
        rw [ne_nil hpl]
        cases ns with
        | nil => exact absurd rfl he
        | cons _ _ => rfl
      obtain ⟨c, hc⟩ : ∃ c, ns[k % ns.length]? = some c := ⟨_, List.getElem?_eq_getElem (Nat.mod_lt _ hl)⟩
      have hlen : bltD .len [.list (ns.map PyData.int)] = some (.im, .int (ns.length : Int)) := by rw [len_lst, List.length_map]
      have hmod : binD .mod (.int (k : Int)) (.int (ns.length : Int)) = some (.im, .int ((k % ns.length : Nat) : Int)) := by
        rw [mod_c _ (by omega)]
        simp
      have hix : idxD (.list (ns.map PyData.int)) (.int ((k % ns.length : Nat) : Int)) = some (.im, .int c) := ix_lst (by rw [List.getElem?_map, hc]; rfl)
      refine ⟨c, fun F => ?_⟩
      generalize ns.map PyData.int = ds at hne hlen hix
      simp_arith [hne, hlen, int_ev, hmod, hix]
  have hlen : bltD .len [.list (ns.map PyData.int)] = some (.im, .int (ns.length : Int)) := by rw [len_lst, List.length_map]
  obtain ⟨m, hm1, hm2, hmax⟩ : ∃ m : Nat, 1 ≤ m ∧ m ≤ 1000 ∧ bltD .max2 [.int (ns.length : Int), .int 1] = some (.im, .int (m : Int)) := by
    by_cases h0 : ns.length = 0
    · exact ⟨1, by omega, by omega, by simp [bltD, h0]⟩
    · exact ⟨ns.length, by omega, hn, by
        have : ¬ ((1 : Int) > (ns.length : Int)) := by omega
        simp [bltD, this]⟩
  have hdiv : ∀ a : Int, binD .fdiv (.int a) (.int (m : Int)) = some (.im, .int (a / (m : Int))) := fun a => fdiv_c a (by omega) (Int.lt_of_le_of_lt (show (m : Int) ≤ 1000 by omega) big1000)
  have hkm : ((k : Int) / (m : Int)) = ((k / m : Nat) : Int) := by simp
  obtain ⟨rest', again', hr⟩ := pick_rounds (s := .list (ns.map .int)) (kk := .int k) (many := .int many) (cell := .int cell) (k / m) (cell / 1000000000000000000) (WF - 1) (by have : k / m ≤ k := Nat.div_le_self k m; simp [WF]; omega)
  have hwf : WF - 1 + 1 = WF := rfl
  rw [hwf] at hr
  have hmany : (0 : Int) < (many : Int) := by omega
  have tonat : ∀ z : Int, ∃ v : Nat, v < many ∧ z % (many : Int) = (v : Int) := fun z => ⟨(z % (many : Int)).toNat, by
    have h1 := Int.emod_nonneg z (show (many : Int) ≠ 0 by omega)
    have h2 := Int.emod_lt_of_pos z hmany
    omega, by
    have h1 := Int.emod_nonneg z (show (many : Int) ≠ 0 by omega)
    omega⟩
  have hpar : ∀ F : FT0, exs F f__law_pick.body [some (false, .list (ns.map .int)), some (false, .int k), some (false, .int many), none, none, none, none] = exs F (f__law_pick.body.drop 3) [some (false, .list (ns.map .int)), some (false, .int k), some (false, .int many), some (false, .int cell), none, some (false, .int rest'), some (false, .int again')] := fun F => by
    have hp : parE [5, 6] [some (false, .list (ns.map .int)), some (false, .int k), some (false, .int many), some (false, .int cell), none, none, none] (some [(.im, .int (cell / 1000000000000000000)), (.im, .int ((k / m : Nat) : Int))]) = some (.nx [some (false, .list (ns.map .int)), some (false, .int k), some (false, .int many), some (false, .int cell), none, some (false, .int (cell / 1000000000000000000)), some (false, .int ((k / m : Nat) : Int))]) := rfl
    show exs F (_ :: _ :: _ :: f__law_pick.body.drop 3) _ = _
    rw [b_cons, s_set, hcell F, setE_im _ _ _ _ _ rfl, seqE_nx]
    rw [b_cons, s_par]
    simp only [List.set_cons_zero, List.set_cons_succ]
    have hl : evL F [.bin .fdiv (.v 3) (.bin .pow (.c (.int 10)) (.c (.int 18))), .bin .fdiv (.v 1) (.blt .max2 [.blt .len [.v 0], .c (.int 1)])] [some (false, .list (ns.map .int)), some (false, .int k), some (false, .int many), some (false, .int cell), none, none, none] = some [(.im, .int (cell / 1000000000000000000)), (.im, .int ((k / m : Nat) : Int))] := by
      generalize ns.map PyData.int = ds at hlen
      simp_arith [pow_ten, fdiv_c cell (show (0 : Int) < 1000000000000000000 by decide) ten18, hlen, hmax, hdiv, hkm]
    rw [hl, hp, seqE_nx, b_cons, s_whl, hr F, seqE_nx]
  cases hpos : decide ((0 : Int) < rest') with
  | true =>
    obtain ⟨v, h1, h2⟩ := tonat (rest' % 840)
    refine ⟨v, h1, fun n => ?_⟩
    rw [run_go h _ _ rfl]
    show callE (exs _ f__law_pick.body [some (false, .list (ns.map .int)), some (false, .int k), some (false, .int many), none, none, none, none]) = _
    rw [hpar]
    unfold f__law_pick
    simp only [List.drop_succ_cons, List.drop_zero]
    generalize ns.map PyData.int = ds
    simp_arith [hpos, int_ev, mod_c rest' (show (0 : Int) < 840 by decide), mod_c _ hmany, h2]
  | false =>
    generalize hd : ((cell * 31 + 6151 * ((k : Int) + 1)) * 40692) % 2147483399 = drawn
    have hd1 : 0 ≤ drawn ∧ drawn < 2147483399 := by
      rw [← hd]
      exact ⟨Int.emod_nonneg _ (by decide), Int.emod_lt_of_pos _ (by decide)⟩
    obtain ⟨v, h1, h2⟩ := tonat ((drawn * drawn + drawn / 31) % 2147483629)
    refine ⟨v, h1, fun n => ?_⟩
    rw [run_go h _ _ rfl]
    show callE (exs _ f__law_pick.body [some (false, .list (ns.map .int)), some (false, .int k), some (false, .int many), none, none, none, none]) = _
    rw [hpar]
    unfold f__law_pick
    simp only [List.drop_succ_cons, List.drop_zero]
    generalize ns.map PyData.int = ds
    simp_arith [hpos, int_ev, mul_r cell (show (31 : Int).natAbs < 2 ^ 64 by decide), mul_l (a := 6151) ((k : Int) + 1) (by decide), mul_r (cell * 31 + 6151 * ((k : Int) + 1)) (show (40692 : Int).natAbs < 2 ^ 64 by decide), mod_c _ (show (0 : Int) < 2147483399 by decide), setE_im _ 4 (.bin _ _ _) _ _ rfl, hd, mul_r drawn (show drawn.natAbs < 2 ^ 64 by omega), fdiv_c drawn (show (0 : Int) < 31 by decide) c31, mod_c _ (show (0 : Int) < 2147483629 by decide), mod_c _ hmany, h2]
end Rk

/-! Drawn options and stories. -/
set_option autoImplicit false
set_option linter.all false
set_option maxRecDepth 100000
namespace Rk
open PySem PySem.W K60
def m0 : Mk := ⟨false, false, false, false⟩
def mA : Mk := ⟨true, false, false, false⟩
def mB : Mk := ⟨false, true, false, false⟩
def mAB : Mk := ⟨true, true, false, false⟩
theorem s_e : ("" : Str) = m0.s := by decide +kernel
theorem s_a : ("a" : Str) = mA.s := by decide +kernel
theorem s_b : ("b" : Str) = mB.s := by decide +kernel
theorem s_ab : ("ab" : Str) = mAB.s := by decide +kernel
def abMk (v : Int) : Mk := if v = 2 then mA else if v = 3 then mB else m0
def stMk (v : Int) : Mk := if v = 1 then mA else if v = 2 then mB else if v = 3 then mAB else m0
theorem four {v : Int} (h0 : 0 ≤ v) (h : v < 4) : v = 0 ∨ v = 1 ∨ v = 2 ∨ v = 3 := by omega
theorem ab_idx {v : Int} (h0 : 0 ≤ v) (h : v < 4) : idxD (.tuple [.str "", .str "", .str "a", .str "b"]) (.int v) = some (.im, .str (abMk v).s) := by
  rw [s_e, s_a, s_b]
  rcases four h0 h with e | e | e | e <;> subst e
  · exact ix_tup (i := 0) rfl
  · exact ix_tup (i := 1) rfl
  · exact ix_tup (i := 2) rfl
  · exact ix_tup (i := 3) rfl
theorem st_idx {v : Int} (h0 : 0 ≤ v) (h : v < 4) : idxD (.tuple [.str "", .str "a", .str "b", .str "ab"]) (.int v) = some (.im, .str (stMk v).s) := by
  rw [s_e, s_a, s_b, s_ab]
  rcases four h0 h with e | e | e | e <;> subst e
  · exact ix_tup (i := 0) rfl
  · exact ix_tup (i := 1) rfl
  · exact ix_tup (i := 2) rfl
  · exact ix_tup (i := 3) rfl
/-- of '', a, b -/
def AbM (m : Mk) : Prop := m = m0 ∨ m = mA ∨ m = mB
theorem abM (v : Int) : AbM (abMk v) := by
  unfold abMk
  split
  · exact .inr (.inl rfl)
  · split
    · exact .inr (.inr rfl)
    · exact .inl rfl
def other (m m' : Mk) : Mk := if m' = m then m0 else m'
theorem other_ap {m m' : Mk} (h : AbM m) (h' : AbM m') : m.apart (other m m') = true := by
  rcases h with h | h | h <;> rcases h' with h' | h' | h' <;> subst h <;> subst h' <;> decide
theorem other_ab {m m' : Mk} (h' : AbM m') : AbM (other m m') := by
  unfold other
  split
  · exact .inl rfl
  · exact h'
theorem AbM.cd {m : Mk} (h : AbM m) : m.c = false ∧ m.d = false := by rcases h with h | h | h <;> subst h <;> exact ⟨rfl, rfl⟩
/-- strictly sorted -/
theorem sset_rising {α : Type} {enc : α → D} (hi : Inj enc) (hk : ∀ a, keyIn (enc a) = true) (ha : ∀ a b, alike (enc a) (enc b) = true) (hl : ∀ a b, ltOk (enc a) (enc b) = true) (l : List α) : Rising ((sset enc l).map enc) := by
  have hs : ((sset enc l).map enc).Pairwise (fun a b => leD a b = true) := by
    unfold sset
    rw [← isort_map]
    exact isort_sorted _
  have nd : (sset enc l).Nodup := by
    unfold sset
    have pm : (isortT enc (dedupT enc l)).Perm (dedupT enc l) := by
      clear hs
      generalize dedupT enc l = r
      induction r with
      | nil => exact .refl _
      | cons x r ih =>
        have ins : ∀ (x : α) (l : List α), (insT enc x l).Perm (x :: l) := by
          intro x l
          induction l with
          | nil => exact .refl _
          | cons y l ih =>
            simp only [insT]
            split
            · exact (ih.cons y).trans (List.Perm.swap ..)
            · exact .refl _
        exact (ins x _).trans (ih.cons x)
    exact pm.nodup_iff.mpr (dedupT_nodup enc hi l)
  generalize sset enc l = xs at hs nd
  have go : ∀ xs : List α, (xs.map enc).Pairwise (fun a b => leD a b = true) → xs.Nodup → (xs.map enc).Pairwise (fun a b => cmpD .lt a b = some true) := by
    intro xs
    induction xs with
    | nil => intro _ _; exact .nil
    | cons x xs ih =>
      intro h1 h2
      rw [List.map_cons, List.pairwise_cons] at h1 ⊢
      obtain ⟨n1, n2⟩ := List.nodup_cons.mp h2
      refine ⟨fun d hd => ?_, ih h1.2 n2⟩
      obtain ⟨y, hy, rfl⟩ := List.mem_map.mp hd
      have hle := h1.1 _ hd
      have hlt : dataLt (enc x) (enc y) = true := by
        cases e : dataLt (enc x) (enc y) with
        | true => rfl
        | false =>
          have e2 : leD (enc y) (enc x) = true := by rw [leD_eq, e]; rfl
          have := leD_anti (hk x) (hk y) (ha x y) hle e2
          have hxy : x = y := (hi x y).mp (by rw [this]; exact (hi y y).mpr rfl)
          exact absurd (by rw [hxy]; exact hy) n1
      simp only [cmpD, hl, if_true, hlt]
  have hp := go xs hs nd
  generalize xs.map enc = ds at hp
  clear hs nd
  unfold Rising
  induction ds with
  | nil => intro p hp'; simp at hp'
  | cons a ds ih =>
    intro p hp'
    rw [List.pairwise_cons] at hp
    cases ds with
    | nil => simp at hp'
    | cons b r =>
      simp only [List.drop_succ_cons, List.drop_zero, List.zip_cons_cons, List.mem_cons] at hp'
      rcases hp' with e | e
      · rw [e]; exact hp.1 b List.mem_cons_self
      · exact ih hp.2 p (by simpa using e)
theorem inj_Ou : Inj eOu := fun a b => by
  obtain ⟨a1, a2, a3⟩ := a
  obtain ⟨b1, b2, b3⟩ := b
  simp only [eOu, PyData.eqv, PyData.eqvAll, Bool.and_true, Bool.and_eq_true, beq_iff_eq, Ou.mk.injEq]
  constructor
  · rintro ⟨h1, h2, h3⟩
    exact ⟨by omega, Mk.inj h2, Mk.inj h3⟩
  · rintro ⟨h1, h2, h3⟩
    exact ⟨by omega, by rw [h2], by rw [h3]⟩
theorem sset_Ou {xs : List Ou} (hl : xs.length < 63) : bltD .sortedSet [.list (xs.map eOu)] = some (.fr, .list ((sset eOu xs).map eOu)) := by
  refine sortedSet_ev eOu ?_ ?_ (few_of _ hl)
  · simp only [sortable, Bool.and_eq_true]
    refine ⟨⟨⟨⟨all_map' fun x => all_map' fun y => rfl, by rw [all_map' (p := hdOk) fun x => rfl]; rfl⟩, all_map' fun x => rfl⟩, by simp [fitsN]; omega⟩, plainAll_map fun x _ => rfl⟩
  · simp only [setOk, Bool.or_eq_true]
    exact .inl (.inl (all_map' fun x => rfl))
theorem ris_Ou (l : List Ou) : Rising ((sset eOu l).map eOu) := sset_rising inj_Ou (fun _ => rfl) (fun _ _ => rfl) (fun _ _ => rfl) l
theorem ris_S (l : List Str) : Rising ((sset eS l).map eS) := sset_rising inj_S (fun _ => rfl) (fun _ _ => rfl) (fun _ _ => rfl) l
theorem inj_M : Inj eM := fun a b => by
  simp only [eM, PyData.eqv, beq_iff_eq]
  exact ⟨fun h => Mk.inj h, fun h => by rw [h]⟩
theorem sset_M {xs : List Mk} (hl : xs.length < 63) : bltD .sortedSet [.list (xs.map eM)] = some (.fr, .list ((sset eM xs).map eM)) := by
  refine sortedSet_ev eM ?_ ?_ (few_of _ hl)
  · simp only [sortable, Bool.and_eq_true]
    refine ⟨⟨⟨⟨all_map' fun x => all_map' fun y => rfl, by rw [all_map' (p := notNT) fun x => rfl]; simp⟩, all_map' fun x => rfl⟩, by simp [fitsN]; omega⟩, plainAll_map fun x _ => rfl⟩
  · simp only [setOk, Bool.or_eq_true]
    exact .inl (.inr (all_map' fun x => rfl))
theorem ris_M (l : List Mk) : Rising ((sset eM l).map eM) := sset_rising inj_M (fun _ => rfl) (fun _ _ => rfl) (fun _ _ => rfl) l
theorem sset_pos {α : Type} {enc : α → D} (hi : Inj enc) {l : List α} (h : 1 ≤ l.length) : 1 ≤ (sset enc l).length := by
  cases l with
  | nil => simp at h
  | cons x l =>
    have : x ∈ sset enc (x :: l) := (sset_mem enc hi).mpr List.mem_cons_self
    exact List.length_pos_of_mem this
/-- the draws -/
structure Pk (P : Tb) (ns : List Int) (pk : Int → Int → Int) : Prop where
  ge : ∀ z q, 0 ≤ z → z ≤ 100000 → 1 ≤ q → q ≤ 1000 → 0 ≤ pk z q
  lt : ∀ z q, 0 ≤ z → z ≤ 100000 → 1 ≤ q → q ≤ 1000 → pk z q < q
  run : ∀ z q, 0 ≤ z → z ≤ 100000 → 1 ≤ q → q ≤ 1000 → ∀ n, Rk.run P (n + 1) 34 [.list (ns.map .int), .int z, .int q] = some (false, .int (pk z q))
theorem pk_ex {P : Tb} (h : P 34 = some f__law_pick) (ns : List Int) (hn : ns.length ≤ 1000) : ∃ pk, Pk P ns pk := by
  have hex : ∀ z q : Int, 0 ≤ z → z ≤ 100000 → 1 ≤ q → q ≤ 1000 → ∃ v : Int, 0 ≤ v ∧ v < q ∧ ∀ n, run P (n + 1) 34 [.list (ns.map .int), .int z, .int q] = some (false, .int v) := fun z q h1 h2 h3 h4 => by
    obtain ⟨v, a1, a2⟩ := r_pick h ns hn z.toNat q.toNat (by omega) (by omega)
    have e1 : ((z.toNat : Nat) : Int) = z := by omega
    have e2 : ((q.toNat : Nat) : Int) = q := by omega
    rw [e1, e2] at a2
    exact ⟨(v : Int), by omega, by omega, a2⟩
  classical
  refine ⟨fun z q => if hh : 0 ≤ z ∧ z ≤ 100000 ∧ 1 ≤ q ∧ q ≤ 1000 then Classical.choose (hex z q hh.1 hh.2.1 hh.2.2.1 hh.2.2.2) else 0, ?_, ?_, ?_⟩ <;> intro z q h1 h2 h3 h4 <;> simp only [h1, h2, h3, h4, and_self, dif_pos]
  · exact (Classical.choose_spec (hex z q h1 h2 h3 h4)).1
  · exact (Classical.choose_spec (hex z q h1 h2 h3 h4)).2.1
  · exact (Classical.choose_spec (hex z q h1 h2 h3 h4)).2.2
end Rk

/-! _law_option, _law_story. -/
set_option autoImplicit false
set_option linter.all false
set_option maxRecDepth 100000
namespace Rk
open PySem PySem.W K60
local macro_rules
  | `(tactic| simp_arith [$hs,*]) => `(tactic| simp only [b_cons, b_nil, seqE_nx, seqE_rt, s_set, s_setT, s_par, s_exp, s_for, s_whl, s_ite, s_ret, s_retN, s_pass, s_cont, s_app, s_ext, s_pop, s_put, retE_im, retE_fr, expE_s, callE_rt, callE_nx,
  v_v, v_c, v_tup, v_lst, v_emp, v_bin, v_cmp, v_le2, v_and, v_or, v_not, v_ite, v_idx, v_from, v_upto, v_comp, v_compIf, v_call, v_blt, k_nil, k_cons, l_nil, l_cons, vE_im, vE_ow, op2_s, cm2_s, andE_t, andE_f, orE_t, orE_f, notE_s, iteE_t, iteE_f, consE_s, boolOf_s, keepOf_im, keepOf_fr, blE_s, cutE_t, cutE_f,
  caE_d, backOf_d, cpE_d, free_nm, free_tp, notOwn_n, notOwn_f, List.all_cons, List.all_nil, walk_seq, lent, List.any_cons, List.any_nil, reduceCtorEq, decide_false, decide_true, Bool.or_self, Bool.or_false, Bool.false_or, Bool.false_and, Bool.and_false, Bool.true_and, Bool.and_true, Bool.not_true, Bool.not_false, Bool.false_eq_true, if_false, if_true, ite_true, ite_false,
  List.getElem?_cons_zero, List.getElem?_cons_succ, List.set_cons_zero, List.set_cons_succ, Option.map_some, List.map_cons, List.map_nil, lt_int, gt_int, le_int, eq_int, ne_int, eq_str, ne_str, in_sg, notin_sg, len_tup, len_lst, isInt_int, isBool_int, isStr_str, sub_int, add_int, all_map, any_map, $hs,*])
theorem walk_range {n : Nat} (h : n ≤ 1000) : walkD .range1 [.int (n : Int)] = some ((List.range n).map fun (k : Nat) => .int (k : Int)) := by
  have h1 : decide ((0 : Int).natAbs < 2 ^ 60) = true := by decide
  have h2 : decide ((n : Int).natAbs < 2 ^ 60) = true := by rw [decide_eq_true_eq]; omega
  have h3 : fitsN n = true := by simp [fitsN]; omega
  have h4 : ((n : Int) - 0).toNat = n := by omega
  show rangeD 0 (n : Int) = _
  simp only [rangeD, h1, h2, h3, Bool.and_self, if_true, h4, Int.zero_add]
theorem c3 : (3 : Int) < 2 ^ 1000 := by decide +kernel
/-- a drawn option -/
structure OpD (many : Nat) (o : Op) : Prop where
  ok : OpOk many o
  ab : ∀ x ∈ o.os, AbM x.se ∧ AbM x.cl
section
variable {P : Tb} {ns : List Int} {pk : Int → Int → Int} (K : Pk P ns pk) (h35 : P 35 = some f__law_option)
include K h35
theorem r_law_option (at_ many : Nat) (ha : at_ ≤ 50000) (hm : 1 ≤ many) (hm2 : many ≤ 1000) {lb : Str} (hw : Word lb) : ∃ o : Op, o.lb = lb ∧ OpD many o ∧ ∀ n, run P (n + 2) 35 [.list (ns.map .int), .int at_, .int many, .str lb] = some (false, eOp o) := by
  generalize hds : ns.map PyData.int = ds
  have pick : ∀ (z q : Int) (n : Nat), 0 ≤ z → z ≤ 100000 → 1 ≤ q → q ≤ 1000 → run P (n + 1) 34 [.list ds, .int z, .int q] = some (false, .int (pk z q)) := fun z q n h1 h2 h3 h4 => by rw [← hds]; exact K.run z q h1 h2 h3 h4 n
  let mu := abMk (pk ((at_ : Int) + ((0 : Nat) : Int)) 4)
  let mn' := abMk (pk ((at_ : Int) + ((1 : Nat) : Int)) 4)
  let cnt := (1 + pk ((at_ : Int) + 2) 4 / 3).toNat
  have hc2 : 1 ≤ cnt ∧ cnt ≤ 2 ∧ (1 + pk ((at_ : Int) + 2) 4 / 3) = (cnt : Int) := by
    have g1 := K.ge ((at_ : Int) + 2) 4 (by omega) (by omega) (by decide) (by decide)
    have g2 := K.lt ((at_ : Int) + 2) 4 (by omega) (by omega) (by decide) (by decide)
    have e : cnt = (1 + pk ((at_ : Int) + 2) 4 / 3).toNat := rfl
    omega
  let se := fun k : Nat => abMk (pk ((at_ : Int) + 3 + 3 * (k : Int) + ((0 : Nat) : Int)) 4)
  let cl := fun k : Nat => abMk (pk ((at_ : Int) + 3 + 3 * (k : Int) + ((1 : Nat) : Int)) 4)
  let ou := fun k : Nat => (⟨(pk ((at_ : Int) + 5 + 3 * (k : Int)) (many : Int)).toNat, se k, other (se k) (cl k)⟩ : Ou)
  let os := sset eOu ((List.range cnt).map ou)
  have hou : ∀ k, k ≤ 2 → OuOk many (ou k) := fun k hk => ⟨by
    have g1 := K.ge ((at_ : Int) + 5 + 3 * (k : Int)) many (by omega) (by omega) (by omega) (by omega)
    have g2 := K.lt ((at_ : Int) + 5 + 3 * (k : Int)) many (by omega) (by omega) (by omega) (by omega)
    show (pk ((at_ : Int) + 5 + 3 * (k : Int)) (many : Int)).toNat < many
    omega, other_ap (abM _) (abM _)⟩
  have hmem : ∀ x ∈ os, ∃ k, k ≤ 2 ∧ x = ou k := fun x hx => by
    obtain ⟨k, hk, rfl⟩ := List.mem_map.mp ((sset_mem eOu inj_Ou).mp hx)
    exact ⟨k, by have := List.mem_range.mp hk; omega, rfl⟩
  refine ⟨⟨lb, mu, other mu mn', os⟩, rfl, ⟨⟨hw, other_ap (abM _) (abM _), sset_pos inj_Ou (by simp; omega), Nat.le_trans (sset_len _ _) (by simp; omega), fun x hx => ?_, ris_Ou _⟩, fun x hx => ?_⟩, fun n => ?_⟩
  · obtain ⟨k, hk, rfl⟩ := hmem x hx
    exact hou k hk
  · obtain ⟨k, hk, rfl⟩ := hmem x hx
    exact ⟨abM _, other_ab (abM _)⟩
  · rw [run_go h35 _ _ rfl]
    show callE (exs _ f__law_option.body [some (false, .list ds), some (false, .int at_), some (false, .int many), some (false, .str lb), none, none, none, none, none, none, none]) = _
    have r2 : walkD .range1 [.int 2] = some ((List.range 2).map fun (k : Nat) => .int (k : Int)) := walk_range (n := 2) (by decide)
    have t1 : turns (run P (n + 1)) (.nm 5) none (.idx (.tup [.c (.str ""), .c (.str ""), .c (.str "a"), .c (.str "b")]) (.call 34 [.v 0, .bin .add (.v 1) (.v 5), .c (.int 4)])) [some (false, .list ds), some (false, .int at_), some (false, .int many), some (false, .str lb), none, none, none, none, none, none, none] ((List.range 2).map fun (k : Nat) => .int (k : Int)) = some ((List.range 2).map fun k => .str (abMk (pk ((at_ : Int) + (k : Int)) 4)).s) :=
      turns_all (fun (k : Nat) => .str (abMk (pk ((at_ : Int) + (k : Int)) 4)).s) (fun k => [some (false, .list ds), some (false, .int at_), some (false, .int many), some (false, .str lb), none, some (false, .int (k : Int)), none, none, none, none, none]) fun k hk => ⟨rfl, by
        have := List.mem_range.mp hk
        simp_arith [pick ((at_ : Int) + (k : Int)) 4 n (by omega) (by omega) (by decide) (by decide), ab_idx (K.ge ((at_ : Int) + (k : Int)) 4 (by omega) (by omega) (by decide) (by decide)) (K.lt ((at_ : Int) + (k : Int)) 4 (by omega) (by omega) (by decide) (by decide))]⟩
    have e2 : ((List.range 2).map fun (k : Nat) => PyData.str (abMk (pk ((at_ : Int) + (k : Int)) 4)).s) = [.str mu.s, .str mn'.s] := rfl
    rw [e2] at t1
    have neq : ∀ m m' : Mk, decide (m'.s = m.s) = decide (m' = m) := fun m m' => by
      by_cases h : m' = m
      · subst h; simp
      · have : ¬ m'.s = m.s := fun z => h (Mk.inj z)
        simp [h, this]
    have t2 : ∀ (k : Nat) (fd : D) (x8 x9 : Option Slot), k ≤ 2 → turns (run P (n + 1)) (.nm 10) none (.idx (.tup [.c (.str ""), .c (.str ""), .c (.str "a"), .c (.str "b")]) (.call 34 [.v 0, .bin .add (.bin .add (.bin .add (.v 1) (.c (.int 3))) (.bin .mul (.c (.int 3)) (.v 5))) (.v 10), .c (.int 4)])) [some (false, .list ds), some (false, .int at_), some (false, .int many), some (false, .str lb), some (true, fd), some (false, .int (k : Int)), some (false, .str mu.s), some (false, .str mn'.s), x8, x9, none] ((List.range 2).map fun (k : Nat) => .int (k : Int)) = some [.str (se k).s, .str (cl k).s] := fun k fd x8 x9 hk =>
      turns_all (fun (j : Nat) => .str (abMk (pk ((at_ : Int) + 3 + 3 * (k : Int) + (j : Int)) 4)).s) (fun j => [some (false, .list ds), some (false, .int at_), some (false, .int many), some (false, .str lb), some (true, fd), some (false, .int (k : Int)), some (false, .str mu.s), some (false, .str mn'.s), x8, x9, some (false, .int (j : Int))]) fun j hj => ⟨rfl, by
        have := List.mem_range.mp hj
        simp_arith [mul_l (a := 3) (k : Int) (by decide), pick ((at_ : Int) + 3 + 3 * (k : Int) + (j : Int)) 4 n (by omega) (by omega) (by decide) (by decide), ab_idx (K.ge ((at_ : Int) + 3 + 3 * (k : Int) + (j : Int)) 4 (by omega) (by omega) (by decide) (by decide)) (K.lt ((at_ : Int) + 3 + 3 * (k : Int) + (j : Int)) 4 (by omega) (by omega) (by decide) (by decide))]⟩
    obtain ⟨ρ', h1, y5, y8, y9, h2⟩ := trips_at (F := run P (n + 1)) (t := .nm 5) (body := [.set (.tp [8, 9]) (.comp (.nm 10) .range1 [.c (.int 2)] (.idx (.tup [.c (.str ""), .c (.str ""), .c (.str "a"), .c (.str "b")]) (.call 34 [.v 0, .bin .add (.bin .add (.bin .add (.v 1) (.c (.int 3))) (.bin .mul (.c (.int 3)) (.v 5))) (.v 10), .c (.int 4)]))),
        .app 4 (.tup [.call 34 [.v 0, .bin .add (.bin .add (.v 1) (.c (.int 5))) (.bin .mul (.c (.int 3)) (.v 5)), .v 2], .v 8, .ite (.cmp .ne (.v 9) (.v 8)) (.v 9) (.c (.str ""))])]) (enc := fun k : Nat => .int (k : Int)) (ρ := [some (false, .list ds), some (false, .int at_), some (false, .int many), some (false, .str lb), some (true, .list []), none, some (false, .str mu.s), some (false, .str mn'.s), none, none, none])
      (fun d ρ => ∃ y5 y8 y9, ρ = [some (false, .list ds), some (false, .int at_), some (false, .int many), some (false, .str lb), some (true, .list ((d.map ou).map eOu)), y5, some (false, .str mu.s), some (false, .str mn'.s), y8, y9, none]) (List.range cnt) ⟨none, none, none, rfl⟩ (fun d k r ρ e ⟨y5, y8, y9, hρ⟩ => by
        subst hρ
        have hk : k ≤ 2 := by
          have : k ∈ List.range cnt := by rw [e]; simp
          have := List.mem_range.mp this
          omega
        have hl : ((d.map ou).map eOu).length ≤ 10000 := by
          have : d.length ≤ cnt := by
            have := congrArg List.length e
            simp at this
            omega
          simp; omega
        have hb : setTE [8, 9] [some (false, .list ds), some (false, .int at_), some (false, .int many), some (false, .str lb), some (true, .list ((d.map ou).map eOu)), some (false, .int (k : Int)), some (false, .str mu.s), some (false, .str mn'.s), y8, y9, none] (some (.fr, .list [.str (se k).s, .str (cl k).s])) = some (.nx [some (false, .list ds), some (false, .int at_), some (false, .int many), some (false, .str lb), some (true, .list ((d.map ou).map eOu)), some (false, .int (k : Int)), some (false, .str mu.s), some (false, .str mn'.s), some (false, .str (se k).s), some (false, .str (cl k).s), none]) := rfl
        have g1 := K.ge ((at_ : Int) + 5 + 3 * (k : Int)) many (by omega) (by omega) (by omega) (by omega)
        have hto : PyData.int (pk ((at_ : Int) + 5 + 3 * (k : Int)) (many : Int)) = .int (((pk ((at_ : Int) + 5 + 3 * (k : Int)) (many : Int)).toNat : Nat) : Int) := by congr 1; omega
        have hite : iteE (some (!decide (cl k = se k))) (some (Tag.im, PyData.str (cl k).s)) (some (Tag.im, PyData.str "")) = some (.im, .str (other (se k) (cl k)).s) := by
          unfold other
          by_cases h : cl k = se k
          · simp only [h, decide_true, Bool.not_true, iteE_f, if_true, s_e]
          · simp only [h, decide_false, Bool.not_false, iteE_t, if_false]
        refine ⟨_, _, rfl, .inl ?_, some (false, .int (k : Int)), some (false, .str (se k).s), some (false, .str (cl k).s), rfl⟩
        simp_arith [r2, t2 k _ _ _ hk, hb, mul_l (a := 3) (k : Int) (by decide), pick ((at_ : Int) + 5 + 3 * (k : Int)) many n (by omega) (by omega) (by omega) (by omega), neq, hite, appE_s hl, hto]
        simp [eOu, ou])
    subst h2
    have hmn : iteE (some (!decide (mn' = mu))) (some (Tag.im, PyData.str mn'.s)) (some (Tag.im, PyData.str "")) = some (.im, .str (other mu mn').s) := by
      unfold other
      by_cases h : mn' = mu
      · simp only [h, decide_true, Bool.not_true, iteE_f, if_true, s_e]
      · simp only [h, decide_false, Bool.not_false, iteE_t, if_false]
    have hb1 : setTE [6, 7] [some (false, .list ds), some (false, .int at_), some (false, .int many), some (false, .str lb), none, none, none, none, none, none, none] (some (.fr, .list [.str mu.s, .str mn'.s])) = some (.nx [some (false, .list ds), some (false, .int at_), some (false, .int many), some (false, .str lb), none, none, some (false, .str mu.s), some (false, .str mn'.s), none, none, none]) := rfl
    have th : thaws [.bin .add (.c (.int 1)) (.bin .fdiv (.call 34 [.v 0, .bin .add (.v 1) (.c (.int 2)), .c (.int 4)]) (.c (.int 3)))] [some (false, .list ds), some (false, .int at_), some (false, .int many), some (false, .str lb), some (true, .list []), none, some (false, .str mu.s), some (false, .str mn'.s), none, none, none] = [some (false, .list ds), some (false, .int at_), some (false, .int many), some (false, .str lb), some (true, .list []), none, some (false, .str mu.s), some (false, .str mn'.s), none, none, none] := rfl
    have hsz : ((List.range cnt).map ou).length < 63 := by simp; omega
    have htp : ∀ xs : List D, bltD .tuple [.list xs] = some (.im, .tuple xs) := fun _ => rfl
    unfold f__law_option
    simp_arith [r2, t1, hb1, setE_fr _ 4 (.lst []) _ _ rfl, th, pick ((at_ : Int) + 2) 4 n (by omega) (by omega) (by decide) (by decide), fdiv_c (pk ((at_ : Int) + 2) 4) (show (0 : Int) < 3 by decide) c3, hc2.2.2, forE, walk_range (show cnt ≤ 1000 by omega), h1, neq, hmn, sset_Ou hsz, htp]
    rfl
end
end Rk

/-! _law_story. -/
set_option autoImplicit false
set_option linter.all false
set_option maxRecDepth 100000
namespace Rk
open PySem PySem.W K60
local macro_rules
  | `(tactic| simp_arith [$hs,*]) => `(tactic| simp only [b_cons, b_nil, seqE_nx, seqE_rt, s_set, s_setT, s_par, s_exp, s_for, s_whl, s_ite, s_ret, s_retN, s_pass, s_cont, s_app, s_ext, s_pop, s_put, retE_im, retE_fr, expE_s, callE_rt, callE_nx,
  v_v, v_c, v_tup, v_lst, v_emp, v_bin, v_cmp, v_le2, v_and, v_or, v_not, v_ite, v_idx, v_from, v_upto, v_comp, v_compIf, v_call, v_blt, k_nil, k_cons, l_nil, l_cons, vE_im, vE_ow, op2_s, cm2_s, andE_t, andE_f, orE_t, orE_f, notE_s, iteE_t, iteE_f, consE_s, boolOf_s, keepOf_im, keepOf_fr, blE_s, cutE_t, cutE_f,
  caE_d, backOf_d, cpE_d, free_nm, free_tp, notOwn_n, notOwn_f, List.all_cons, List.all_nil, walk_seq, lent, List.any_cons, List.any_nil, reduceCtorEq, decide_false, decide_true, Bool.or_self, Bool.or_false, Bool.false_or, Bool.false_and, Bool.and_false, Bool.true_and, Bool.and_true, Bool.not_true, Bool.not_false, Bool.false_eq_true, if_false, if_true, ite_true, ite_false,
  List.getElem?_cons_zero, List.getElem?_cons_succ, List.set_cons_zero, List.set_cons_succ, Option.map_some, List.map_cons, List.map_nil, lt_int, gt_int, le_int, eq_int, ne_int, eq_str, ne_str, in_sg, notin_sg, len_tup, len_lst, isInt_int, isBool_int, isStr_str, sub_int, add_int, all_map, any_map, $hs,*])
theorem w_go : Word "go" := ⟨by decide +kernel, by decide +kernel, by decide +kernel⟩
theorem w_left : Word "left" := ⟨by decide +kernel, by decide +kernel, by decide +kernel⟩
theorem w_up : Word "up" := ⟨by decide +kernel, by decide +kernel, by decide +kernel⟩
theorem w_cave : Word "cave" := ⟨by decide +kernel, by decide +kernel, by decide +kernel⟩
theorem w_hall : Word "hall" := ⟨by decide +kernel, by decide +kernel, by decide +kernel⟩
theorem w_lake : Word "lake" := ⟨by decide +kernel, by decide +kernel, by decide +kernel⟩
def lblS (v : Int) : Str := if v = 0 then "go" else if v = 1 then "left" else "up"
def txtS (v : Int) : Str := if v = 1 then "hall" else if v = 3 then "lake" else "cave"
theorem w_lbl (v : Int) : Word (lblS v) := by
  unfold lblS
  split
  · exact w_go
  · split
    · exact w_left
    · exact w_up
theorem w_txt (v : Int) : Word (txtS v) := by
  unfold txtS
  split
  · exact w_hall
  · split
    · exact w_lake
    · exact w_cave
theorem lbl_idx {v : Int} (h0 : 0 ≤ v) (h : v < 3) : idxD (.tuple [.str "go", .str "left", .str "up"]) (.int v) = some (.im, .str (lblS v)) := by
  have : v = 0 ∨ v = 1 ∨ v = 2 := by omega
  rcases this with e | e | e <;> subst e
  · exact ix_tup (i := 0) rfl
  · exact ix_tup (i := 1) rfl
  · exact ix_tup (i := 2) rfl
theorem txt_idx {v : Int} (h0 : 0 ≤ v) (h : v < 4) : idxD (.tuple [.str "cave", .str "hall", .str "cave", .str "lake"]) (.int v) = some (.im, .str (txtS v)) := by
  rcases four h0 h with e | e | e | e <;> subst e
  · exact ix_tup (i := 0) rfl
  · exact ix_tup (i := 1) rfl
  · exact ix_tup (i := 2) rfl
  · exact ix_tup (i := 3) rfl
theorem lst_tup (xs : List D) : bltD .tuple [.list xs] = some (.im, .tuple xs) := rfl
/-- a drawn story -/
structure SoD (S : So) : Prop where
  ok : SoOk S
  ab : Ab S
  p4 : S.ps.length ≤ 4
  p2 : 2 ≤ S.ps.length
  s3 : S.ss.length ≤ 3
section
variable {P : Tb} {ns : List Int} {pk : Int → Int → Int} (K : Pk P ns pk) (h35 : P 35 = some f__law_option) (h36 : P 36 = some f__law_story)
include K h35 h36
theorem r_law_story (at_ : Nat) (ha : at_ ≤ 10000) : ∃ S : So, SoD S ∧ ∀ n, run P (n + 3) 36 [.list (ns.map .int), .int at_] = some (false, eSo S) := by
  generalize hmany : (2 + pk at_ 3).toNat = many
  have hm : (2 + pk (at_ : Int) 3) = (many : Int) ∧ 2 ≤ many ∧ many ≤ 4 := by
    have g1 := K.ge at_ 3 (by omega) (by omega) (by decide) (by decide)
    have g2 := K.lt at_ 3 (by omega) (by omega) (by decide) (by decide)
    omega
  obtain ⟨op, hop⟩ : ∃ op : Nat × Str → Op, ∀ q : Nat × Str, q.1 ≤ 50000 → Word q.2 → (op q).lb = q.2 ∧ OpD many (op q) ∧ ∀ n, run P (n + 2) 35 [.list (ns.map .int), .int (q.1 : Int), .int many, .str q.2] = some (false, eOp (op q)) :=
    Classical.axiomOfChoice (r := fun (q : Nat × Str) (o : Op) => q.1 ≤ 50000 → Word q.2 → o.lb = q.2 ∧ OpD many o ∧ ∀ n, run P (n + 2) 35 [.list (ns.map .int), .int (q.1 : Int), .int many, .str q.2] = some (false, eOp o)) fun q => by
      by_cases h : q.1 ≤ 50000 ∧ Word q.2
      · obtain ⟨o, h1, h2, h3⟩ := r_law_option K h35 q.1 many h.1 (by omega) (by omega) h.2
        exact ⟨o, fun _ _ => ⟨h1, h2, h3⟩⟩
      · exact ⟨⟨"", m0, m0, []⟩, fun h1 h2 => absurd ⟨h1, h2⟩ h⟩
  generalize hds : ns.map PyData.int = ds at hop
  have pick : ∀ (z q : Int) (n : Nat), 0 ≤ z → z ≤ 100000 → 1 ≤ q → q ≤ 1000 → run P (n + 1) 34 [.list ds, .int z, .int q] = some (false, .int (pk z q)) := fun z q n h1 h2 h3 h4 => by rw [← hds]; exact K.run z q h1 h2 h3 h4 n
  generalize hsc : (1 + pk ((at_ : Int) + 5) 3).toNat = scnt
  have hs : (1 + pk ((at_ : Int) + 5) 3) = (scnt : Int) ∧ 1 ≤ scnt ∧ scnt ≤ 3 := by
    have g1 := K.ge ((at_ : Int) + 5) 3 (by omega) (by omega) (by decide) (by decide)
    have g2 := K.lt ((at_ : Int) + 5) 3 (by omega) (by omega) (by decide) (by decide)
    omega
  let st := fun k : Nat => stMk (pk ((at_ : Int) + 1 + (k : Int)) 4)
  let spot := fun j : Nat => at_ + 10 + 40 * j
  let lc := fun j : Nat => (pk ((spot j : Int) + 3) 4).toNat
  let labs := fun j : Nat => sset eS ((List.range (lc j)).map fun (k : Nat) => lblS (pk ((spot j : Int) + (k : Int)) 3))
  let ops := fun j : Nat => (labs j).zipIdx.map fun q => op (spot j + 6 + 9 * q.2, q.1)
  let pa := fun j : Nat => (⟨txtS (pk ((spot j : Int) + 4) 4), abMk (pk ((spot j : Int) + 5) 4), ops j⟩ : Pa)
  have hlc : ∀ j, j < 4 → pk ((spot j : Int) + 3) 4 = (lc j : Int) ∧ lc j ≤ 3 := fun j hj => by
    have e : spot j = at_ + 10 + 40 * j := rfl
    have g1 := K.ge ((spot j : Int) + 3) 4 (by omega) (by omega) (by decide) (by decide)
    have g2 := K.lt ((spot j : Int) + 3) 4 (by omega) (by omega) (by decide) (by decide)
    have e2 : lc j = (pk ((spot j : Int) + 3) 4).toNat := rfl
    omega
  have hlabs : ∀ j, j < 4 → (labs j).length ≤ 3 ∧ ∀ x ∈ labs j, Word x := fun j hj => by
    refine ⟨Nat.le_trans (sset_len _ _) (by simp; exact (hlc j hj).2), fun x hx => ?_⟩
    obtain ⟨k, hk, rfl⟩ := List.mem_map.mp ((sset_mem eS inj_S).mp hx)
    exact w_lbl _
  have hq : ∀ j, j < 4 → ∀ q ∈ (labs j).zipIdx, spot j + 6 + 9 * q.2 ≤ 50000 ∧ Word q.1 := fun j hj q hq => by
    have := List.mem_zipIdx (x := q.1) (i := q.2) hq
    obtain ⟨h1, h2⟩ := hlabs j hj
    have e : spot j = at_ + 10 + 40 * j := rfl
    refine ⟨by omega, h2 q.1 ?_⟩
    rw [this.2.2]
    exact List.getElem_mem _
  have hops : ∀ j, j < 4 → ∀ o ∈ ops j, OpD many o := fun j hj o ho => by
    obtain ⟨q, hqm, rfl⟩ := List.mem_map.mp ho
    obtain ⟨h1, h2⟩ := hq j hj q hqm
    exact (hop _ h1 h2).2.1
  have hopl : ∀ j, j < 4 → (ops j).length ≤ 3 := fun j hj => by
    show ((labs j).zipIdx.map _).length ≤ 3
    rw [List.length_map, List.length_zipIdx]
    exact (hlabs j hj).1
  have hlb : ∀ j, j < 4 → (ops j).map (fun o => PyData.str o.lb) = (labs j).map eS := fun j hj => by
    show (((labs j).zipIdx.map fun q => op (spot j + 6 + 9 * q.2, q.1)).map fun o => PyData.str o.lb) = _
    rw [List.map_map]
    have e1 : (labs j).map eS = ((labs j).zipIdx.map (·.1)).map eS := by rw [List.zipIdx_map_fst]
    rw [e1, List.map_map]
    refine List.map_congr_left fun q hqm => ?_
    obtain ⟨h1, h2⟩ := hq j hj q hqm
    show PyData.str (op (spot j + 6 + 9 * q.2, q.1)).lb = eS q.1
    rw [(hop _ h1 h2).1]
    rfl
  have hpa : ∀ j, j < 4 → PaOk many (pa j) := fun j hj => ⟨w_txt _, Nat.le_trans (hopl j hj) (by decide), fun o ho => (hops j hj o ho).ok, by
    show Rising ((ops j).map fun o => PyData.str o.lb)
    rw [hlb j hj]
    exact ris_S _⟩
  refine ⟨⟨sset eM ((List.range scnt).map st), (List.range many).map pa⟩, ⟨⟨sset_pos inj_M (by simp; omega), Nat.le_trans (sset_len _ _) (by simp; omega), ris_M _, by simp; omega, by simp; omega, fun p hp => ?_⟩, ⟨⟨by simp; omega, fun p hp => ?_, fun p hp o ho => ?_⟩, fun p hp o ho x hx => ?_⟩, by simp; omega, by simp; omega, Nat.le_trans (sset_len _ _) (by simp; omega)⟩, fun n => ?_⟩
  · obtain ⟨j, hj, rfl⟩ := List.mem_map.mp hp
    simp only [List.length_map, List.length_range]
    exact hpa j (by have := List.mem_range.mp hj; omega)
  · obtain ⟨j, hj, rfl⟩ := List.mem_map.mp hp
    exact Nat.le_trans (hopl j (by have := List.mem_range.mp hj; omega)) (by decide)
  · obtain ⟨j, hj, rfl⟩ := List.mem_map.mp hp
    exact (hops j (by have := List.mem_range.mp hj; omega) o ho).ok.two
  · obtain ⟨j, hj, rfl⟩ := List.mem_map.mp hp
    have h := hops j (by have := List.mem_range.mp hj; omega) o ho
    obtain ⟨a1, a2⟩ := (h.ab x hx).1.cd
    obtain ⟨b1, b2⟩ := (h.ab x hx).2.cd
    simp only [List.length_map, List.length_range]
    exact ⟨(h.ok.ok x hx).to, a1, a2, b1, b2⟩
  · rw [run_go h36 _ _ rfl]
    show callE (exs _ f__law_story.body [some (false, .list ds), some (false, .int at_), none, none, none, none, none, none, none, none, none, none]) = _
    let env := fun (x2 x3 : Option Slot) (ps : D) (x6 x7 x8 x9 : Option Slot) => ([some (false, .list ds), some (false, .int at_), x2, x3, some (false, .int many), some (true, ps), x6, x7, x8, x9, none, none] : Env)
    have hpar : parE [4, 5] [some (false, .list ds), some (false, .int at_), none, none, none, none, none, none, none, none, none, none] (some [(.im, .int many), (.fr, .list [])]) = some (.nx (env none none (.list []) none none none none)) := rfl
    have tst : turns (run P (n + 2)) (.nm 10) none (.idx (.tup [.c (.str ""), .c (.str "a"), .c (.str "b"), .c (.str "ab")]) (.call 34 [.v 0, .bin .add (.bin .add (.v 1) (.c (.int 1))) (.v 10), .c (.int 4)])) (env none none (.list []) none none none none) ((List.range scnt).map fun (k : Nat) => .int (k : Int)) = some ((List.range scnt).map fun k => eM (st k)) :=
      turns_all (fun (k : Nat) => eM (st k)) (fun k => [some (false, .list ds), some (false, .int at_), none, none, some (false, .int many), some (true, .list []), none, none, none, none, some (false, .int (k : Int)), none]) fun k hk => ⟨rfl, by
        have := List.mem_range.mp hk
        simp_arith [pick ((at_ : Int) + 1 + (k : Int)) 4 (n + 1) (by omega) (by omega) (by decide) (by decide), st_idx (K.ge ((at_ : Int) + 1 + (k : Int)) 4 (by omega) (by omega) (by decide) (by decide)) (K.lt ((at_ : Int) + 1 + (k : Int)) 4 (by omega) (by omega) (by decide) (by decide))]
        rfl⟩
    have est : ((List.range scnt).map fun k => eM (st k)) = ((List.range scnt).map st).map eM := by rw [List.map_map]; rfl
    rw [est] at tst
    simp only [env] at tst hpar
    obtain ⟨ρ', h1, y2, y3, y6, y7, y8, y9, h2⟩ := trips_at (F := run P (n + 2)) (t := .nm 3) (body := [.set (.nm 6) (.bin .add (.bin .add (.v 1) (.c (.int 10))) (.bin .mul (.c (.int 40)) (.v 3))),
      .set (.nm 7) (.comp (.nm 10) .range1 [.call 34 [.v 0, .bin .add (.v 6) (.c (.int 3)), .c (.int 4)]] (.idx (.tup [.c (.str "go"), .c (.str "left"), .c (.str "up")]) (.call 34 [.v 0, .bin .add (.v 6) (.v 10), .c (.int 3)]))),
      .set (.nm 7) (.blt .sortedSet [.v 7]),
      .set (.nm 8) (.comp (.tp [10, 11]) .enum [.v 7] (.call 35 [.v 0, .bin .add (.bin .add (.v 6) (.c (.int 6))) (.bin .mul (.c (.int 9)) (.v 10)), .v 4, .v 11])),
      .set (.nm 9) (.idx (.tup [.c (.str "cave"), .c (.str "hall"), .c (.str "cave"), .c (.str "lake")]) (.call 34 [.v 0, .bin .add (.v 6) (.c (.int 4)), .c (.int 4)])),
      .app 5 (.tup [.v 9, .idx (.tup [.c (.str ""), .c (.str ""), .c (.str "a"), .c (.str "b")]) (.call 34 [.v 0, .bin .add (.v 6) (.c (.int 5)), .c (.int 4)]), .blt .tuple [.v 8]])]) (enc := fun k : Nat => .int (k : Int))
      (ρ := [some (false, .list ds), some (false, .int at_), some (true, .list (((List.range scnt).map st).map eM)), none, some (false, .int many), some (true, .list []), none, none, none, none, none, none])
      (fun d ρ => ∃ y2 y3 y6 y7 y8 y9, y2 = some (true, .list (((List.range scnt).map st).map eM)) ∧ ρ = [some (false, .list ds), some (false, .int at_), y2, y3, some (false, .int many), some (true, .list ((d.map pa).map ePa)), y6, y7, y8, y9, none, none]) (List.range many) ⟨_, none, none, none, none, none, rfl, rfl⟩ (fun d j r ρ e ⟨y2, y3, y6, y7, y8, y9, hy2, hρ⟩ => by
        subst hρ
        have hj : j < 4 := by
          have : j ∈ List.range many := by rw [e]; simp
          have := List.mem_range.mp this
          omega
        have hl : ((d.map pa).map ePa).length ≤ 10000 := by
          have : d.length ≤ many := by
            have := congrArg List.length e
            simp at this
            omega
          simp; omega
        generalize hpp : PyData.list ((d.map pa).map ePa) = pp
        have es : spot j = at_ + 10 + 40 * j := rfl
        have hspot : (at_ : Int) + 10 + 40 * (j : Int) = (spot j : Int) := by omega
        obtain ⟨hl1, hl2⟩ := hlc j hj
        have tl : ∀ z7 : Option Slot, turns (run P (n + 2)) (.nm 10) none (.idx (.tup [.c (.str "go"), .c (.str "left"), .c (.str "up")]) (.call 34 [.v 0, .bin .add (.v 6) (.v 10), .c (.int 3)])) [some (false, .list ds), some (false, .int at_), y2, some (false, .int (j : Int)), some (false, .int many), some (true, pp), some (false, .int (spot j : Int)), z7, y8, y9, none, none] ((List.range (lc j)).map fun (k : Nat) => .int (k : Int)) = some ((List.range (lc j)).map fun (k : Nat) => eS (lblS (pk ((spot j : Int) + (k : Int)) 3))) := fun z7 =>
          turns_all (fun (k : Nat) => eS (lblS (pk ((spot j : Int) + (k : Int)) 3))) (fun k => [some (false, .list ds), some (false, .int at_), y2, some (false, .int (j : Int)), some (false, .int many), some (true, pp), some (false, .int (spot j : Int)), z7, y8, y9, some (false, .int (k : Int)), none]) fun k hk => ⟨rfl, by
            have := List.mem_range.mp hk
            simp_arith [pick ((spot j : Int) + (k : Int)) 3 (n + 1) (by omega) (by omega) (by decide) (by decide), lbl_idx (K.ge ((spot j : Int) + (k : Int)) 3 (by omega) (by omega) (by decide) (by decide)) (K.lt ((spot j : Int) + (k : Int)) 3 (by omega) (by omega) (by decide) (by decide))]
            rfl⟩
        have el : ((List.range (lc j)).map fun (k : Nat) => eS (lblS (pk ((spot j : Int) + (k : Int)) 3))) = ((List.range (lc j)).map fun (k : Nat) => lblS (pk ((spot j : Int) + (k : Int)) 3)).map eS := by rw [List.map_map]; rfl
        rw [el] at tl
        have hss : bltD .sortedSet [.list (((List.range (lc j)).map fun (k : Nat) => lblS (pk ((spot j : Int) + (k : Int)) 3)).map eS)] = some (.fr, .list ((labs j).map eS)) := sset_S (by simp; omega)
        have hen : walkD .enum [.list ((labs j).map eS)] = some ((labs j).zipIdx.map fun q => .tuple [.int (q.2 : Int), eS q.1]) := by
          simp only [walkD, seqOf, Option.map_some, List.mapIdx_eq_zipIdx_map, List.zipIdx_map, List.map_map]
          rfl
        have to : turns (run P (n + 2)) (.tp [10, 11]) none (.call 35 [.v 0, .bin .add (.bin .add (.v 6) (.c (.int 6))) (.bin .mul (.c (.int 9)) (.v 10)), .v 4, .v 11]) [some (false, .list ds), some (false, .int at_), y2, some (false, .int (j : Int)), some (false, .int many), some (true, pp), some (false, .int (spot j : Int)), some (true, .list ((labs j).map eS)), y8, y9, none, none] ((labs j).zipIdx.map fun q => .tuple [.int (q.2 : Int), eS q.1]) = some ((ops j).map eOp) := by
          have := turns_all (F := run P (n + 2)) (t := .tp [10, 11]) (e := .call 35 [.v 0, .bin .add (.bin .add (.v 6) (.c (.int 6))) (.bin .mul (.c (.int 9)) (.v 10)), .v 4, .v 11]) (ρ := [some (false, .list ds), some (false, .int at_), y2, some (false, .int (j : Int)), some (false, .int many), some (true, pp), some (false, .int (spot j : Int)), some (true, .list ((labs j).map eS)), y8, y9, none, none]) (enc := fun q : Str × Nat => .tuple [.int (q.2 : Int), eS q.1]) (fun q => eOp (op (spot j + 6 + 9 * q.2, q.1))) (xs := (labs j).zipIdx) (fun q => [some (false, .list ds), some (false, .int at_), y2, some (false, .int (j : Int)), some (false, .int many), some (true, pp), some (false, .int (spot j : Int)), some (true, .list ((labs j).map eS)), y8, y9, some (false, .int (q.2 : Int)), some (false, eS q.1)]) fun q hqm => ⟨rfl, by
              obtain ⟨a1, a2⟩ := hq j hj q hqm
              have hr := (hop (spot j + 6 + 9 * q.2, q.1) a1 a2).2.2 n
              have ez : ((spot j + 6 + 9 * q.2 : Nat) : Int) = (spot j : Int) + 6 + 9 * (q.2 : Int) := by omega
              simp only [ez] at hr
              simp_arith [mul_l (a := 9) (q.2 : Int) (by decide), eS, hr]⟩
          rw [this]
          show _ = some (((labs j).zipIdx.map fun q => op (spot j + 6 + 9 * q.2, q.1)).map eOp)
          rw [List.map_map]
          rfl
        refine ⟨[some (false, .list ds), some (false, .int at_), y2, some (false, .int (j : Int)), some (false, .int many), some (true, pp), y6, y7, y8, y9, none, none], _, rfl, .inl ?_, y2, some (false, .int (j : Int)), some (false, .int (spot j : Int)), some (true, .list ((labs j).map eS)), some (true, .list ((ops j).map eOp)), some (false, .str (txtS (pk ((spot j : Int) + 4) 4))), hy2, rfl⟩
        have k4 := K.ge ((spot j : Int) + 4) 4 (by omega) (by omega) (by decide) (by decide)
        have k4' := K.lt ((spot j : Int) + 4) 4 (by omega) (by omega) (by decide) (by decide)
        have k5 := K.ge ((spot j : Int) + 5) 4 (by omega) (by omega) (by decide) (by decide)
        have k5' := K.lt ((spot j : Int) + 5) 4 (by omega) (by omega) (by decide) (by decide)
        simp_arith [mul_l (a := 40) (j : Int) (by decide), hspot, setE_im _ 6 (.bin _ _ _) _ _ rfl, pick ((spot j : Int) + 3) 4 (n + 1) (by omega) (by omega) (by decide) (by decide), hl1, walk_range (show lc j ≤ 1000 by omega), tl, setE_fr _ 7 (.comp _ _ _ _) _ _ rfl, hss, setE_fr _ 7 (.blt _ _) _ _ rfl, hen, to, setE_fr _ 8 (.comp _ _ _ _) _ _ rfl,
          pick ((spot j : Int) + 4) 4 (n + 1) (by omega) (by omega) (by decide) (by decide), txt_idx k4 k4', setE_im _ 9 (.idx _ _) _ _ rfl, pick ((spot j : Int) + 5) 4 (n + 1) (by omega) (by omega) (by decide) (by decide), ab_idx k5 k5', lst_tup]
        subst hpp
        rw [appE_s hl, seqE_nx, b_nil]
        simp [ePa, pa])
    obtain ⟨hy2, h2⟩ := h2
    subst hy2
    subst h2
    have th : thaws [.v 4] [some (false, .list ds), some (false, .int at_), some (true, .list (((List.range scnt).map st).map eM)), none, some (false, .int many), some (true, .list []), none, none, none, none, none, none] = [some (false, .list ds), some (false, .int at_), some (true, .list (((List.range scnt).map st).map eM)), none, some (false, .int many), some (true, .list []), none, none, none, none, none, none] := rfl
    have hsz : ((List.range scnt).map st).length < 63 := by simp; omega
    unfold f__law_story
    simp_arith [pick (at_ : Int) 3 (n + 1) (by omega) (by omega) (by decide) (by decide), hm.1, hpar, pick ((at_ : Int) + 5) 3 (n + 1) (by omega) (by omega) (by decide) (by decide), hs.1, walk_range (show scnt ≤ 1000 by omega), tst, setE_fr _ 2 (.comp _ _ _ _) _ _ rfl, th, forE, walk_range (show many ≤ 1000 by omega), h1, sset_M hsz, lst_tup]
    rfl
end
end Rk

/-! Levels, longest plays. -/
set_option autoImplicit false
set_option linter.all false
set_option maxRecDepth 100000
namespace Rk
open PySem PySem.W K60
local macro_rules
  | `(tactic| simp_arith [$hs,*]) => `(tactic| simp only [b_cons, b_nil, seqE_nx, seqE_rt, s_set, s_setT, s_par, s_exp, s_for, s_whl, s_ite, s_ret, s_retN, s_pass, s_cont, s_app, s_ext, s_pop, s_put, retE_im, retE_fr, expE_s, callE_rt, callE_nx,
  v_v, v_c, v_tup, v_lst, v_emp, v_bin, v_cmp, v_le2, v_and, v_or, v_not, v_ite, v_idx, v_from, v_upto, v_comp, v_compIf, v_call, v_blt, k_nil, k_cons, l_nil, l_cons, vE_im, vE_ow, op2_s, cm2_s, andE_t, andE_f, orE_t, orE_f, notE_s, iteE_t, iteE_f, consE_s, boolOf_s, keepOf_im, keepOf_fr, blE_s, cutE_t, cutE_f,
  caE_d, backOf_d, cpE_d, free_nm, free_tp, notOwn_n, notOwn_f, List.all_cons, List.all_nil, walk_seq, lent, List.any_cons, List.any_nil, reduceCtorEq, decide_false, decide_true, Bool.or_self, Bool.or_false, Bool.false_or, Bool.false_and, Bool.and_false, Bool.true_and, Bool.and_true, Bool.not_true, Bool.not_false, Bool.false_eq_true, if_false, if_true, ite_true, ite_false,
  List.getElem?_cons_zero, List.getElem?_cons_succ, List.set_cons_zero, List.set_cons_succ, Option.map_some, List.map_cons, List.map_nil, lt_int, gt_int, le_int, eq_int, ne_int, eq_str, ne_str, in_sg, notin_sg, len_tup, len_lst, isInt_int, isBool_int, isStr_str, sub_int, add_int, all_map, any_map, $hs,*])
theorem sortable_Sta2 {xs : List Sta} (hl : xs.length ≤ 100000) : sortable (xs.map eSta) = true := by
  simp only [sortable, Bool.and_eq_true]
  refine ⟨⟨⟨⟨all_map' fun x => all_map' fun y => rfl, by rw [all_map' (p := hdOk) fun x => rfl]; rfl⟩, all_map' fun x => rfl⟩, by simp [fitsN]; omega⟩, plainAll_map fun x _ => rfl⟩
theorem sset_StaU {xs U : List Sta} (h : ∀ x ∈ xs, x ∈ U) (hU : U.length < 63) (hl : xs.length ≤ 100000) : bltD .sortedSet [.list (xs.map eSta)] = some (.fr, .list ((sset eSta xs).map eSta)) := sortedSet_ev eSta (sortable_Sta2 hl) setOk_Sta (few_in eSta inj_Sta h hU)
theorem len_Kn {k : Kn} (hl : k.length ≤ 1000) : bltD .len [.dict (eKn k)] = some (.im, .int (k.length : Int)) := by
  have hf : fitsN (eKn k).length = true := by simp [fitsN, eKn]; omega
  simp only [bltD, lenD, keysT_eKn, hf, Bool.and_self, if_true, Option.map_some]
  simp [eKn]
def lev (S : So) : Nat → List Sta
  | 0 => firsts S
  | j + 1 => sset eSta ((lev S j).flatMap (steps S))
theorem lev_mem {S : So} : ∀ {j : Nat} {t : Sta}, t ∈ lev S j ↔ ∃ f ∈ firsts S, Wlk (steps S) j f t
  | 0, t => by
    constructor
    · intro h; exact ⟨t, h, .nil t⟩
    · rintro ⟨f, h, w⟩
      cases w
      exact h
  | j + 1, t => by
    unfold lev
    rw [sset_mem eSta inj_Sta, List.mem_flatMap]
    constructor
    · rintro ⟨u, hu, ht⟩
      obtain ⟨f, hf, w⟩ := lev_mem.mp hu
      exact ⟨f, hf, .snoc w ht⟩
    · rintro ⟨f, hf, w⟩
      cases w with
      | snoc w q => exact ⟨_, lev_mem.mpr ⟨f, hf, w⟩, q⟩
theorem lev_has {S : So} (ok : SoOk S) (ab : Ab S) {j : Nat} {t : Sta} (h : t ∈ lev S j) : has (metK S) t = true := by
  obtain ⟨f, hf, w⟩ := lev_mem.mp h
  exact (met_iff ok ab).mpr ⟨f, hf, w.rch⟩
theorem lev_univ {S : So} (ok : SoOk S) (ab : Ab S) {j : Nat} {t : Sta} (h : t ∈ lev S j) : t ∈ univA S := by
  obtain ⟨q, hq, rfl⟩ := List.mem_map.mp (has_mem.mp (lev_has ok ab h))
  exact (met_wk ok ab).sub q hq
theorem lev_len {S : So} (ok : SoOk S) (ab : Ab S) (j : Nat) : (lev S j).length ≤ 100 := by
  cases j with
  | zero => show (firsts S).length ≤ 100; rw [firsts_len]; have := ok.s4; omega
  | succ j =>
    have nd : (lev S (j + 1)).Nodup := by
      unfold lev sset
      have pm := dedupT_nodup eSta inj_Sta ((lev S j).flatMap (steps S))
      have : (isortT eSta (dedupT eSta ((lev S j).flatMap (steps S)))).Perm (dedupT eSta ((lev S j).flatMap (steps S))) := isortT_perm _ _
      exact this.nodup_iff.mpr pm
    have := nodup_le nd fun t ht => lev_univ ok ab ht
    have := univA_len ok ab
    omega
where
  isortT_perm {α : Type} (enc : α → D) : ∀ l : List α, (isortT enc l).Perm l
  | [] => .refl _
  | x :: r => by
    have ins : ∀ (x : α) (l : List α), (insT enc x l).Perm (x :: l) := by
      intro x l
      induction l with
      | nil => exact .refl _
      | cons y l ih =>
        simp only [insT]
        split
        · exact (ih.cons y).trans (List.Perm.swap ..)
        · exact .refl _
    exact (ins x _).trans ((isortT_perm enc r).cons x)
theorem sset_nil {xs : List Sta} : sset eSta xs = [] ↔ xs = [] := by
  constructor
  · intro h
    cases xs with
    | nil => rfl
    | cons x r =>
      have : x ∈ sset eSta (x :: r) := (sset_mem eSta inj_Sta).mpr List.mem_cons_self
      rw [h] at this
      cases this
  · intro h; rw [h]; rfl
theorem level_p {step : Sta → List Sta} {k : Kn} (G : Gr step k) {F : FT0} {x0 : Option Slot} {b : Bool} {l : List Sta} (hl : ∀ t ∈ l, has k t = true) (hll : l.length ≤ 100) (x3 x5 : Option Slot) : ∃ y5, trips F (.nm 5) [.ext 4 (.idx (.v 1) (.v 5))] (l.map eSta) [x0, some (b, .dict (eKn k)), some (false, .list (l.map eSta)), x3, some (true, .list ([])), x5] = some (.nx [x0, some (b, .dict (eKn k)), some (false, .list (l.map eSta)), x3, some (true, .list ((l.flatMap step).map eSta)), y5]) := by
  obtain ⟨ρ', h1, y5, h2⟩ := trips_at (F := F) (t := .nm 5) (body := [.ext 4 (.idx (.v 1) (.v 5))]) (enc := eSta) (ρ := [x0, some (b, .dict (eKn k)), some (false, .list (l.map eSta)), x3, some (true, .list ([])), x5])
    (fun d ρ => ∃ y5, ρ = [x0, some (b, .dict (eKn k)), some (false, .list (l.map eSta)), x3, some (true, .list ((d.flatMap step).map eSta)), y5]) l ⟨x5, rfl⟩ (fun d t r ρ e ⟨y5, hρ⟩ => by
      subst hρ
      have ht : has k t = true := hl t (by rw [e]; simp)
      have hd : d.length ≤ 100 := by rw [e] at hll; simp at hll; omega
      have a1 := flat_len (f := step) (k := 32) (l := d) fun u hu => G.few u (hl u (by rw [e]; exact List.mem_append_left _ hu))
      have a2 := G.few t ht
      have hx : ((d.flatMap step).map eSta).length + ((step t).map eSta).length ≤ 10000 := by rw [List.length_map, List.length_map]; omega
      refine ⟨_, _, rfl, .inl ?_, some (false, eSta t), rfl⟩
      cases b <;> simp_arith [G.idx ht, extE_s hx]
      all_goals simp)
  exact ⟨y5, by rw [h1, h2]⟩
theorem level_l {step : Sta → List Sta} {k : Kn} (G : Gr step k) {F : FT0} {x1 : Option Slot} {l : List Sta} (hl : ∀ t ∈ l, has k t = true) (hll : l.length ≤ 100) (x3 x5 : Option Slot) : ∃ y5, trips F (.nm 5) [.ext 4 (.idx (.v 0) (.v 5))] (l.map eSta) [some (false, .dict (eKn k)), x1, some (false, .list (l.map eSta)), x3, some (true, .list ([])), x5] = some (.nx [some (false, .dict (eKn k)), x1, some (false, .list (l.map eSta)), x3, some (true, .list ((l.flatMap step).map eSta)), y5]) := by
  obtain ⟨ρ', h1, y5, h2⟩ := trips_at (F := F) (t := .nm 5) (body := [.ext 4 (.idx (.v 0) (.v 5))]) (enc := eSta) (ρ := [some (false, .dict (eKn k)), x1, some (false, .list (l.map eSta)), x3, some (true, .list ([])), x5])
    (fun d ρ => ∃ y5, ρ = [some (false, .dict (eKn k)), x1, some (false, .list (l.map eSta)), x3, some (true, .list ((d.flatMap step).map eSta)), y5]) l ⟨x5, rfl⟩ (fun d t r ρ e ⟨y5, hρ⟩ => by
      subst hρ
      have ht : has k t = true := hl t (by rw [e]; simp)
      have hd : d.length ≤ 100 := by rw [e] at hll; simp at hll; omega
      have a1 := flat_len (f := step) (k := 32) (l := d) fun u hu => G.few u (hl u (by rw [e]; exact List.mem_append_left _ hu))
      have a2 := G.few t ht
      have hx : ((d.flatMap step).map eSta).length + ((step t).map eSta).length ≤ 10000 := by rw [List.length_map, List.length_map]; omega
      refine ⟨_, _, rfl, .inl ?_, some (false, eSta t), rfl⟩
      simp_arith [G.idx ht, extE_s hx]
      simp)
  exact ⟨y5, by rw [h1, h2]⟩

/-! ### rounds and levels -/
theorem univ_len4 (S : So) (s : Nat) (c d : Bool) : (univ S s c d).length ≤ S.ps.length * 4 := by
  have := flat_len (f := fun p => (marks4 c d).map fun m => (⟨s, p, m⟩ : Sta)) (k := 4) (l := List.range S.ps.length) fun p _ => by simp [marks4]
  simpa [univ] using this
theorem univA_len4 (S : So) : (univA S).length ≤ S.ss.length * (S.ps.length * 4) := by
  have := flat_len (f := fun t : Sta => univ S t.s t.m.c t.m.d) (k := S.ps.length * 4) (l := firsts S) fun t _ => univ_len4 S _ _ _
  rw [firsts_len] at this
  exact this
theorem rch_univ {S : So} (ok : SoOk S) (ab : Ab S) {f t : Sta} (hf : f ∈ firsts S) (r : Rch (steps S) f t) : t ∈ univ S f.s f.m.c f.m.d := by
  induction r with
  | refl => exact univ_mem.mpr ⟨rfl, (firsts_in ok hf).p, rfl, rfl⟩
  | tail _ q ih =>
    obtain ⟨h1, h2, h3, h4⟩ := univ_mem.mp ih
    obtain ⟨k1, k2, k3, k4⟩ := steps_in ab h2 q
    exact univ_mem.mpr ⟨k1.trans h1, k2, k3.trans h3, k4.trans h4⟩
theorem lev_dead {S : So} (ok : SoOk S) (ab : Ab S) (hr : ∀ t, has (metK S) t = true → ¬ Rnd (steps S) t) : lev S (metK S).length = [] ∧ lev S (S.ps.length * 4) = [] := by
  have key : ∀ (n : Nat) (U : Sta → List Sta), (∀ f ∈ firsts S, ∀ x, Rch (steps S) f x → x ∈ U f) → (∀ f ∈ firsts S, (U f).length ≤ n) → lev S n = [] := fun n U h1 h2 => by
    cases e : lev S n with
    | nil => rfl
    | cons t r =>
      have ht : t ∈ lev S n := by rw [e]; exact List.mem_cons_self
      obtain ⟨f, hf, w⟩ := lev_mem.mp ht
      obtain ⟨x, hx, hr'⟩ := wlk_rnd w (h1 f hf) (h2 f hf)
      exact absurd hr' (hr x ((met_iff ok ab).mpr ⟨f, hf, hx⟩))
  refine ⟨key _ (fun _ => ksOf (metK S)) (fun f hf x hx => has_mem.mp ((met_iff ok ab).mpr ⟨f, hf, hx⟩)) (fun f hf => by rw [List.length_map]; exact Nat.le_refl _), key _ (fun f => univ S f.s f.m.c f.m.d) (fun f hf x hx => rch_univ ok ab hf hx) fun f hf => univ_len4 S _ _ _⟩
theorem lev_alive {S : So} (ok : SoOk S) (ab : Ab S) {t : Sta} (ht : has (metK S) t = true) (hr : Rnd (steps S) t) (j : Nat) : lev S j ≠ [] := by
  obtain ⟨f, hf, r⟩ := (met_iff ok ab).mp ht
  obtain ⟨b, w⟩ := rnd_long r hr j
  intro e
  have : b ∈ lev S j := lev_mem.mpr ⟨f, hf, w⟩
  rw [e] at this
  cases this
/-- the first empty level -/
theorem lev_least {S : So} {n : Nat} (h : lev S n = []) : ∃ N, N ≤ n ∧ lev S N = [] ∧ ∀ j, j < N → lev S j ≠ [] := by
  induction n with
  | zero => exact ⟨0, Nat.le_refl _, h, fun j hj => absurd hj (Nat.not_lt_zero _)⟩
  | succ n ih =>
    by_cases e : lev S n = []
    · obtain ⟨N, h1, h2, h3⟩ := ih e
      exact ⟨N, Nat.le_succ_of_le h1, h2, h3⟩
    · have mono : ∀ j m, lev S j = [] → lev S (j + m) = [] := fun j m hj => by
        induction m with
        | zero => exact hj
        | succ m ih =>
          show sset eSta ((lev S (j + m)).flatMap (steps S)) = []
          rw [ih]; rfl
      refine ⟨n + 1, Nat.le_refl _, h, fun j hj z => e ?_⟩
      have := mono j (n - j) z
      have en : j + (n - j) = n := by omega
      rw [en] at this
      exact this
theorem firsts_ne {S : So} (ok : SoOk S) : lev S 0 ≠ [] := fun h => by
  have e := congrArg List.length (show firsts S = [] from h)
  rw [firsts_len, List.length_nil] at e
  have := ok.s1
  omega
theorem roundsL_nil {S : So} : roundsL S = [] ↔ ∀ t, has (metK S) t = true → ¬ Rnd (steps S) t := by
  unfold roundsL
  constructor
  · intro h t ht hr
    have : t ∈ isortT eSta ((ksOf (metK S)).filter fun t => @decide (Rnd (steps S) t) (Classical.propDecidable _)) := (isortT_mem eSta).mpr (List.mem_filter.mpr ⟨has_mem.mp ht, by simpa using hr⟩)
    rw [h] at this
    cases this
  · intro h
    cases e : isortT eSta ((ksOf (metK S)).filter fun t => @decide (Rnd (steps S) t) (Classical.propDecidable _)) with
    | nil => rfl
    | cons t r =>
      have ht : t ∈ isortT eSta ((ksOf (metK S)).filter fun t => @decide (Rnd (steps S) t) (Classical.propDecidable _)) := by rw [e]; exact List.mem_cons_self
      obtain ⟨h1, h2⟩ := List.mem_filter.mp ((isortT_mem eSta).mp ht)
      exact absurd (by simpa using h2) (h t (has_mem.mpr h1))
end Rk

/-! Longest plays, and numbers of plays. -/
set_option autoImplicit false
set_option linter.all false
set_option maxRecDepth 100000
namespace Rk
open PySem PySem.W K60
local macro_rules
  | `(tactic| simp_arith [$hs,*]) => `(tactic| simp only [b_cons, b_nil, seqE_nx, seqE_rt, s_set, s_setT, s_par, s_exp, s_for, s_whl, s_ite, s_ret, s_retN, s_pass, s_cont, s_app, s_ext, s_pop, s_put, retE_im, retE_fr, expE_s, callE_rt, callE_nx,
  v_v, v_c, v_tup, v_lst, v_emp, v_bin, v_cmp, v_le2, v_and, v_or, v_not, v_ite, v_idx, v_from, v_upto, v_comp, v_compIf, v_call, v_blt, k_nil, k_cons, l_nil, l_cons, vE_im, vE_ow, op2_s, cm2_s, andE_t, andE_f, orE_t, orE_f, notE_s, iteE_t, iteE_f, consE_s, boolOf_s, keepOf_im, keepOf_fr, blE_s, cutE_t, cutE_f,
  caE_d, backOf_d, cpE_d, free_nm, free_tp, notOwn_n, notOwn_f, List.all_cons, List.all_nil, walk_seq, lent, List.any_cons, List.any_nil, reduceCtorEq, decide_false, decide_true, Bool.or_self, Bool.or_false, Bool.false_or, Bool.false_and, Bool.and_false, Bool.true_and, Bool.and_true, Bool.not_true, Bool.not_false, Bool.false_eq_true, if_false, if_true, ite_true, ite_false,
  List.getElem?_cons_zero, List.getElem?_cons_succ, List.set_cons_zero, List.set_cons_succ, Option.map_some, List.map_cons, List.map_nil, lt_int, gt_int, le_int, eq_int, ne_int, eq_str, ne_str, in_sg, notin_sg, len_tup, len_lst, isInt_int, isBool_int, isStr_str, sub_int, add_int, all_map, any_map, $hs,*])
abbrev lonB : List Sm := [.set (.nm 4) (.lst []), .for_ (.nm 5) .seq [.v 2] [.ext 4 (.idx (.v 1) (.v 5))], .par [2, 3] [.blt .sortedSet [.v 4], .bin .add (.v 3) (.c (.int 1))]]
abbrev lawlB : List Sm := [.set (.nm 4) (.lst []), .for_ (.nm 5) .seq [.v 2] [.ext 4 (.idx (.v 0) (.v 5))], .ite (.cmp .eq (.v 4) (.lst [])) [.ret (.v 3)] [], .par [2, 3] [.blt .sortedSet [.v 4], .bin .add (.v 3) (.c (.int 1))]]
section
variable {P : Tb} (n : Nat) {S : So} (ok : SoOk S) (ab : Ab S) (hu : (univA S).length < 63)
include ok ab hu
theorem lev_sset (j : Nat) : bltD .sortedSet [.list (((lev S j).flatMap (steps S)).map eSta)] = some (.fr, .list ((lev S (j + 1)).map eSta)) := by
  have l1 := lev_len ok ab j
  have a1 := flat_len (f := steps S) (k := 32) (l := lev S j) fun t _ => steps_len ab.sm t
  exact sset_StaU (U := univA S) (fun x hx => lev_univ ok ab (j := j + 1) ((sset_mem eSta inj_Sta).mpr hx)) hu (by omega)
theorem long_go {F : FT0} (j : Nat) (x4 x5 : Option Slot) : ∃ y4 y5, exs F lonB [some (false, eSo S), some (true, .dict (eKn (metK S))), some (true, .list ((lev S j).map eSta)), some (false, .int (j : Int)), x4, x5] = some (.nx [some (false, eSo S), some (true, .dict (eKn (metK S))), some (true, .list ((lev S (j + 1)).map eSta)), some (false, .int ((j + 1 : Nat) : Int)), y4, y5]) := by
  have G := met_gr ok ab
  obtain ⟨y5, h⟩ := level_p G (F := F) (x0 := some (false, eSo S)) (b := true) (l := lev S j) (fun t ht => lev_has ok ab ht) (lev_len ok ab j) (some (false, .int (j : Int))) x5
  have th : thaws [.v 2] [some (false, eSo S), some (true, .dict (eKn (metK S))), some (true, .list ((lev S j).map eSta)), some (false, .int (j : Int)), some (true, .list []), x5] = [some (false, eSo S), some (true, .dict (eKn (metK S))), some (false, .list ((lev S j).map eSta)), some (false, .int (j : Int)), some (true, .list []), x5] := rfl
  have e1 : ((j + 1 : Nat) : Int) = (j : Int) + 1 := by omega
  have hp : ∀ z : Int, parE [2, 3] [some (false, eSo S), some (true, .dict (eKn (metK S))), some (false, .list ((lev S j).map eSta)), some (false, .int (j : Int)), some (true, .list (((lev S j).flatMap (steps S)).map eSta)), y5] (some [(.fr, .list ((lev S (j + 1)).map eSta)), (.im, .int z)]) = some (.nx [some (false, eSo S), some (true, .dict (eKn (metK S))), some (true, .list ((lev S (j + 1)).map eSta)), some (false, .int z), some (true, .list (((lev S j).flatMap (steps S)).map eSta)), y5]) := fun _ => rfl
  refine ⟨some (true, .list (((lev S j).flatMap (steps S)).map eSta)), y5, ?_⟩
  rw [e1]
  simp_arith [setE_fr _ 4 (.lst []) _ _ rfl, th, forE, items_lst, h, lev_sset ok ab hu j, hp]
theorem long_loop {F : FT0} {N : Nat} (hN : lev S N = []) (hl : ∀ j, j < N → lev S j ≠ []) : ∀ (r j M : Nat) (x4 x5 : Option Slot), j + r = N → r ≤ M → ∃ y4 y5, rounds F (.cmp .ne (.v 2) (.lst [])) lonB (M + 1) [some (false, eSo S), some (true, .dict (eKn (metK S))), some (true, .list ((lev S j).map eSta)), some (false, .int (j : Int)), x4, x5] = some (.nx [some (false, eSo S), some (true, .dict (eKn (metK S))), some (true, .list []), some (false, .int (N : Int)), y4, y5]) := by
  intro r
  induction r with
  | zero =>
    intro j M x4 x5 e hM
    have ej : j = N := by omega
    subst ej
    refine ⟨x4, x5, ?_⟩
    rw [hN]
    have hz : cmpD .ne (.list ([] : List D)) (.list []) = some false := rfl
    exact rounds_end (by simp_arith [List.map_nil, hz])
  | succ r ih =>
    intro j M x4 x5 e hM
    obtain ⟨y4, y5, hb⟩ := long_go ok ab hu (F := F) j x4 x5
    have hne : (lev S j).isEmpty = false := by
      have := hl j (by omega)
      cases h : lev S j with
      | nil => exact absurd h this
      | cons _ _ => rfl
    cases M with
    | zero => omega
    | succ M =>
      obtain ⟨z4, z5, hr⟩ := ih (j + 1) M y4 y5 (by omega) (by omega)
      refine ⟨z4, z5, ?_⟩
      rw [rounds_go (by simp_arith [ne_nil_Stas, hne]) hb]
      exact hr
theorem law_go {F : FT0} {x1 : Option Slot} (j : Nat) (x4 x5 : Option Slot) (hne : lev S (j + 1) ≠ []) : ∃ y4 y5, exs F lawlB [some (false, .dict (eKn (metK S))), x1, some (true, .list ((lev S j).map eSta)), some (false, .int (j : Int)), x4, x5] = some (.nx [some (false, .dict (eKn (metK S))), x1, some (true, .list ((lev S (j + 1)).map eSta)), some (false, .int ((j + 1 : Nat) : Int)), y4, y5]) := by
  have G := met_gr ok ab
  obtain ⟨y5, h⟩ := level_l G (F := F) (x1 := x1) (l := lev S j) (fun t ht => lev_has ok ab ht) (lev_len ok ab j) (some (false, .int (j : Int))) x5
  have th : thaws [.v 2] [some (false, .dict (eKn (metK S))), x1, some (true, .list ((lev S j).map eSta)), some (false, .int (j : Int)), some (true, .list []), x5] = [some (false, .dict (eKn (metK S))), x1, some (false, .list ((lev S j).map eSta)), some (false, .int (j : Int)), some (true, .list []), x5] := rfl
  have e1 : ((j + 1 : Nat) : Int) = (j : Int) + 1 := by omega
  have hp : ∀ z : Int, parE [2, 3] [some (false, .dict (eKn (metK S))), x1, some (false, .list ((lev S j).map eSta)), some (false, .int (j : Int)), some (true, .list (((lev S j).flatMap (steps S)).map eSta)), y5] (some [(.fr, .list ((lev S (j + 1)).map eSta)), (.im, .int z)]) = some (.nx [some (false, .dict (eKn (metK S))), x1, some (true, .list ((lev S (j + 1)).map eSta)), some (false, .int z), some (true, .list (((lev S j).flatMap (steps S)).map eSta)), y5]) := fun _ => rfl
  have hfe : ((lev S j).flatMap (steps S)).isEmpty = false := by
    cases e : (lev S j).flatMap (steps S) with
    | nil => exact absurd (sset_nil.mpr e) hne
    | cons _ _ => rfl
  refine ⟨some (true, .list (((lev S j).flatMap (steps S)).map eSta)), y5, ?_⟩
  rw [e1]
  simp_arith [setE_fr _ 4 (.lst []) _ _ rfl, th, forE, items_lst, h, eq_nil_Stas, hfe, lev_sset ok ab hu j, hp]
theorem law_ret {F : FT0} {x1 : Option Slot} (j : Nat) (x4 x5 : Option Slot) (he : lev S (j + 1) = []) : exs F lawlB [some (false, .dict (eKn (metK S))), x1, some (true, .list ((lev S j).map eSta)), some (false, .int (j : Int)), x4, x5] = some (.rt (false, .int (j : Int))) := by
  have G := met_gr ok ab
  obtain ⟨y5, h⟩ := level_l G (F := F) (x1 := x1) (l := lev S j) (fun t ht => lev_has ok ab ht) (lev_len ok ab j) (some (false, .int (j : Int))) x5
  have th : thaws [.v 2] [some (false, .dict (eKn (metK S))), x1, some (true, .list ((lev S j).map eSta)), some (false, .int (j : Int)), some (true, .list []), x5] = [some (false, .dict (eKn (metK S))), x1, some (false, .list ((lev S j).map eSta)), some (false, .int (j : Int)), some (true, .list []), x5] := rfl
  have hfe : (lev S j).flatMap (steps S) = [] := sset_nil.mp he
  rw [hfe] at h
  have hz : cmpD .eq (.list ([] : List D)) (.list []) = some true := rfl
  simp_arith [setE_fr _ 4 (.lst []) _ _ rfl, th, forE, items_lst, h, List.map_nil, hz]
theorem law_loop_ret {F : FT0} {x1 : Option Slot} {N : Nat} (hN : lev S (N + 1) = []) (hl : ∀ j, j ≤ N → lev S j ≠ []) (hk : N ≤ (metK S).length) : ∀ (r j M : Nat) (x4 x5 : Option Slot), j + r = N → r ≤ M → rounds F (.cmp .le (.v 3) (.blt .len [.v 0])) lawlB (M + 1) [some (false, .dict (eKn (metK S))), x1, some (true, .list ((lev S j).map eSta)), some (false, .int (j : Int)), x4, x5] = some (.rt (false, .int (N : Int))) := by
  have ln := len_Kn (k := metK S) (by have := met_len' ok ab; omega)
  intro r
  induction r with
  | zero =>
    intro j M x4 x5 e hM
    have ej : j = N := by omega
    subst ej
    have dd : decide ((j : Int) ≤ ((metK S).length : Int)) = true := by rw [decide_eq_true_eq]; omega
    exact rounds_ret (by simp_arith [ln, dd]) (law_ret ok ab hu j x4 x5 hN)
  | succ r ih =>
    intro j M x4 x5 e hM
    obtain ⟨y4, y5, hb⟩ := law_go ok ab hu (F := F) (x1 := x1) j x4 x5 (hl (j + 1) (by omega))
    have dd : decide ((j : Int) ≤ ((metK S).length : Int)) = true := by rw [decide_eq_true_eq]; omega
    cases M with
    | zero => omega
    | succ M =>
      rw [rounds_go (by simp_arith [ln, dd]) hb]
      exact ih (j + 1) M y4 y5 (by omega) (by omega)
theorem law_loop_no {F : FT0} {x1 : Option Slot} (hl : ∀ j, lev S j ≠ []) : ∀ (r j M : Nat) (x4 x5 : Option Slot), j + r = (metK S).length + 1 → r ≤ M → ∃ ρ', rounds F (.cmp .le (.v 3) (.blt .len [.v 0])) lawlB (M + 1) [some (false, .dict (eKn (metK S))), x1, some (true, .list ((lev S j).map eSta)), some (false, .int (j : Int)), x4, x5] = some (.nx ρ') := by
  have ln := len_Kn (k := metK S) (by have := met_len' ok ab; omega)
  intro r
  induction r with
  | zero =>
    intro j M x4 x5 e hM
    have dd : decide ((j : Int) ≤ ((metK S).length : Int)) = false := by rw [decide_eq_false_iff_not]; omega
    exact ⟨_, rounds_end (by simp_arith [ln, dd])⟩
  | succ r ih =>
    intro j M x4 x5 e hM
    obtain ⟨y4, y5, hb⟩ := law_go ok ab hu (F := F) (x1 := x1) j x4 x5 (hl (j + 1))
    have dd : decide ((j : Int) ≤ ((metK S).length : Int)) = true := by rw [decide_eq_true_eq]; omega
    cases M with
    | zero => omega
    | succ M =>
      rw [rounds_go (by simp_arith [ln, dd]) hb]
      exact ih (j + 1) M y4 y5 (by omega) (by omega)
end
/-- the longest play, if there is one -/
inductive Due (S : So) : D → Prop
  | none : (∃ t, has (metK S) t = true ∧ Rnd (steps S) t) → Due S .none
  | some {N : Nat} : (∀ t, has (metK S) t = true → ¬ Rnd (steps S) t) → lev S (N + 1) = [] → (∀ j, j ≤ N → lev S j ≠ []) → N ≤ (metK S).length → N + 1 ≤ S.ps.length * 4 → Due S (.int (N : Int))
theorem due_ex {S : So} (ok : SoOk S) (ab : Ab S) : ∃ d, Due S d := by
  by_cases h : ∃ t, has (metK S) t = true ∧ Rnd (steps S) t
  · exact ⟨.none, .none h⟩
  · have h' : ∀ t, has (metK S) t = true → ¬ Rnd (steps S) t := fun t h1 h2 => h ⟨t, h1, h2⟩
    obtain ⟨e1, e2⟩ := lev_dead ok ab h'
    obtain ⟨N, a1, a2, a3⟩ := lev_least e1
    have a4 : N ≤ S.ps.length * 4 := Nat.not_lt.mp fun z => a3 _ z e2
    cases N with
    | zero => exact absurd a2 (firsts_ne ok)
    | succ N => exact ⟨_, .some h' a2 (fun j hj => a3 j (by omega)) (by omega) a4⟩
section
variable {P : Tb} (n : Nat) (Z : Endless P) {S : So} (ok : SoOk S) (ab : Ab S) (hu : (univA S).length < 63)
include Z ok ab hu
theorem r_longest {d : D} (hd : Due S d) : run P (n + 9) 48 [eSo S] = some (false, d) := by
  rw [run_go Z.p48 _ _ rfl]
  show callE (exs _ K52.f_longest_play.body [some (false, eSo S), none, none, none, none, none]) = _
  unfold K52.f_longest_play
  have rr := r_find_rounds n Z ok ab
  have nn := ne_nil_Stas (roundsL S)
  cases hd with
  | none h =>
    have hne : (roundsL S).isEmpty = false := by
      cases e : roundsL S with
      | nil =>
        obtain ⟨t, h1, h2⟩ := h
        exact absurd h2 (roundsL_nil.mp e t h1)
      | cons _ _ => rfl
    simp_arith [r_check_story Z.su.st.st n ok, rr, nn, hne]
  | @some N h h1 h2 h3 h4 =>
    have hne : roundsL S = [] := roundsL_nil.mpr h
    rw [hne] at nn rr
    obtain ⟨y4, y5, hl⟩ := long_loop ok ab hu (F := run P (n + 8)) h1 (fun j hj => h2 j (by omega)) (N + 1) 0 (WF - 1) none none (by omega) (by have := ok.p6; unfold WF; omega)
    have hwf : WF - 1 + 1 = WF := rfl
    rw [hwf] at hl
    have hp : parE [1, 2, 3] [some (false, eSo S), none, none, none, none, none] (some [(.fr, .dict (eKn (metK S))), (.fr, .list ((firsts S).map eSta)), (.im, .int 0)]) = some (.nx [some (false, eSo S), some (true, .dict (eKn (metK S))), some (true, .list ((lev S 0).map eSta)), some (false, .int ((0 : Nat) : Int)), none, none]) := rfl
    have e1 : ((N + 1 : Nat) : Int) - 1 = (N : Int) := by omega
    simp only [List.map_nil, List.isEmpty_nil, Bool.not_true] at nn rr
    simp_arith [r_check_story Z.su.st.st n ok, rr, nn, r_find_met' (n + 1) Z.su ok ab Z.p18 Z.p19, r_firsts (n + 7) Z.su.st.p10, hp, hl, e1]
theorem r_law_longest {d : D} (hd : Due S d) : run P (n + 1) 49 [.dict (eKn (metK S)), .list ((firsts S).map eSta)] = some (false, d) := by
  rw [run_go Z.p49 _ _ rfl]
  show callE (exs _ K52.f__law_longest.body [some (false, .dict (eKn (metK S))), some (false, .list ((firsts S).map eSta)), none, none, none, none]) = _
  unfold K52.f__law_longest
  have hli : bltD .list [.list ((firsts S).map eSta)] = some (.fr, .list ((firsts S).map eSta)) := rfl
  have hp : parE [2, 3] [some (false, .dict (eKn (metK S))), some (false, .list ((firsts S).map eSta)), none, none, none, none] (some [(.fr, .list ((firsts S).map eSta)), (.im, .int 0)]) = some (.nx [some (false, .dict (eKn (metK S))), some (false, .list ((firsts S).map eSta)), some (true, .list ((lev S 0).map eSta)), some (false, .int ((0 : Nat) : Int)), none, none]) := rfl
  have hwf : WF - 1 + 1 = WF := rfl
  have ml := met_len' ok ab
  cases hd with
  | none h =>
    obtain ⟨t, h1, h2⟩ := h
    obtain ⟨ρ', hl⟩ := law_loop_no ok ab hu (F := run P n) (x1 := some (false, .list ((firsts S).map eSta))) (fun j => lev_alive ok ab h1 h2 j) ((metK S).length + 1) 0 (WF - 1) none none (by omega) (by unfold WF; omega)
    rw [hwf] at hl
    simp_arith [hli, hp, hl]
  | @some N h h1 h2 h3 h4 =>
    have hl := law_loop_ret ok ab hu (F := run P n) (x1 := some (false, .list ((firsts S).map eSta))) h1 h2 h3 N 0 (WF - 1) none none (by omega) (by unfold WF; omega)
    rw [hwf] at hl
    simp_arith [hli, hp, hl]
end
end Rk

/-! Numbers of plays. -/
set_option autoImplicit false
set_option linter.all false
set_option maxRecDepth 100000
namespace Rk
open PySem PySem.W K60
local macro_rules
  | `(tactic| simp_arith [$hs,*]) => `(tactic| simp only [b_cons, b_nil, seqE_nx, seqE_rt, s_set, s_setT, s_par, s_exp, s_for, s_whl, s_ite, s_ret, s_retN, s_pass, s_cont, s_app, s_ext, s_pop, s_put, retE_im, retE_fr, expE_s, callE_rt, callE_nx,
  v_v, v_c, v_tup, v_lst, v_emp, v_bin, v_cmp, v_le2, v_and, v_or, v_not, v_ite, v_idx, v_from, v_upto, v_comp, v_compIf, v_call, v_blt, k_nil, k_cons, l_nil, l_cons, vE_im, vE_ow, op2_s, cm2_s, andE_t, andE_f, orE_t, orE_f, notE_s, iteE_t, iteE_f, consE_s, boolOf_s, keepOf_im, keepOf_fr, blE_s, cutE_t, cutE_f,
  caE_d, backOf_d, cpE_d, free_nm, free_tp, notOwn_n, notOwn_f, List.all_cons, List.all_nil, walk_seq, lent, List.any_cons, List.any_nil, reduceCtorEq, decide_false, decide_true, Bool.or_self, Bool.or_false, Bool.false_or, Bool.false_and, Bool.and_false, Bool.true_and, Bool.and_true, Bool.not_true, Bool.not_false, Bool.false_eq_true, if_false, if_true, ite_true, ite_false,
  List.getElem?_cons_zero, List.getElem?_cons_succ, List.set_cons_zero, List.set_cons_succ, Option.map_some, List.map_cons, List.map_nil, lt_int, gt_int, le_int, eq_int, ne_int, eq_str, ne_str, in_sg, notin_sg, len_tup, len_lst, isInt_int, isBool_int, isStr_str, sub_int, add_int, all_map, any_map, $hs,*])
abbrev Ct := List (Sta × Int)
def eKi (c : Ct) : List (D × D) := c.map fun q => (eSta q.1, .int q.2)
def cget (c : Ct) (t : Sta) : Int := match c.find? fun q => decide (q.1 = t) with
  | some q => q.2
  | none => 0
def cput (t : Sta) (v : Int) : Ct → Ct
  | [] => [(t, v)]
  | p :: r => if p.1 = t then (p.1, v) :: r else p :: cput t v r
theorem keysT_eKi (c : Ct) : keysT (eKi c) = true := by
  simp only [keysT, eKi, List.all_map]
  exact List.all_eq_true.mpr fun x _ => rfl
theorem dget_eKi (t : Sta) : ∀ c : Ct, dget (eKi c) (eSta t) = (c.find? fun q => decide (q.1 = t)).map fun q => .int q.2
  | [] => rfl
  | p :: c => by
    have ih := dget_eKi t c
    have e : dget (eKi (p :: c)) (eSta t) = if PyData.eqv (eSta p.1) (eSta t) then some (.int p.2) else dget (eKi c) (eSta t) := rfl
    rw [e, eqv_Sta, ih, List.find?_cons]
    cases decide (p.1 = t) <;> simp
theorem get_eKi (c : Ct) (t : Sta) : bltD .get2 [.dict (eKi c), eSta t, .int 0] = some (.im, .int (cget c t)) := by
  have hk : keyT (eSta t) = true := rfl
  have hp : pur (.int 0) = true := rfl
  simp only [bltD, hk, hp, keysT_eKi, Bool.and_self, if_true, dget_eKi, cget]
  cases c.find? fun q => decide (q.1 = t) <;> rfl
theorem idx_eKi {c : Ct} {t : Sta} (h : t ∈ c.map (·.1)) : ∃ v : Int, idxD (.dict (eKi c)) (eSta t) = some (.im, .int v) := by
  have hk : keyT (eSta t) = true := rfl
  have e : idxD (.dict (eKi c)) (eSta t) = if keyT (eSta t) && keysT (eKi c) then (dget (eKi c) (eSta t)).map (Tag.im, ·) else if keyI (eSta t) && keysI (eKi c) then (dget (eKi c) (eSta t)).map (Tag.im, ·) else none := rfl
  obtain ⟨q, hq, rfl⟩ := List.mem_map.mp h
  cases hf : c.find? fun p => decide (p.1 = q.1) with
  | none =>
    have := List.find?_eq_none.mp hf q hq
    simp at this
  | some p =>
    refine ⟨p.2, ?_⟩
    rw [e, hk, keysT_eKi, dget_eKi, hf]
    rfl
theorem dput_eKi (t : Sta) (v : Int) : ∀ c : Ct, dput (eKi c) (eSta t) (.int v) = eKi (cput t v c)
  | [] => rfl
  | p :: c => by
    have e : dput (eKi (p :: c)) (eSta t) (.int v) = if PyData.eqv (eSta p.1) (eSta t) then (eSta p.1, .int v) :: eKi c else (eSta p.1, .int p.2) :: dput (eKi c) (eSta t) (.int v) := rfl
    rw [e, eqv_Sta, dput_eKi t v c]
    by_cases h : p.1 = t
    · simp [h, cput, eKi]
    · simp [h, cput, eKi]
theorem put_eKi {x : Nat} {ρ : Env} {c : Ct} {t : Sta} {v : Int} (hl : c.length ≤ 10000) : putE x ρ (some (some (true, .dict (eKi c)))) (some (.int v)) (some (eSta t)) = some (.nx (ρ.set x (some (true, .dict (eKi (cput t v c)))))) := by
  have hk : keyT (eSta t) = true := rfl
  have hf : fitsN (eKi c).length = true := by simp [fitsN, eKi]; omega
  simp only [putE, hk, keysT_eKi, hf, Bool.and_self, if_true, dput_eKi]
theorem cput_keys (t : Sta) (v : Int) : ∀ c : Ct, (c.map (·.1)).Nodup → ((cput t v c).map (·.1)).Nodup ∧ ∀ u, u ∈ (cput t v c).map (·.1) ↔ u = t ∨ u ∈ c.map (·.1)
  | [], _ => by simp [cput]
  | p :: r, h => by
    rw [List.map_cons, List.nodup_cons] at h
    obtain ⟨h1, h2⟩ := cput_keys t v r h.2
    by_cases e : p.1 = t
    · simp only [cput, e, if_true, List.map_cons, List.nodup_cons, List.mem_cons]
      rw [e] at h
      exact ⟨h, fun u => ⟨fun z => z.elim .inl fun z => .inr (.inr z), fun z => z.elim .inl fun z => z⟩⟩
    · have ec : cput t v (p :: r) = p :: cput t v r := by simp [cput, e]
      rw [ec, List.map_cons, List.nodup_cons]
      refine ⟨⟨fun z => ((h2 p.1).mp z).elim e h.1, h1⟩, fun u => ?_⟩
      rw [List.mem_cons, h2, List.map_cons, List.mem_cons]
      constructor
      · rintro (z | z | z)
        · exact .inr (.inl z)
        · exact .inl z
        · exact .inr (.inr z)
      · rintro (z | z | z)
        · exact .inr (.inl z)
        · exact .inl z
        · exact .inr (.inr z)
theorem ints_eKi : ∀ c : Ct, intsOf ((eKi c).map (·.2)) = some (c.map (·.2))
  | [] => rfl
  | p :: c => by
    have e : (eKi (p :: c)).map (·.2) = .int p.2 :: (eKi c).map (·.2) := rfl
    rw [e]
    simp only [intsOf, ints_eKi c, Option.map_some, List.map_cons]
theorem sum_eKi (c : Ct) : bltD .sumV [.dict (eKi c)] = some (.im, .int (c.map (·.2)).sum) := by
  simp only [bltD, keysT_eKi, if_true, ints_eKi, Option.map_some]
theorem items_eKi {c : Ct} (hl : c.length ≤ 1000) : itemsOf (.dict (eKi c)) = some ((c.map (·.1)).map eSta) := by
  have hf : fitsN (eKi c).length = true := by simp [fitsN, eKi]; omega
  simp only [itemsOf, keysT_eKi, hf, Bool.and_self, if_true]
  simp [eKi]
theorem setE_v {F : FT0} (i j : Nat) (ρ : Env) (d : D) : setE F i (.v j) ρ (some (.ow, d)) = some (.nx ((thaw (.v j) ρ).set i (some (false, d)))) := rfl
abbrev cntB : List Sm := [.put 4 (.v 6) (.bin .add (.blt .get2 [.v 4, .v 6, .c (.int 0)]) (.idx (.v 2) (.v 5)))]
abbrev cntA : List Sm := [.for_ (.nm 6) .seq [.call 17 [.v 0, .v 5]] cntB]
abbrev cntT : List Sm := [.set (.nm 4) .emp, .for_ (.nm 5) .seq [.v 2] cntA, .set (.nm 2) (.v 4)]
/-- the keys of c are just those of p -/
structure Keys (S : So) (c : Ct) (p : Sta → Prop) : Prop where
  nd : (c.map (·.1)).Nodup
  iff : ∀ u, u ∈ c.map (·.1) ↔ p u
  sub : ∀ u ∈ c.map (·.1), u ∈ univA S
theorem Keys.len {S : So} {c : Ct} {p : Sta → Prop} (h : Keys S c p) (hu : (univA S).length ≤ 96) : c.length ≤ 96 := by
  have := nodup_le h.nd h.sub
  rw [List.length_map] at this
  omega
section
variable {P : Tb} (n : Nat) (Z : Endless P) {S : So} (ok : SoOk S) (ab : Ab S)
include Z ok ab
theorem cnt_inner {c c0 : Ct} {p : Sta → Prop} (h0 : Keys S c0 p) {t : Sta} (ht : t ∈ c.map (·.1)) (hmt : has (metK S) t = true) (x1 x3 x6 : Option Slot) :
    ∃ c' y6, Keys S c' (fun u => p u ∨ u ∈ steps S t) ∧ trips (run P (n + 7)) (.nm 6) cntB ((steps S t).map eSta) [some (false, eSo S), x1, some (false, .dict (eKi c)), x3, some (true, .dict (eKi c0)), some (false, eSta t), x6] = some (.nx [some (false, eSo S), x1, some (false, .dict (eKi c)), x3, some (true, .dict (eKi c')), some (false, eSta t), y6]) := by
  have G := met_gr ok ab
  have uu := univA_len ok ab
  obtain ⟨v, hv⟩ := idx_eKi ht
  obtain ⟨ρ', h1, c', y6, hk, h2⟩ := trips_at (F := run P (n + 7)) (t := .nm 6) (body := cntB) (enc := eSta) (ρ := [some (false, eSo S), x1, some (false, .dict (eKi c)), x3, some (true, .dict (eKi c0)), some (false, eSta t), x6])
    (fun d ρ => ∃ c' y6, Keys S c' (fun u => p u ∨ u ∈ d) ∧ ρ = [some (false, eSo S), x1, some (false, .dict (eKi c)), x3, some (true, .dict (eKi c')), some (false, eSta t), y6]) (steps S t)
    ⟨c0, x6, ⟨h0.nd, fun u => by rw [h0.iff]; simp, h0.sub⟩, rfl⟩ (fun d o r ρ e ⟨c', y6, hk, hρ⟩ => by
      subst hρ
      have hl := hk.len uu
      have hou : o ∈ steps S t := by rw [e]; simp
      have hoU : o ∈ univA S := by
        obtain ⟨q, hq, e2⟩ := List.mem_map.mp (has_mem.mp (G.cl t hmt o hou))
        rw [← e2]
        exact (met_wk ok ab).sub q hq
      obtain ⟨k1, k2⟩ := cput_keys o (cget c' o + v) c' hk.nd
      refine ⟨_, _, rfl, .inl ?_, cput o (cget c' o + v) c', some (false, eSta o), ⟨k1, fun u => ?_, fun u hu => ?_⟩, rfl⟩
      · simp_arith [get_eKi, hv, put_eKi (show c'.length ≤ 10000 by omega)]
      · rw [k2, hk.iff]
        simp only [List.mem_append, List.mem_singleton]
        constructor
        · rintro (z | z | z)
          · exact .inr (.inr z)
          · exact .inl z
          · exact .inr (.inl z)
        · rintro (z | z | z)
          · exact .inr (.inl z)
          · exact .inr (.inr z)
          · exact .inl z
      · rcases (k2 u).mp hu with z | z
        · rw [z]; exact hoU
        · exact hk.sub u z)
  exact ⟨c', y6, hk, by rw [h1, h2]⟩
theorem cnt_outer {c : Ct} {j : Nat} (hc : Keys S c (fun u => u ∈ lev S j)) (x1 x3 x5 x6 : Option Slot) :
    ∃ c' y5 y6, Keys S c' (fun u => u ∈ lev S (j + 1)) ∧ trips (run P (n + 7)) (.nm 5) cntA ((c.map (·.1)).map eSta) [some (false, eSo S), x1, some (false, .dict (eKi c)), x3, some (true, .dict (eKi [])), x5, x6] = some (.nx [some (false, eSo S), x1, some (false, .dict (eKi c)), x3, some (true, .dict (eKi c')), y5, y6]) := by
  have G := met_gr ok ab
  obtain ⟨ρ', h1, c', y5, y6, hk, h2⟩ := trips_at (F := run P (n + 7)) (t := .nm 5) (body := cntA) (enc := eSta) (ρ := [some (false, eSo S), x1, some (false, .dict (eKi c)), x3, some (true, .dict (eKi [])), x5, x6])
    (fun d ρ => ∃ c' y5 y6, Keys S c' (fun u => ∃ t ∈ d, u ∈ steps S t) ∧ ρ = [some (false, eSo S), x1, some (false, .dict (eKi c)), x3, some (true, .dict (eKi c')), y5, y6]) (c.map (·.1))
    ⟨[], x5, x6, ⟨by simp, fun u => by simp, fun u hu => by simp at hu⟩, rfl⟩ (fun d t r ρ e ⟨c', y5, y6, hk, hρ⟩ => by
      subst hρ
      have ht : t ∈ c.map (·.1) := by rw [e]; simp
      have hmt := lev_has ok ab ((hc.iff t).mp ht)
      have hin : In S t := met_in' ok ab ((isortT_mem eSta).mpr (has_mem.mp hmt))
      obtain ⟨c2, z6, hk2, hr⟩ := cnt_inner n Z ok ab hk ht hmt x1 x3 y6
      have th : thaws [.call 17 [.v 0, .v 5]] [some (false, eSo S), x1, some (false, .dict (eKi c)), x3, some (true, .dict (eKi c')), some (false, eSta t), y6] = [some (false, eSo S), x1, some (false, .dict (eKi c)), x3, some (true, .dict (eKi c')), some (false, eSta t), y6] := rfl
      refine ⟨_, _, rfl, .inl ?_, c2, some (false, eSta t), z6, ⟨hk2.nd, fun u => ?_, hk2.sub⟩, rfl⟩
      · simp_arith [th, r_steps_from (n + 2) Z.su hin ab.sm, forE, items_lst, hr]
      · rw [hk2.iff]
        constructor
        · rintro (⟨a, ha, z⟩ | z)
          · exact ⟨a, List.mem_append_left _ ha, z⟩
          · exact ⟨t, List.mem_append_right _ (List.mem_singleton.mpr rfl), z⟩
        · rintro ⟨a, ha, z⟩
          rcases List.mem_append.mp ha with y | y
          · exact .inl ⟨a, y, z⟩
          · rw [List.mem_singleton.mp y] at z; exact .inr z)
  refine ⟨c', y5, y6, ⟨hk.nd, fun u => ?_, hk.sub⟩, by rw [h1, h2]⟩
  rw [hk.iff]
  unfold lev
  rw [sset_mem eSta inj_Sta, List.mem_flatMap]
  constructor
  · rintro ⟨t, h3, h4⟩; exact ⟨t, (hc.iff t).mp h3, h4⟩
  · rintro ⟨t, h3, h4⟩; exact ⟨t, (hc.iff t).mpr h3, h4⟩
theorem r_find_count (many : Nat) (hm : many ≤ 1000) : ∃ z : Int, (lev S many = [] → z = 0) ∧ run P (n + 8) 27 [eSo S, .int (many : Int)] = some (false, .int z) := by
  have uu := univA_len ok ab
  have tr : turns (run P (n + 7)) (.nm 5) none (.tup [.v 5, .c (.int 1)]) [some (false, eSo S), some (false, .int (many : Int)), none, none, none, none, none] ((firsts S).map eSta) = some ((firsts S).map fun t => .tuple [eSta t, .int 1]) :=
    turns_all (fun t => .tuple [eSta t, .int 1]) (fun t => [some (false, eSo S), some (false, .int (many : Int)), none, none, none, some (false, eSta t), none]) fun t ht => ⟨rfl, by simp_arith []⟩
  have ndF : (firsts S).Nodup := by
    unfold firsts
    have : (S.ss.zipIdx.map (·.2)).Nodup := by rw [List.zipIdx_map_snd]; exact List.nodup_range'
    refine List.Pairwise.map _ (fun a b h => ?_) (List.Pairwise.of_map (·.2) (fun a b h => h) this)
    intro e
    exact h (by have := congrArg Sta.s e; exact this)
  have fl : (firsts S).length ≤ 1000 := by rw [firsts_len]; have := ok.s4; omega
  have hd := dict_eKv (fun _ => .int 1) ndF fl
  have e0 : eKv (firsts S) (fun _ => .int 1) = eKi ((firsts S).map fun t => (t, 1)) := by simp [eKv, eKi, List.map_map, Function.comp_def]
  rw [e0] at hd
  have k0 : Keys S ((firsts S).map fun t => (t, (1 : Int))) (fun u => u ∈ lev S 0) := by
    have e : ((firsts S).map fun t => (t, (1 : Int))).map (·.1) = firsts S := by simp [List.map_map, Function.comp_def]
    refine ⟨by rw [e]; exact ndF, fun u => by rw [e]; rfl, fun u hu => ?_⟩
    rw [e] at hu
    exact firsts_univ ok u hu
  obtain ⟨ρ', h1, c', b, y3, y4, y5, y6, hk, h2⟩ := trips_at (F := run P (n + 7)) (t := .nm 3) (body := cntT) (enc := fun k : Nat => .int (k : Int)) (ρ := [some (false, eSo S), some (false, .int (many : Int)), some (true, .dict (eKi ((firsts S).map fun t => (t, 1)))), none, none, none, none])
    (fun d ρ => ∃ c b y3 y4 y5 y6, Keys S c (fun u => u ∈ lev S d.length) ∧ ρ = [some (false, eSo S), some (false, .int (many : Int)), some (b, .dict (eKi c)), y3, y4, y5, y6]) (List.range many)
    ⟨_, true, none, none, none, none, k0, rfl⟩ (fun d i r ρ e ⟨c, b, y3, y4, y5, y6, hk, hρ⟩ => by
      subst hρ
      obtain ⟨c2, z5, z6, hk2, hr⟩ := cnt_outer n Z ok ab hk (some (false, .int (many : Int))) (some (false, .int (i : Int))) y5 y6
      have hl := hk.len uu
      have th : thaws [.v 2] [some (false, eSo S), some (false, .int (many : Int)), some (b, .dict (eKi c)), some (false, .int (i : Int)), some (true, .dict (eKi [])), y5, y6] = [some (false, eSo S), some (false, .int (many : Int)), some (false, .dict (eKi c)), some (false, .int (i : Int)), some (true, .dict (eKi [])), y5, y6] := by cases b <;> rfl
      have te : thaw (.v 4) [some (false, eSo S), some (false, .int (many : Int)), some (false, .dict (eKi c)), some (false, .int (i : Int)), some (true, .dict (eKi c2)), z5, z6] = [some (false, eSo S), some (false, .int (many : Int)), some (false, .dict (eKi c)), some (false, .int (i : Int)), some (false, .dict (eKi c2)), z5, z6] := rfl
      have emp : PyData.dict [] = .dict (eKi []) := rfl
      have hli : (d ++ [i]).length = d.length + 1 := by simp
      refine ⟨[some (false, eSo S), some (false, .int (many : Int)), some (b, .dict (eKi c)), some (false, .int (i : Int)), y4, y5, y6], [some (false, eSo S), some (false, .int (many : Int)), some (false, .dict (eKi c2)), some (false, .int (i : Int)), some (false, .dict (eKi c2)), z5, z6], rfl, .inl ?_, c2, false, some (false, .int (i : Int)), some (false, .dict (eKi c2)), z5, z6, by rw [hli]; exact hk2, rfl⟩
      simp_arith [emp, setE_fr _ 4 .emp _ _ rfl, th, forE, items_eKi (show c.length ≤ 1000 by omega), hr, setE_v, te])
  subst h2
  rw [List.length_range] at hk
  refine ⟨(c'.map (·.2)).sum, fun hz => ?_, ?_⟩
  · have : c' = [] := by
      cases e : c' with
      | nil => rfl
      | cons q r =>
        have := (hk.iff q.1).mp (by rw [e]; simp)
        rw [hz] at this
        cases this
    rw [this]; rfl
  · rw [run_go Z.p27 _ _ rfl]
    show callE (exs _ K52.f_find_count.body [some (false, eSo S), some (false, .int (many : Int)), none, none, none, none, none]) = _
    unfold K52.f_find_count
    have th : thaws [.v 1] [some (false, eSo S), some (false, .int (many : Int)), some (true, .dict (eKi ((firsts S).map fun t => (t, 1)))), none, none, none, none] = [some (false, eSo S), some (false, .int (many : Int)), some (true, .dict (eKi ((firsts S).map fun t => (t, 1)))), none, none, none, none] := rfl
    have wr := walk_range (n := many) hm
    have fin : ∀ c : Ct, bltD .sumV [.dict (eKi c)] = some (.im, .int (c.map (·.2)).sum) := sum_eKi
    cases b <;> simp_arith [r_firsts (n + 6) Z.su.st.p10, items_lst, tr, hd, setE_fr _ 2 (.blt _ _) _ _ rfl, th, forE, wr, h1, fin]
theorem r_count_zero (many : Nat) (hm : many ≤ 20) (hz : lev S many = []) : run P (n + 9) 28 [eSo S, .int (many : Int)] = some (false, .int 0) := by
  obtain ⟨z, h1, h2⟩ := r_find_count n Z ok ab many (by omega)
  rw [h1 hz] at h2
  rw [run_go Z.p28 _ _ rfl]
  show callE (exs _ K52.f_count_plays.body [some (false, eSo S), some (false, .int (many : Int))]) = _
  unfold K52.f_count_plays
  have d1 : decide ((0 : Int) ≤ (many : Int)) = true := by simp
  have d2 : decide ((many : Int) ≤ 20) = true := by rw [decide_eq_true_eq]; omega
  simp_arith [r_check_story Z.su.st.st n ok, r_is_int Z.su.st.st.p0, d1, d2, h2]
end
end Rk

/-! The law k52. -/
set_option autoImplicit false
set_option linter.all false
set_option maxRecDepth 100000
namespace Rk
open PySem PySem.W K60
local macro_rules
  | `(tactic| simp_arith [$hs,*]) => `(tactic| simp only [b_cons, b_nil, seqE_nx, seqE_rt, s_set, s_setT, s_par, s_exp, s_for, s_whl, s_ite, s_ret, s_retN, s_pass, s_cont, s_app, s_ext, s_pop, s_put, retE_im, retE_fr, expE_s, callE_rt, callE_nx,
  v_v, v_c, v_tup, v_lst, v_emp, v_bin, v_cmp, v_le2, v_and, v_or, v_not, v_ite, v_idx, v_from, v_upto, v_comp, v_compIf, v_call, v_blt, k_nil, k_cons, l_nil, l_cons, vE_im, vE_ow, op2_s, cm2_s, andE_t, andE_f, orE_t, orE_f, notE_s, iteE_t, iteE_f, consE_s, boolOf_s, keepOf_im, keepOf_fr, blE_s, cutE_t, cutE_f,
  caE_d, backOf_d, cpE_d, free_nm, free_tp, notOwn_n, notOwn_f, List.all_cons, List.all_nil, walk_seq, lent, List.any_cons, List.any_nil, reduceCtorEq, decide_false, decide_true, Bool.or_self, Bool.or_false, Bool.false_or, Bool.false_and, Bool.and_false, Bool.true_and, Bool.and_true, Bool.not_true, Bool.not_false, Bool.false_eq_true, if_false, if_true, ite_true, ite_false,
  List.getElem?_cons_zero, List.getElem?_cons_succ, List.set_cons_zero, List.set_cons_succ, Option.map_some, List.map_cons, List.map_nil, lt_int, gt_int, le_int, eq_int, ne_int, eq_str, ne_str, in_sg, notin_sg, len_tup, len_lst, isInt_int, isBool_int, isStr_str, sub_int, add_int, all_map, any_map, $hs,*])
theorem eq_same {d : D} (hp : d.plain = true) (hd : d.depth ≤ 100) : cmpD .eq d d = some true := by
  have h : depOk d d = true := by simp [depOk, hd]
  show eqD d d = _
  simp only [eqD, hp, h, Bool.and_self, if_true, PySem.SeqAt.eqv_refl_plain d hp]
theorem ne_same {d : D} (hp : d.plain = true) (hd : d.depth ≤ 100) : cmpD .ne d d = some false := by
  have := eq_same hp hd
  show Option.map not (cmpD .eq d d) = _
  rw [this]; rfl
theorem depthAll_map {α : Type} {f : α → D} {k : Nat} : ∀ {xs : List α}, (∀ x ∈ xs, (f x).depth ≤ k) → PyData.depthAll (xs.map f) ≤ k
  | [], _ => Nat.zero_le _
  | x :: xs, h => by
    have h1 := h x List.mem_cons_self
    have h2 := depthAll_map (xs := xs) fun y hy => h y (List.mem_cons_of_mem _ hy)
    simp only [List.map_cons, PyData.depthAll]
    omega
theorem ne_lst {α : Type} {f : α → D} (hp : ∀ x, (f x).plain = true) (hd : ∀ x, (f x).depth ≤ 50) (xs : List α) : cmpD .ne (.list (xs.map f)) (.list (xs.map f)) = some false := by
  refine ne_same (by simp only [PyData.plain]; exact plainAll_map fun x _ => hp x) ?_
  have := depthAll_map (xs := xs) fun x _ => hd x
  simp only [PyData.depth]
  omega
theorem ne_eS (xs : List Str) : cmpD .ne (.list (xs.map eS)) (.list (xs.map eS)) = some false := ne_lst (fun _ => rfl) (fun _ => Nat.zero_le _) xs
theorem ne_Stas (xs : List Sta) : cmpD .ne (.list (xs.map eSta)) (.list (xs.map eSta)) = some false := ne_lst (fun _ => rfl) (fun x => by
  have : (eSta x).depth = 1 := rfl
  omega) xs
theorem in_Kn (k : Kn) (t : Sta) : cmpD .isin (eSta t) (.dict (eKn k)) = some (has k t) := by
  have hk : keyT (eSta t) = true := rfl
  simp only [cmpD, hk, keysT_eKn, Bool.and_self, if_true, dget_eKn, Option.isSome_map, val_some]
theorem ne_bool (a b : Bool) : cmpD .ne (.bool a) (.bool b) = some (!(a == b)) := by cases a <;> cases b <;> rfl
theorem min_int (a b : Int) : bltD .min2 [.int a, .int b] = some (.im, .int (if b < a then b else a)) := rfl
structure LawE (P : Tb) : Prop where
  ze : Endless P
  la : LawB P
  p37 : P 37 = some f__law_met
section
variable {P : Tb} (n : Nat) (L : LawE P) {S : So} (ok : SoOk S) (ab : Ab S)
include L ok ab
theorem r_lawmet {U : List Sta} (hU : ∀ t ∈ U, In S t) (cl : ∀ t ∈ U, ∀ u ∈ steps S t, u ∈ U) (hl : U.length ≤ 200) {init : List Sta} (hi : ∀ t ∈ init, t ∈ U) (hil : init.length ≤ 200) :
    run P (n + 4) 37 [eSo S, .list (init.map eSta)] = some (true, .dict (eKn (ahead (steps S) init))) :=
  (r_dfs (m := n + 3) (fun t ht => r_law_steps n L.ze.su.st L.la (hU t ht) ab.sm) cl (fun t _ => steps_len ab.sm t) hl hi hil (L.p37.trans (by rw [met_is]))).1
theorem r_lawmetA {init : List Sta} (hi : ∀ t ∈ init, t ∈ univA S) (hil : init.length ≤ 200) : run P (n + 4) 37 [eSo S, .list (init.map eSta)] = some (true, .dict (eKn (ahead (steps S) init))) :=
  r_lawmet n L ok ab (univA_in ok) (univA_cl ab) (by have := univA_len ok ab; omega) hi hil
end
theorem key_univ {S : So} (ok : SoOk S) (ab : Ab S) {t : Sta} (h : t ∈ ksOf (metK S)) : t ∈ univA S := by
  obtain ⟨q, hq, rfl⟩ := List.mem_map.mp h
  exact (met_wk ok ab).sub q hq
theorem ahead_in {S : So} (ok : SoOk S) (ab : Ab S) {init : List Sta} (hi : ∀ t ∈ init, t ∈ univA S) (hil : init.length ≤ 200) {t : Sta} : has (ahead (steps S) init) t = true ↔ ∃ a ∈ init, Rch (steps S) a t :=
  ahead_iff (univA_cl ab) (fun t _ => steps_len ab.sm t) (by have := univA_len ok ab; omega) hi hil
open Classical in
theorem trap_pred {S : So} (ok : SoOk S) (ab : Ab S) {t : Sta} (h : t ∈ ksOf (metK S)) : ((endsL S).filter fun e => has (ahead (steps S) [t]) e).isEmpty = !decide (Cend (steps S) t) := by
  have G := met_gr ok ab
  have hi : ∀ u ∈ [t], u ∈ univA S := fun u hu => by rw [List.mem_singleton.mp hu]; exact key_univ ok ab h
  by_cases hc : Cend (steps S) t
  · obtain ⟨e, h1, h2⟩ := cend_iff.mp hc
    have he : e ∈ endsL S := (isortT_mem eSta).mpr (List.mem_filter.mpr ⟨has_mem.mp (G.rch h1 (has_mem.mpr h)), by simp [h2]⟩)
    have hh : has (ahead (steps S) [t]) e = true := (ahead_in ok ab hi (by simp)).mpr ⟨t, List.mem_singleton.mpr rfl, h1⟩
    have hm : e ∈ (endsL S).filter fun e => has (ahead (steps S) [t]) e := List.mem_filter.mpr ⟨he, hh⟩
    cases q : (endsL S).filter fun e => has (ahead (steps S) [t]) e with
    | nil => rw [q] at hm; cases hm
    | cons _ _ => simp [hc]
  · cases q : (endsL S).filter fun e => has (ahead (steps S) [t]) e with
    | nil => simp [hc]
    | cons e r =>
      have hm : e ∈ (endsL S).filter fun e => has (ahead (steps S) [t]) e := by rw [q]; exact List.mem_cons_self
      obtain ⟨h1, h2⟩ := List.mem_filter.mp hm
      obtain ⟨a, ha, hr⟩ := (ahead_in ok ab hi (by simp)).mp h2
      rw [List.mem_singleton.mp ha] at hr
      exact absurd (cend_iff.mpr ⟨e, hr, (endsL_in ok ab h1).2.2⟩) hc
open Classical in
theorem rnd_pred {S : So} (ok : SoOk S) (ab : Ab S) {t : Sta} (h : t ∈ ksOf (metK S)) : has (ahead (steps S) (steps S t)) t = decide (Rnd (steps S) t) := by
  have hi : ∀ u ∈ steps S t, u ∈ univA S := univA_cl ab t (key_univ ok ab h)
  have hl := steps_len ab.sm t
  have := ahead_in ok ab hi (by omega) (t := t)
  by_cases hr : Rnd (steps S) t
  · have e : has (ahead (steps S) (steps S t)) t = true := this.mpr hr
    rw [e]; simp [hr]
  · have e : has (ahead (steps S) (steps S t)) t = false := by
      cases q : has (ahead (steps S) (steps S t)) t with
      | false => rfl
      | true => exact absurd (this.mp q) hr
    rw [e]; simp [hr]
theorem traps_none {S : So} (ok : SoOk S) (ab : Ab S) (hr : ∀ t, has (metK S) t = true → ¬ Rnd (steps S) t) : trapsL S = [] := by
  have G := met_gr ok ab
  have : ∀ t ∈ ksOf (metK S), Cend (steps S) t := fun t ht => by
    apply Classical.byContradiction
    intro hc
    obtain ⟨b, w, _⟩ := not_cend hc (ksOf (metK S)).length
    obtain ⟨x, hx, hx2⟩ := wlk_rnd (U := ksOf (metK S)) w (fun x hx => has_mem.mp (G.rch hx (has_mem.mpr ht))) (Nat.le_refl _)
    exact hr x (G.rch hx (has_mem.mpr ht)) hx2
  unfold trapsL
  have e : ((ksOf (metK S)).filter fun t => !@decide (Cend (steps S) t) (Classical.propDecidable _)) = [] := List.filter_eq_nil_iff.mpr fun t ht => by simp [this t ht]
  rw [e]; rfl
def agB : List Sm := [.set (.nm 11) (.call 37 [.v 3, .idx (.v 4) (.v 9)]),
    .ext 8 (.ite (.cmp .isin (.v 9) (.v 11)) (.lst [.v 9]) (.lst []))]
def stoB2 : List Sm := [.set (.nm 3) (.call 36 [.v 0, .bin .mul (.c (.int 180)) (.v 1)]),
    .set (.nm 4) (.call 37 [.v 3, .call 29 [.v 3]]),
    .set (.nm 5) (.blt .sorted [.compIf (.nm 9) .seq [.v 4] (.cmp .eq (.idx (.v 4) (.v 9)) (.lst [])) (.v 9)]),
    .set (.nm 6) (.blt .sortedSet [.comp (.nm 9) .seq [.v 5] (.idx (.idx (.idx (.v 3) (.c (.int 1))) (.idx (.v 9) (.c (.int 1)))) (.c (.int 0)))]),
    .ite (.or (.cmp .ne (.call 41 [.v 3]) (.v 5)) (.cmp .ne (.call 42 [.v 3]) (.v 6))) [.ret (.c (.bool false))] [],
    .set (.nm 7) (.blt .dictOf [.comp (.nm 9) .seq [.v 4] (.tup [.v 9, .call 37 [.v 3, .lst [.v 9]]])]),
    .ite (.cmp .ne (.call 44 [.v 3]) (.blt .sorted [.compIf (.nm 9) .seq [.v 4] (.cmp .eq (.compIf (.nm 12) .seq [.v 5] (.cmp .isin (.v 12) (.idx (.v 7) (.v 9))) (.v 12)) (.lst [])) (.v 9)])) [.ret (.c (.bool false))] [],
    .set (.nm 8) (.lst []),
    .for_ (.nm 9) .seq [.v 4] agB,
    .ite (.cmp .ne (.call 47 [.v 3]) (.blt .sorted [.v 8])) [.ret (.c (.bool false))] [],
    .set (.nm 10) (.call 49 [.v 4, .call 29 [.v 3]]),
    .ite (.or (.cmp .ne (.call 48 [.v 3]) (.v 10)) (.cmp .ne (.cmp .isN (.v 10) (.c (.none))) (.cmp .ne (.v 8) (.lst [])))) [.ret (.c (.bool false))] [],
    .ite (.and (.cmp .notN (.v 10) (.c (.none))) (.or (.cmp .ne (.call 44 [.v 3]) (.lst [])) (.cmp .ne (.call 28 [.v 3, .blt .min2 [.bin .add (.v 10) (.c (.int 1)), .c (.int 20)]]) (.c (.int 0))))) [.ret (.c (.bool false))] []]
def tailB2 : List Sm := K52.f_law_2.body.drop 1
theorem law_is2 : K52.f_law_2 = ⟨1, 13, .for_ (.nm 1) .range1 [.c (.int 4)] stoB2 :: tailB2⟩ := rfl
section
variable {P : Tb} (n : Nat) (L : LawE P) {S : So} (ok : SoOk S) (ab : Ab S)
include L ok ab
open Classical in
theorem ag_loop {x0 x1 x2 x5 x6 x7 x10 x12 : Option Slot} (x9 x11 : Option Slot) (hx9 : notOwn (some x9) = true) : ∃ y9 y11, notOwn (some y9) = true ∧ trips (run P (n + 9)) (.nm 9) agB ((ksOf (metK S)).map eSta) [x0, x1, x2, some (false, eSo S), some (false, .dict (eKn (metK S))), x5, x6, x7, some (true, .list ((([] : List Sta)).map eSta)), x9, x10, x11, x12] = some (.nx [x0, x1, x2, some (false, eSo S), some (false, .dict (eKn (metK S))), x5, x6, x7, some (true, .list (((ksOf (metK S)).filter fun t => decide (Rnd (steps S) t)).map eSta)), y9, x10, y11, x12]) := by
  have G := met_gr ok ab
  have kl := G.klen
  obtain ⟨ρ', h1, y9, y11, hy9, h2⟩ := trips_at (F := run P (n + 9)) (t := .nm 9) (body := agB) (enc := eSta) (ρ := [x0, x1, x2, some (false, eSo S), some (false, .dict (eKn (metK S))), x5, x6, x7, some (true, .list ((([] : List Sta)).map eSta)), x9, x10, x11, x12])
    (fun d ρ => ∃ y9 y11, notOwn (some y9) = true ∧ ρ = [x0, x1, x2, some (false, eSo S), some (false, .dict (eKn (metK S))), x5, x6, x7, some (true, .list ((d.filter fun t => decide (Rnd (steps S) t)).map eSta)), y9, x10, y11, x12]) (ksOf (metK S)) ⟨x9, x11, hx9, rfl⟩ (fun d t r ρ e ⟨y9, y11, _, hρ⟩ => by
      subst hρ
      have ht : t ∈ ksOf (metK S) := by rw [e]; simp
      have hd : d.length ≤ 96 := by rw [e] at kl; simp at kl; omega
      have hfl : (d.filter fun t => decide (Rnd (steps S) t)).length ≤ 96 := Nat.le_trans (List.length_filter_le _ _) hd
      have hm := r_lawmetA (n + 5) L ok ab (init := steps S t) (univA_cl ab t (key_univ ok ab ht)) (by have := steps_len ab.sm t; omega)
      have hp := rnd_pred ok ab ht
      refine ⟨_, _, rfl, .inl ?_, some (false, eSta t), some (true, .dict (eKn (ahead (steps S) (steps S t)))), rfl, rfl⟩
      unfold agB
      rw [List.filter_append]
      cases hc : decide (Rnd (steps S) t) with
      | true =>
        have hz : ([t].filter fun t => decide (Rnd (steps S) t)) = [t] := by simp only [List.filter_cons, hc, if_true, List.filter_nil]
        have hex : ((d.filter fun t => decide (Rnd (steps S) t)).map eSta).length + [eSta t].length ≤ 10000 := by simp; omega
        rw [hz]
        simp_arith [G.idx (has_mem.mpr ht), hm, setE_fr _ 11 (.call _ _) _ _ rfl, in_Kn, hp, hc, extE_s hex]
        simp
      | false =>
        have hz : ([t].filter fun t => decide (Rnd (steps S) t)) = [] := by simp only [List.filter_cons, hc, Bool.false_eq_true, if_false, List.filter_nil]
        have hex : ((d.filter fun t => decide (Rnd (steps S) t)).map eSta).length + ([] : List D).length ≤ 10000 := by simp; omega
        rw [hz]
        simp_arith [G.idx (has_mem.mpr ht), hm, setE_fr _ 11 (.call _ _) _ _ rfl, in_Kn, hp, hc, extE_s hex, List.append_nil])
  exact ⟨y9, y11, hy9, by rw [h1, h2]⟩
end
section
variable {P : Tb} (n : Nat) (L : LawE P) {ns : List Int} {pk : Int → Int → Int} (K : Pk P ns pk) (h35 : P 35 = some f__law_option) (h36 : P 36 = some f__law_story)
include L K h35 h36
open Classical in
set_option maxHeartbeats 1000000 in
theorem sto2_step (i : Nat) (hi : i < 4) {ds : List D} (hds : ns.map PyData.int = ds) (x3 x4 x5 x6 x7 x8 x9 x10 x11 : Option Slot) (hx9 : notOwn (some x9) = true) :
    ∃ y3 y4 y5 y6 y7 y8 y9 y10 y11, notOwn (some y9) = true ∧ exs (run P (n + 9)) stoB2 [some (false, .list ds), some (false, .int (i : Int)), none, x3, x4, x5, x6, x7, x8, x9, x10, x11, none] = some (.nx [some (false, .list ds), some (false, .int (i : Int)), none, y3, y4, y5, y6, y7, y8, y9, y10, y11, none]) := by
  obtain ⟨S, DS, hS⟩ := r_law_story K h35 h36 (180 * i) (by omega)
  have hS := hS (n + 6)
  have e180 : ((180 * i : Nat) : Int) = 180 * (i : Int) := by omega
  rw [e180, hds] at hS
  have ok := DS.ok
  have ab := DS.ab
  have p4 := DS.p4
  have s3 := DS.s3
  have G := met_gr ok ab
  have kl := G.klen
  have Z := L.ze
  have hu : (univA S).length < 63 := by
    have h1 := univA_len4 S
    have h2 : S.ss.length * (S.ps.length * 4) ≤ 3 * (4 * 4) := Nat.mul_le_mul s3 (Nat.mul_le_mul_right 4 p4)
    omega
  have hf := r_firsts (n + 8) (L.la.p29.trans (show some f__law_firsts = some f_find_firsts from rfl)) S
  have hmet : run P (n + 9) 37 [eSo S, .list ((firsts S).map eSta)] = some (true, .dict (eKn (metK S))) := r_lawmetA (n + 5) L ok ab (firsts_univ ok) (by rw [firsts_len]; omega)
  -- ends and texts
  have trE : turns (run P (n + 9)) (.nm 9) (some (.cmp .eq (.idx (.v 4) (.v 9)) (.lst []))) (.v 9) [some (false, .list ds), some (false, .int (i : Int)), none, some (false, eSo S), some (true, .dict (eKn (metK S))), x5, x6, x7, x8, x9, x10, x11, none] ((ksOf (metK S)).map eSta) = some (((ksOf (metK S)).filter fun t => (steps S t).isEmpty).map eSta) :=
    turns_if (fun t => (steps S t).isEmpty) eSta (fun t => [some (false, .list ds), some (false, .int (i : Int)), none, some (false, eSo S), some (true, .dict (eKn (metK S))), x5, x6, x7, x8, some (false, eSta t), x10, x11, none]) fun t ht => ⟨rfl, by simp_arith [G.idx (has_mem.mpr ht), eq_nil_Stas], fun _ => by simp_arith []⟩
  have hsE : bltD .sorted [.list (((ksOf (metK S)).filter fun t => (steps S t).isEmpty).map eSta)] = some (.fr, .list ((endsL S).map eSta)) := sorted_Stas (by have := List.length_filter_le (fun t => (steps S t).isEmpty) (ksOf (metK S)); omega)
  have g1 : idxD (eSo S) (.int 1) = some (.im, .tuple (S.ps.map ePa)) := ix1 ..
  have g2 : ∀ t : Sta, idxD (eSta t) (.int 1) = some (.im, .int (t.p : Int)) := fun t => ix1 ..
  have g4 : ∀ p : Pa, idxD (ePa p) (.int 0) = some (.im, .str p.tx) := fun p => ix0 ..
  have trT : turns (run P (n + 9)) (.nm 9) none (.idx (.idx (.idx (.v 3) (.c (.int 1))) (.idx (.v 9) (.c (.int 1)))) (.c (.int 0))) [some (false, .list ds), some (false, .int (i : Int)), none, some (false, eSo S), some (true, .dict (eKn (metK S))), some (true, .list ((endsL S).map eSta)), x6, x7, x8, x9, x10, x11, none] ((endsL S).map eSta) = some ((endsL S).map fun t => eS (text S t)) :=
    turns_all (fun t => eS (text S t)) (fun t => [some (false, .list ds), some (false, .int (i : Int)), none, some (false, eSo S), some (true, .dict (eKn (metK S))), some (true, .list ((endsL S).map eSta)), x6, x7, x8, some (false, eSta t), x10, x11, none]) fun t ht => ⟨rfl, by
      obtain ⟨p, hp⟩ : ∃ p, S.ps[t.p]? = some p := ⟨_, List.getElem?_eq_getElem (endsL_in ok ab ht).1.p⟩
      have g3 : idxD (.tuple (S.ps.map ePa)) (.int (t.p : Int)) = some (.im, ePa p) := ix_tup (by rw [List.getElem?_map, hp]; rfl)
      have ht' : text S t = p.tx := by simp only [text, hp]
      rw [ht']
      simp_arith [g1, g2, g3, g4]
      rfl⟩
  have emT : ((endsL S).map fun t => eS (text S t)) = ((endsL S).map (text S)).map eS := by rw [List.map_map]; rfl
  rw [emT] at trT
  -- ahead
  have trA : turns (run P (n + 9)) (.nm 9) none (.tup [.v 9, .call 37 [.v 3, .lst [.v 9]]]) [some (false, .list ds), some (false, .int (i : Int)), none, some (false, eSo S), some (true, .dict (eKn (metK S))), some (true, .list ((endsL S).map eSta)), some (true, .list ((textsL S).map eS)), x7, x8, x9, x10, x11, none] ((ksOf (metK S)).map eSta) = some ((ksOf (metK S)).map fun t => .tuple [eSta t, .dict (eKn (ahead (steps S) [t]))]) :=
    turns_all (fun t => .tuple [eSta t, .dict (eKn (ahead (steps S) [t]))]) (fun t => [some (false, .list ds), some (false, .int (i : Int)), none, some (false, eSo S), some (true, .dict (eKn (metK S))), some (true, .list ((endsL S).map eSta)), some (true, .list ((textsL S).map eS)), x7, x8, some (false, eSta t), x10, x11, none]) fun t ht => ⟨rfl, by
      have hm := r_lawmetA (n + 5) L ok ab (init := [t]) (fun u hu => by rw [List.mem_singleton.mp hu]; exact key_univ ok ab ht) (by simp)
      rw [List.map_cons, List.map_nil] at hm
      simp_arith [hm]⟩
  have hdA := dict_eKv (l := ksOf (metK S)) (fun t => PyData.dict (eKn (ahead (steps S) [t]))) G.nd (by omega)
  -- traps
  have trR : turns (run P (n + 9)) (.nm 9) (some (.cmp .eq (.compIf (.nm 12) .seq [.v 5] (.cmp .isin (.v 12) (.idx (.v 7) (.v 9))) (.v 12)) (.lst []))) (.v 9) [some (false, .list ds), some (false, .int (i : Int)), none, some (false, eSo S), some (true, .dict (eKn (metK S))), some (true, .list ((endsL S).map eSta)), some (true, .list ((textsL S).map eS)), some (true, .dict (eKv (ksOf (metK S)) (fun t => .dict (eKn (ahead (steps S) [t]))))), x8, x9, x10, x11, none] ((ksOf (metK S)).map eSta) = some (((ksOf (metK S)).filter fun t => !decide (Cend (steps S) t)).map eSta) :=
    turns_if (fun t => !decide (Cend (steps S) t)) eSta (fun t => [some (false, .list ds), some (false, .int (i : Int)), none, some (false, eSo S), some (true, .dict (eKn (metK S))), some (true, .list ((endsL S).map eSta)), some (true, .list ((textsL S).map eS)), some (true, .dict (eKv (ksOf (metK S)) (fun t => .dict (eKn (ahead (steps S) [t]))))), x8, some (false, eSta t), x10, x11, none]) fun t ht => ⟨rfl, by
      have ti : turns (run P (n + 9)) (.nm 12) (some (.cmp .isin (.v 12) (.idx (.v 7) (.v 9)))) (.v 12) [some (false, .list ds), some (false, .int (i : Int)), none, some (false, eSo S), some (true, .dict (eKn (metK S))), some (true, .list ((endsL S).map eSta)), some (true, .list ((textsL S).map eS)), some (true, .dict (eKv (ksOf (metK S)) (fun t => .dict (eKn (ahead (steps S) [t]))))), x8, some (false, eSta t), x10, x11, none] ((endsL S).map eSta) = some (((endsL S).filter fun e => has (ahead (steps S) [t]) e).map eSta) :=
        turns_if (fun e => has (ahead (steps S) [t]) e) eSta (fun e => [some (false, .list ds), some (false, .int (i : Int)), none, some (false, eSo S), some (true, .dict (eKn (metK S))), some (true, .list ((endsL S).map eSta)), some (true, .list ((textsL S).map eS)), some (true, .dict (eKv (ksOf (metK S)) (fun t => .dict (eKn (ahead (steps S) [t]))))), x8, some (false, eSta t), x10, x11, some (false, eSta e)]) fun e he => ⟨rfl, by simp_arith [idx_eKv (fun t => PyData.dict (eKn (ahead (steps S) [t]))) ht, in_Kn], fun _ => by simp_arith []⟩
      rw [← trap_pred ok ab ht]
      simp_arith [items_lst, ti, eq_nil_Stas], fun _ => by simp_arith []⟩
  have hsR : bltD .sorted [.list (((ksOf (metK S)).filter fun t => !decide (Cend (steps S) t)).map eSta)] = some (.fr, .list ((trapsL S).map eSta)) := sorted_Stas (by have := List.length_filter_le (fun t => !decide (Cend (steps S) t)) (ksOf (metK S)); omega)
  -- rounds
  obtain ⟨y9, y11, hy9, hag⟩ := ag_loop n L ok ab (x0 := some (false, .list ds)) (x1 := some (false, .int (i : Int))) (x2 := none) (x5 := some (true, .list ((endsL S).map eSta))) (x6 := some (true, .list ((textsL S).map eS))) (x7 := some (true, .dict (eKv (ksOf (metK S)) (fun t => .dict (eKn (ahead (steps S) [t])))))) (x10 := x10) (x12 := none) x9 x11 hx9
  have hsG : bltD .sorted [.list (((ksOf (metK S)).filter fun t => decide (Rnd (steps S) t)).map eSta)] = some (.fr, .list ((roundsL S).map eSta)) := sorted_Stas (by have := List.length_filter_le (fun t => decide (Rnd (steps S) t)) (ksOf (metK S)); omega)
  -- longest
  obtain ⟨dd, hd⟩ := due_ex ok ab
  have hl1 := r_longest n Z ok ab hu hd
  have hl2 := r_law_longest (n + 8) Z ok ab hu hd
  have nnD : cmpD .ne dd dd = some false := by
    cases hd with
    | none h => rfl
    | some h h1 h2 h3 h4 => exact ne_same rfl (by simp)
  have nG := ne_nil_Stas ((ksOf (metK S)).filter fun t => decide (Rnd (steps S) t))
  have emp : (((ksOf (metK S)).filter fun t => decide (Rnd (steps S) t)).isEmpty = true) ↔ ∀ t, has (metK S) t = true → ¬ Rnd (steps S) t := by
    rw [List.isEmpty_iff, List.filter_eq_nil_iff]
    constructor
    · intro h t ht hr
      exact h t (has_mem.mp ht) (by simpa using hr)
    · intro h t ht hr
      exact h t (has_mem.mpr ht) (by simpa using hr)
  generalize hAG : ((ksOf (metK S)).filter fun t => decide (Rnd (steps S) t)) = AG at *
  rw [List.map_nil] at hag
  have th4 : thaws [.v 4] [some (false, .list ds), some (false, .int (i : Int)), none, some (false, eSo S), some (true, .dict (eKn (metK S))), some (true, .list ((endsL S).map eSta)), some (true, .list ((textsL S).map eS)), some (true, .dict (eKv (ksOf (metK S)) (fun t => .dict (eKn (ahead (steps S) [t]))))), some (true, .list []), x9, x10, x11, none] = [some (false, .list ds), some (false, .int (i : Int)), none, some (false, eSo S), some (false, .dict (eKn (metK S))), some (true, .list ((endsL S).map eSta)), some (true, .list ((textsL S).map eS)), some (true, .dict (eKv (ksOf (metK S)) (fun t => .dict (eKn (ahead (steps S) [t]))))), some (true, .list []), x9, x10, x11, none] := rfl
  refine ⟨some (false, eSo S), some (false, .dict (eKn (metK S))), some (true, .list ((endsL S).map eSta)), some (true, .list ((textsL S).map eS)), some (true, .dict (eKv (ksOf (metK S)) (fun t => .dict (eKn (ahead (steps S) [t]))))), some (true, .list (AG.map eSta)), y9, some (false, dd), y11, hy9, ?_⟩
  unfold stoB2
  cases hd with
  | none h =>
    have he : AG.isEmpty = false := by
      cases q : AG.isEmpty with
      | false => rfl
      | true => obtain ⟨t, h1, h2⟩ := h; exact absurd h2 (emp.mp q t h1)
    have i1 : cmpD .isN .none .none = some true := rfl
    have i2 : cmpD .notN .none .none = some false := rfl
    have bb : (true == true) = true := rfl
    simp_arith [mul_l (a := 180) (i : Int) (by decide), hS, setE_im _ 3 (.call _ _) _ _ rfl, hf, hmet, setE_fr _ 4 (.call _ _) _ _ rfl, G.items, hx9, trE, hsE, setE_fr _ 5 (.blt _ _) _ _ rfl, items_lst, trT, texts_ev ok ab, setE_fr _ 6 (.blt _ _) _ _ rfl, r_met_ends n Z ok ab, ne_Stas, r_end_texts n Z ok ab, ne_eS, trA, hdA, setE_fr _ 7 (.blt _ _) _ _ rfl, r_traps n Z ok ab, trR, hsR, setE_fr _ 8 (.lst []) _ _ rfl, th4, forE, hag, r_rounds n Z ok ab, hsG, hl2, setE_im _ 10 (.call _ _) _ _ rfl, hl1, nnD, i1, nG, he, ne_bool, bb, i2]
  | @some N h h1 h2 h3 h4 =>
    have he : AG.isEmpty = true := emp.mpr h
    have i1 : cmpD .isN (.int (N : Int)) .none = some false := rfl
    have i2 : cmpD .notN (.int (N : Int)) .none = some true := rfl
    have bb : (false == false) = true := rfl
    have tn := traps_none ok ab h
    have nT := ne_nil_Stas (trapsL S)
    have rt := r_traps n Z ok ab
    have te : (trapsL S).isEmpty = true := by rw [tn]; rfl
    have mn : (if (20 : Int) < (N : Int) + 1 then (20 : Int) else (N : Int) + 1) = ((N + 1 : Nat) : Int) := by
      rw [if_neg (by omega)]; omega
    have ct := r_count_zero n Z ok ab (N + 1) (by omega) h1
    have z0 : decide ((0 : Int) = 0) = true := by decide
    simp_arith [mul_l (a := 180) (i : Int) (by decide), hS, setE_im _ 3 (.call _ _) _ _ rfl, hf, hmet, setE_fr _ 4 (.call _ _) _ _ rfl, G.items, hx9, trE, hsE, setE_fr _ 5 (.blt _ _) _ _ rfl, items_lst, trT, texts_ev ok ab, setE_fr _ 6 (.blt _ _) _ _ rfl, r_met_ends n Z ok ab, ne_Stas, r_end_texts n Z ok ab, ne_eS, trA, hdA, setE_fr _ 7 (.blt _ _) _ _ rfl, rt, trR, hsR, setE_fr _ 8 (.lst []) _ _ rfl, th4, forE, hag, r_rounds n Z ok ab, hsG, hl2, setE_im _ 10 (.call _ _) _ _ rfl, hl1, nnD, i1, nG, he, ne_bool, bb, i2, nT, te, min_int, mn, ct, z0]
end
end Rk

/-! The law k52: its end. -/
set_option autoImplicit false
set_option linter.all false
set_option maxRecDepth 100000
namespace Rk
open PySem PySem.W K60
local macro_rules
  | `(tactic| simp_arith [$hs,*]) => `(tactic| simp only [b_cons, b_nil, seqE_nx, seqE_rt, s_set, s_setT, s_par, s_exp, s_for, s_whl, s_ite, s_ret, s_retN, s_pass, s_cont, s_app, s_ext, s_pop, s_put, retE_im, retE_fr, expE_s, callE_rt, callE_nx,
  v_v, v_c, v_tup, v_lst, v_emp, v_bin, v_cmp, v_le2, v_and, v_or, v_not, v_ite, v_idx, v_from, v_upto, v_comp, v_compIf, v_call, v_blt, k_nil, k_cons, l_nil, l_cons, vE_im, vE_ow, op2_s, cm2_s, andE_t, andE_f, orE_t, orE_f, notE_s, iteE_t, iteE_f, consE_s, boolOf_s, keepOf_im, keepOf_fr, blE_s, cutE_t, cutE_f,
  caE_d, backOf_d, cpE_d, free_nm, free_tp, notOwn_n, notOwn_f, List.all_cons, List.all_nil, walk_seq, lent, List.any_cons, List.any_nil, reduceCtorEq, decide_false, decide_true, Bool.or_self, Bool.or_false, Bool.false_or, Bool.false_and, Bool.and_false, Bool.true_and, Bool.and_true, Bool.not_true, Bool.not_false, Bool.false_eq_true, if_false, if_true, ite_true, ite_false,
  List.getElem?_cons_zero, List.getElem?_cons_succ, List.set_cons_zero, List.set_cons_succ, Option.map_some, List.map_cons, List.map_nil, lt_int, gt_int, le_int, eq_int, ne_int, eq_str, ne_str, in_sg, notin_sg, len_tup, len_lst, isInt_int, isBool_int, isStr_str, sub_int, add_int, all_map, any_map, $hs,*])
def goO : Op := ⟨"go", m0, m0, [⟨1, m0, m0⟩]⟩
def loopS : So := ⟨[m0], [⟨"cave", m0, [goO]⟩, ⟨"hall", m0, [goO]⟩]⟩
def endS : So := ⟨[mA], [⟨"end", m0, []⟩]⟩
theorem w_end : Word "end" := ⟨by decide +kernel, by decide +kernel, by decide +kernel⟩
theorem ris_one (a : D) : Rising [a] := fun p hp => by simp at hp
theorem ris_nil : Rising [] := fun p hp => by simp at hp
theorem loop_ok : SoOk loopS := by
  refine ⟨by decide, by decide, ris_one _, by decide, by decide, fun p hp => ?_⟩
  have o1 : OpOk 2 goO := ⟨w_go, by decide, by decide, by decide, fun x hx => by
    rw [List.mem_singleton.mp hx]; exact ⟨by decide, by decide⟩, ris_one _⟩
  simp only [loopS, List.mem_cons, List.not_mem_nil, or_false] at hp
  rcases hp with e | e <;> subst e
  · exact ⟨w_cave, by decide, fun x hx => by rw [List.mem_singleton.mp hx]; exact o1, ris_one _⟩
  · exact ⟨w_hall, by decide, fun x hx => by rw [List.mem_singleton.mp hx]; exact o1, ris_one _⟩
theorem loop_ab : Ab loopS where
  sm := ⟨by decide, by decide, by decide⟩
  go := by decide
theorem end_ok : SoOk endS := by
  refine ⟨by decide, by decide, ris_one _, by decide, by decide, fun p hp => ?_⟩
  rw [List.mem_singleton.mp hp]
  exact ⟨w_end, by simp, fun o ho => (by cases ho), ris_nil⟩
theorem end_ab : Ab endS where
  sm := ⟨by decide, by decide, by decide⟩
  go := by decide
theorem loop_u : (univA loopS).length < 63 := by decide +kernel
theorem end_u : (univA endS).length < 63 := by decide +kernel
def lA : Sta := ⟨0, 0, m0⟩
def lB : Sta := ⟨0, 1, m0⟩
theorem loop_ks : ksOf (metK loopS) = [lA, lB] := by decide +kernel
theorem loop_a : steps loopS lA = [lB] := by decide +kernel
theorem loop_b : steps loopS lB = [lB] := by decide +kernel
theorem loop_no : ∀ t, Cend (steps loopS) t → t = lA ∨ t = lB → False := fun t h => by
  induction h with
  | fin e =>
    rintro (z | z) <;> subst z
    · rw [loop_a] at e; cases e
    · rw [loop_b] at e; cases e
  | go h _ ih =>
    rintro (z | z) <;> subst z
    · rw [loop_a] at h; exact ih (.inr (List.mem_singleton.mp h))
    · rw [loop_b] at h; exact ih (.inr (List.mem_singleton.mp h))
theorem loop_rch {t : Sta} (h : Rch (steps loopS) lB t) : t = lB := by
  induction h with
  | refl => rfl
  | tail _ q ih => rw [ih, loop_b] at q; exact List.mem_singleton.mp q
theorem loop_rb : Rnd (steps loopS) lB := ⟨lB, by rw [loop_b]; exact List.mem_singleton.mpr rfl, .refl _⟩
theorem loop_ra : ¬ Rnd (steps loopS) lA := fun ⟨x, h1, h2⟩ => by
  rw [loop_a] at h1
  rw [List.mem_singleton.mp h1] at h2
  have := loop_rch h2
  exact absurd this (by decide)
theorem loop_traps : trapsL loopS = [lA, lB] := by
  unfold trapsL
  have e : ((ksOf (metK loopS)).filter fun t => !@decide (Cend (steps loopS) t) (Classical.propDecidable _)) = [lA, lB] := by
    rw [loop_ks]
    refine List.filter_eq_self.mpr fun t ht => ?_
    have : ¬ Cend (steps loopS) t := fun z => loop_no t z (by simpa using ht)
    simp [this]
  rw [e]
  decide +kernel
theorem loop_rounds : roundsL loopS = [lB] := by
  unfold roundsL
  have e : ((ksOf (metK loopS)).filter fun t => @decide (Rnd (steps loopS) t) (Classical.propDecidable _)) = [lB] := by
    rw [loop_ks]
    simp [List.filter_cons, loop_ra, loop_rb]
  rw [e]
  rfl
theorem loop_ends : endsL loopS = [] := by decide +kernel
theorem loop_due : Due loopS .none := .none ⟨lB, by decide +kernel, loop_rb⟩
theorem end_due : Due endS (.int 0) := by
  refine Due.some (N := 0) (fun t ht hr => ?_) (by decide +kernel) (fun j hj => ?_) (Nat.zero_le _) (by decide)
  · have hk : ksOf (metK endS) = [⟨0, 0, mA⟩] := by decide +kernel
    have : t ∈ ksOf (metK endS) := has_mem.mp ht
    rw [hk] at this
    have e := List.mem_singleton.mp this
    subst e
    obtain ⟨x, h1, _⟩ := hr
    have : steps endS ⟨0, 0, mA⟩ = [] := by decide +kernel
    rw [this] at h1
    cases h1
  · have : j = 0 := by omega
    subst this
    exact firsts_ne end_ok
theorem loop_e : PyData.tuple [.tuple [.str ""], .tuple [.tuple [.str "cave", .str "", .tuple [.tuple [.str "go", .str "", .str "", .tuple [.tuple [.int 1, .str "", .str ""]]]]], .tuple [.str "hall", .str "", .tuple [.tuple [.str "go", .str "", .str "", .tuple [.tuple [.int 1, .str "", .str ""]]]]]]] = eSo loopS := by rw [s_e]; rfl
theorem end_e : PyData.tuple [.tuple [.str "a"], .tuple [.tuple [.str "end", .str "", .tuple []]]] = eSo endS := by rw [s_e, s_a]; rfl
theorem lA_e : PyData.tuple [.int 0, .int 0, .str ""] = eSta lA := by rw [s_e]; rfl
theorem lB_e : PyData.tuple [.int 0, .int 1, .str ""] = eSta lB := by rw [s_e]; rfl
section
variable {P : Tb} (n : Nat) (L : LawE P) (h34 : P 34 = some f__law_pick) (h35 : P 35 = some f__law_option) (h36 : P 36 = some f__law_story)
include L h34 h35 h36
theorem r_law52 (h50 : P 50 = some K52.f_law_2) (ns : List Int) (hn : ns.length ≤ 63) : run P (n + 10) 50 [.list (ns.map .int)] = some (false, .bool true) := by
  obtain ⟨pk, K⟩ := pk_ex h34 ns (by omega)
  rw [run_go h50 _ _ rfl]
  show callE (exs _ K52.f_law_2.body [some (false, .list (ns.map .int)), none, none, none, none, none, none, none, none, none, none, none, none]) = _
  rw [law_is2]
  generalize hds : ns.map PyData.int = ds
  obtain ⟨ρ', h1, y1, y3, y4, y5, y6, y7, y8, y9, y10, y11, _, h2⟩ := trips_at (F := run P (n + 9)) (t := .nm 1) (body := stoB2) (enc := fun k : Nat => .int (k : Int)) (ρ := [some (false, .list ds), none, none, none, none, none, none, none, none, none, none, none, none])
    (fun d ρ => ∃ y1 y3 y4 y5 y6 y7 y8 y9 y10 y11, notOwn (some y9) = true ∧ ρ = [some (false, .list ds), y1, none, y3, y4, y5, y6, y7, y8, y9, y10, y11, none]) (List.range 4) ⟨none, none, none, none, none, none, none, none, none, none, rfl, rfl⟩ (fun d i r ρ e ⟨y1, y3, y4, y5, y6, y7, y8, y9, y10, y11, h9, hρ⟩ => by
      subst hρ
      have hi : i < 4 := by
        have : i ∈ List.range 4 := by rw [e]; simp
        exact List.mem_range.mp this
      obtain ⟨z3, z4, z5, z6, z7, z8, z9, z10, z11, hz9, h⟩ := sto2_step n L K h35 h36 i hi hds y3 y4 y5 y6 y7 y8 y9 y10 y11 h9
      exact ⟨_, _, rfl, .inl h, some (false, .int (i : Int)), z3, z4, z5, z6, z7, z8, z9, z10, z11, hz9, rfl⟩)
  subst h2
  have Z := L.ze
  have t1 := r_traps n Z loop_ok loop_ab
  rw [loop_traps] at t1
  have t2 := r_rounds n Z loop_ok loop_ab
  rw [loop_rounds] at t2
  have t3 := r_longest n Z loop_ok loop_ab loop_u loop_due
  have t4 := r_met_ends n Z loop_ok loop_ab
  rw [loop_ends] at t4
  have t5 := r_longest n Z end_ok end_ab end_u end_due
  have th : thaws [.c (.int 4)] [some (false, .list ds), none, none, none, none, none, none, none, none, none, none, none, none] = [some (false, .list ds), none, none, none, none, none, none, none, none, none, none, none, none] := rfl
  have r4 : walkD .range1 [.int 4] = some ((List.range 4).map fun (k : Nat) => .int (k : Int)) := walk_range (n := 4) (by decide)
  have n1 : cmpD .ne (.list [eSta lA, eSta lB]) (.list [eSta lA, eSta lB]) = some false := ne_Stas [lA, lB]
  have n2 : cmpD .ne (.list [eSta lB]) (.list [eSta lB]) = some false := ne_Stas [lB]
  have n3 : cmpD .notN .none .none = some false := rfl
  have n4 : cmpD .eq (.list ([] : List D)) (.list []) = some true := rfl
  have n5 : decide ((0 : Int) = 0) = true := by decide
  simp only [List.map_cons, List.map_nil] at t1 t2 t4
  unfold tailB2 K52.f_law_2
  simp only [List.drop_succ_cons, List.drop_zero]
  rw [b_cons, s_for, th, l_cons, l_nil, v_c, consE_s]
  rw [show forE (run P (n + 9)) (.nm 1) .range1 stoB2 [some (false, .list ds), none, none, none, none, none, none, none, none, none, none, none, none] (some [(Tag.im, PyData.int 4)]) = some (.nx _) from (by simp only [forE, lent, List.any_cons, List.any_nil, List.map_cons, List.map_nil, r4, h1]; rfl), seqE_nx]
  simp_arith [loop_e, setE_im _ 2 (.tup _) _ _ rfl, t1, lA_e, lB_e, n1, t2, n2, t3, n3, t4, n4, end_e, t5, n5]
end
end Rk

set_option autoImplicit false
set_option linter.all false
set_option maxRecDepth 100000
namespace K52
open PySem Rk
theorem tb_stories : Stories tb := ⟨rfl, rfl, rfl, rfl, rfl, rfl, rfl, rfl, rfl, rfl⟩
theorem tb_states : States tb := ⟨tb_stories, rfl, rfl, rfl, rfl, rfl, rfl, rfl⟩
theorem tb_sure : Sure tb := ⟨tb_states, rfl⟩
theorem tb_end : Endless tb := ⟨tb_sure, rfl, rfl, rfl, rfl, rfl, rfl, rfl, rfl, rfl, rfl, rfl, rfl, rfl, rfl⟩
theorem tb_law : LawE tb := ⟨tb_end, ⟨rfl, rfl, rfl, rfl⟩, rfl⟩
theorem law_all (ns : List Int) (h : ns.length ≤ 63) : Rk.run tb 30 50 [.list (ns.map .int)] = some (false, .bool true) := r_law52 20 tb_law rfl rfl rfl rfl ns h
end K52
set_option maxHeartbeats 8000000 in
theorem PySem.Challenge.cw_readerknows_k52_whole_endless_holds : PySem.Challenge.rw_readerknows_k52_whole_endless.Holds := by
  exact k52_holds K52.law_all
