import PyProof.Rows.All
import Wide.All
import OpenK.AllK
import Wide.FinOn
import PySem.Syntax
import PyProof.P3Statements
import PyProof.EqLayable
import KE.KeyNested
import HandS.ForMost
import HandS.ForExc
import KE.KDictKeyed
import HandS.TupMul
import HandS.NoneIn
import PyProof.StrOps2
import HandS.CallSlots
import HandS.TupAny
import HandS.IsInst
import HandS.ExcIs
import HandS.Deep
import HandS.More
import HandS.Codes
import HandS.Rev
import HandS.ExcField
import HandS.Defaults
import HandS.Head0
import HandS.Head1
import HandS.Head2
import HandS.HeadEnd
import HandS.HeadHook1
import HandS.HeadHook2
import HandS.HeadHook3
import HandS.HeadHook4
import PySem.Challenge.RW_fieldhand_k13_whole_written_read_and_run
set_option Elab.async false
set_option linter.all false
set_option maxRecDepth 100000
set_option maxHeartbeats 1000000
/-! A small interpreter for the part of Python that the laws use: values D, a store of things that change, expressions E, statements S. -/
namespace FH
open PySem (Operator CmpOp Str PyData)

inductive D where
  | non | bl (b : Bool) | int (i : Int) | str (s : List Nat) | tup (xs : List D) | lst (xs : List D) | ptr (p : Nat) | rl (xs : List D) | exn
  | clo (c : Nat) (xs : List D)
  deriving Inhabited

/-- the fields of the one class of objects -/
inductive Fld where
  | lines | at_ | scene | doings | met | outcome | around
  deriving DecidableEq, Inhabited

/-- the classes of errors -/
inductive Cl where
  | HandError | BadField | BadProgram | BadSize | BadWish | BadNumber | BadText | ValueError
  deriving DecidableEq, Inhabited

inductive O where
  | lst (xs : List D) | dic (kvs : List (D × D)) | ins (fs : List (Fld × D))
  deriving Inhabited

abbrev Store := List O
abbrev Env := List (Option D)

inductive Res (α : Type) where
  | ok (a : α) (μ : Store) | exc (c : Cl) (d : D) (μ : Store) | bad
  deriving Inhabited

def Res.bind {α β : Type} (r : Res α) (f : α → Store → Res β) : Res β :=
  match r with
  | .ok a μ => f a μ
  | .exc c d μ => .exc c d μ
  | .bad => .bad
@[simp] theorem Res.bind_ok {α β : Type} (a : α) (μ : Store) (f : α → Store → Res β) : (Res.ok a μ).bind f = f a μ := rfl
@[simp] theorem Res.bind_exc {α β : Type} (c : Cl) (d : D) (μ : Store) (f : α → Store → Res β) : (Res.exc c d μ).bind f = .exc c d μ := rfl
@[simp] theorem Res.bind_bad {α β : Type} (f : α → Store → Res β) : (Res.bad : Res α).bind f = .bad := rfl
def Res.of {α : Type} (o : Option α) (μ : Store) : Res α := match o with | some a => .ok a μ | none => .bad
@[simp] theorem Res.of_some {α : Type} (a : α) (μ : Store) : Res.of (some a) μ = .ok a μ := rfl
@[simp] theorem Res.of_none {α : Type} (μ : Store) : Res.of (none : Option α) μ = .bad := rfl

/-- no error comes out -/
def Res.noX {α : Type} (r : Res α) : Res α := match r with | .ok a μ => .ok a μ | _ => .bad
@[simp] theorem Res.noX_ok {α : Type} (a : α) (μ : Store) : (Res.ok a μ).noX = .ok a μ := rfl

/-! ### values -/
def lineMax : Nat := 16777216
mutual
/-- a value without a thing of the store, as data -/
def toPy : D → Option PyData
  | .non => some .none
  | .bl b => some (.bool b)
  | .int i => some (.int i)
  | .str s => some (.str ⟨s.toArray⟩)
  | .tup xs => (toPys xs).map .tuple
  | .lst xs => (toPys xs).map .list
  | .ptr _ => none
  | .rl _ => none
  | .exn => none
  | .clo _ _ => none
def toPys : List D → Option (List PyData)
  | [] => some []
  | d :: ds => (toPy d).bind fun p => (toPys ds).map (p :: ·)
end
/-- .. a list of the store too -/
def toPyS (μ : Store) : D → Option PyData
  | .ptr p => match μ[p]? with | some (.lst xs) => (toPys xs).map .list | _ => none
  | d => toPy d
def eqD (μ : Store) (a b : D) : Option Bool :=
  (toPyS μ a).bind fun x => (toPyS μ b).bind fun y => if PySem.SeqAt.shaped x && PySem.SeqAt.shaped y then some (PyData.eqv x y) else none
/-- the items of a list or tuple -/
def itemsOf (μ : Store) : D → Option (List D)
  | .tup xs => some xs
  | .lst xs => some xs
  | .rl xs => some xs
  | .ptr p => match μ[p]? with | some (.lst xs) => some xs | _ => none
  | _ => none
/-- the items of a list that may be written over -/
def listOf (μ : Store) : D → Option (List D)
  | .lst xs => some xs
  | .ptr p => match μ[p]? with | some (.lst xs) => some xs | _ => none
  | _ => none
def ixN (n : Nat) (i : Int) : Option Nat := if 0 ≤ i then (if i < n then some i.toNat else none) else if -(n : Int) ≤ i then some (i + n).toNat else none
def atI {α : Type} (xs : List α) (i : Int) : Option α := (ixN xs.length i).bind fun j => xs[j]?
def sIx (n d : Nat) : Option Int → Nat
  | none => d
  | some v => if v < 0 then (v + (n : Int)).toNat else min v.toNat n
def cut {α : Type} (xs : List α) (lo hi : Option Int) : List α := (xs.drop (sIx xs.length 0 lo)).take (sIx xs.length xs.length hi - sIx xs.length 0 lo)
def smallI (i : Int) : Bool := Nat.blt i.natAbs 18446744073709551616

def addD (μ : Store) : D → D → Option D
  | .int i, .int j => some (.int (i + j))
  | .str a, .str b => if a.length + b.length ≤ lineMax then some (.str (a ++ b)) else none
  | .tup a, .tup b => if a.length + b.length ≤ lineMax then some (.tup (a ++ b)) else none
  | a, b => (listOf μ a).bind fun xs => (listOf μ b).bind fun ys => if xs.length + ys.length ≤ lineMax then some (.lst (xs ++ ys)) else none
def mulD (μ : Store) : D → D → Option D
  | .int i, .int j => if smallI i || smallI j then some (.int (i * j)) else none
  | .str s, .int k => if s.length ≤ 1000 ∧ k ≤ 1000 ∧ 0 ≤ k then some (.str (List.replicate k.toNat s).flatten) else none
  | .tup xs, .int k => if xs.length ≤ 1000 ∧ k ≤ 1000 ∧ 2 ≤ k ∧ 1 ≤ xs.length then some (.tup (List.replicate k.toNat xs).flatten) else none
  | a, .int k => (listOf μ a).bind fun xs => if xs.length ≤ 1000 ∧ k ≤ 1000 ∧ 0 ≤ k then some (.lst (List.replicate k.toNat xs).flatten) else none
  | _, _ => none
def binD (μ : Store) (op : Operator) (a b : D) : Option D :=
  match op with
  | .Add => addD μ a b
  | .Mult => mulD μ a b
  | .Sub => match a, b with | .int i, .int j => some (.int (i - j)) | _, _ => none
  | .FloorDiv => match a, b with | .int i, .int j => if 0 < j ∧ Nat.blt j.natAbs 1073741824 = true then some (.int (i / j)) else none | _, _ => none
  | .Mod => match a, b with | .int i, .int j => if 0 < j then some (.int (i % j)) else none | _, _ => none
  | .Pow => match a, b with | .int i, .int j => if 0 ≤ j ∧ j ≤ 1000 ∧ smallI i then some (.int (i ^ j.toNat)) else none | _, _ => none
  | _ => none
/-- flat values, and == of them -/
def flatD : D → Bool
  | .non => true
  | .bl _ => true
  | .int _ => true
  | .str _ => true
  | _ => false
def eqF : D → D → Bool
  | .non, .non => true
  | .bl a, .bl b => a == b
  | .bl a, .int b => (if a then 1 else 0) == b
  | .int a, .bl b => a == (if b then 1 else 0)
  | .int a, .int b => a == b
  | .str a, .str b => a == b
  | _, _ => false
mutual
/-- a value as a key of a dict -/
def toNK : D → Option PySem.NestedKey
  | .non => some .none
  | .bl b => some (.num (if b = true then 1 else 0))
  | .int i => some (.num i)
  | .str s => some (.text ⟨s.toArray⟩)
  | .tup xs => (toNKs xs).map .tup
  | .lst _ => none
  | .ptr _ => none
  | .rl _ => none
  | .exn => none
  | .clo _ _ => none
def toNKs : List D → Option (List PySem.NestedKey)
  | [] => some []
  | d :: ds => (toNK d).bind fun p => (toNKs ds).map (p :: ·)
end
/-- a tuple as a key -/
def keyD : D → Option PySem.NestedKey
  | .tup xs => (toNK (.tup xs)).bind fun k => if k.depth ≤ 8 then some k else none
  | _ => none
def dkey (kvs : List (D × D)) (k : PySem.NestedKey) : Option D :=
  match kvs with
  | [] => none
  | (a, v) :: r => if keyD a = some k then some v else dkey r k
def inL (x : D) (xs : List D) : Option Bool :=
  (toPys xs).bind fun ds => (toPy x).bind fun k => if PySem.SeqAt.shaped k && PySem.SeqAt.shaped (.list ds) then some (ds.any fun z => PyData.eqv z k) else none
def inD (μ : Store) (x c : D) : Option Bool :=
  match c with
  | .str s => match x with | .str [a] => some (decide (a ∈ s)) | _ => none
  | .ptr p => match μ[p]? with
    | some (.dic kvs) => (keyD x).map fun k => (dkey kvs k).isSome
    | some (.lst xs) => inL x xs
    | _ => none
  | .lst xs => inL x xs
  | .tup xs => if flatD x && xs.all flatD then some (xs.any fun y => eqF y x) else none
  | _ => none
def cmpD (μ : Store) (op : CmpOp) (a b : D) : Option Bool :=
  match op with
  | .Eq => eqD μ a b
  | .NotEq => (eqD μ a b).map (!·)
  | .Is => match a, b with | .non, .non => some true | _, .non => some false | _, _ => none
  | .IsNot => match a, b with | .non, .non => some false | _, .non => some true | _, _ => none
  | .In => inD μ a b
  | .NotIn => (inD μ a b).map (!·)
  | .Lt => match a, b with | .int i, .int j => some (decide (i < j)) | _, _ => none
  | .LtE => match a, b with | .int i, .int j => some (decide (i ≤ j)) | _, _ => none
  | .Gt => match a, b with | .int i, .int j => some (decide (j < i)) | _, _ => none
  | .GtE => match a, b with | .int i, .int j => some (decide (j ≤ i)) | _, _ => none
def idxD (μ : Store) (a i : D) : Option D :=
  match a with
  | .str s => match i with | .int k => if s.length ≤ lineMax then (atI s k).map fun c => .str [c] else none | _ => none
  | .ptr p => match μ[p]? with
    | some (.dic kvs) => (keyD i).bind fun k => dkey kvs k
    | some (.lst xs) => match i with | .int k => atI xs k | _ => none
    | _ => none
  | .rl xs => match i with | .int k => atI xs k | _ => none
  | .tup xs => match i with | .int k => atI xs k | _ => none
  | .lst xs => match i with | .int k => atI xs k | _ => none
  | _ => none
/-- xs[lo:hi] by values -/
def slcV (μ : Store) (a : D) (l h : Option Int) : Option D :=
  match a with
  | .str s => if s.length ≤ lineMax then some (.str (cut s l h)) else none
  | .tup xs => some (.tup (cut xs l h))
  | a => (itemsOf μ a).map fun xs => .lst (cut xs l h)
/-- a part of a slice -/
def toI (d : D) (μ : Store) : Res (Option Int) := match d with | .int i => .ok (some i) μ | _ => .bad

/-! ### builtins -/
inductive Ty where
  | tuple | list | bool | str | int
  deriving DecidableEq, Inhabited
def tyD (μ : Store) : D → Option Ty
  | .bl _ => some .bool
  | .int _ => some .int
  | .str _ => some .str
  | .tup _ => some .tuple
  | .lst _ => some .list
  | .ptr p => match μ[p]? with | some (.lst _) => some .list | _ => none
  | _ => none
def tyIs : Ty → Ty → Bool
  | .bool, .int => true
  | a, b => decide (a = b)
def isiD (μ : Store) (d : D) (ts : List Ty) : Option Bool :=
  match d with
  | .non => some false
  | d => (tyD μ d).map fun t => ts.any (tyIs t)

inductive B where
  | len | tuple | list | int | min2 | max2 | min1 | sum | sorted | lenSet
  deriving DecidableEq, Inhabited
def intsOf : List D → Option (List Int)
  | [] => some []
  | .int i :: r => (intsOf r).map (i :: ·)
  | _ => none
def strsOf : List D → Option (List (List Nat))
  | [] => some []
  | .str s :: r => (strsOf r).map (s :: ·)
  | _ => none
/-- put in order, stable -/
def insBy {α : Type} (le : α → α → Bool) (x : α) : List α → List α
  | [] => [x]
  | y :: r => if le x y then x :: y :: r else y :: insBy le x r
def sortBy {α : Type} (le : α → α → Bool) : List α → List α
  | [] => []
  | x :: r => insBy le x (sortBy le r)
def leCodes : List Nat → List Nat → Bool
  | [], _ => true
  | _ :: _, [] => false
  | x :: xs, y :: ys => if x = y then leCodes xs ys else decide (x < y)
def nodupC : List (List Nat) → List (List Nat)
  | [] => []
  | x :: r => if r.contains x then nodupC r else x :: nodupC r
def lenD (μ : Store) : List D → Option D
  | [.str s] => if s.length ≤ lineMax then some (.int s.length) else none
  | [d] => (itemsOf μ d).map fun xs => .int xs.length
  | _ => none
def oneD (f : D → Option D) : List D → Option D
  | [d] => f d
  | _ => none
def intD : D → Option D
  | .bl b => some (.int (if b then 1 else 0))
  | .int i => some (.int i)
  | _ => none
def twoI (f : Int → Int → Int) : List D → Option D
  | [.int i, .int j] => some (.int (f i j))
  | _ => none
def minT : D → Option D
  | .tup [.int i, .int j] => some (.int (if j < i then j else i))
  | _ => none
def sumD (μ : Store) (d : D) : Option D := (listOf μ d).bind fun xs => (intsOf xs).map fun ns => .int ns.sum
def sortedD : D → Option D
  | .tup xs => (strsOf xs).bind fun ss => if ss.length < 64 then some (.lst ((sortBy leCodes ss).map .str)) else none
  | _ => none
def bltD (b : B) (ds : List D) (μ : Store) : Option D :=
  match b with
  | .len => lenD μ ds
  | .tuple => oneD (fun d => (itemsOf μ d).map .tup) ds
  | .list => oneD (fun d => (itemsOf μ d).map .lst) ds
  | .int => oneD intD ds
  | .min2 => twoI (fun i j => if j < i then j else i) ds
  | .max2 => twoI (fun i j => if j > i then j else i) ds
  | .min1 => oneD minT ds
  | .sum => oneD (sumD μ) ds
  | .sorted => oneD sortedD ds
  | .lenSet => none

inductive Mt where
  | append | extend | pop | reverse | clear | join | split | count | index | sindex
  deriving DecidableEq, Inhabited
def joinC (sep : List Nat) : List (List Nat) → List Nat
  | [] => []
  | [p] => p
  | p :: q :: r => p ++ (sep ++ joinC sep (q :: r))
/-- cut at each sign c -/
def splitC (c : Nat) : List Nat → List (List Nat)
  | [] => [[]]
  | x :: r => if x = c then [] :: splitC c r else match splitC c r with | p :: q => (x :: p) :: q | [] => [[x]]
def idxTrue : List D → Option Nat
  | [] => none
  | .bl true :: _ => some 0
  | .bl false :: r => (idxTrue r).map (· + 1)
  | _ => none
def cntTrue : List D → Option Nat
  | [] => some 0
  | .bl b :: r => (cntTrue r).map fun n => if b then n + 1 else n
  | _ => none
/-- the receiver is of the method's kind -/
def recvOk (m : Mt) (x : D) (μ : Store) : Bool :=
  match m with
  | .join | .split | .sindex => (match x with | .str _ => true | _ => false)
  | _ => (listOf μ x).isSome
/-- a list of the store -/
def lstAt (μ : Store) : D → Option (Nat × List D)
  | .ptr p => match μ[p]? with | some (.lst xs) => some (p, xs) | _ => none
  | _ => none
def appendD (μ : Store) (a : D) : List D → Res D
  | [d] => match lstAt μ a with
    | some (p, xs) => if xs.length < lineMax then .ok .non (μ.set p (.lst (xs ++ [d]))) else .bad
    | none => .bad
  | _ => .bad
def extendD (μ : Store) (a : D) : List D → Res D
  | [d] => match lstAt μ a, listOf μ d with
    | some (p, xs), some ys => if xs.length + ys.length ≤ lineMax then .ok .non (μ.set p (.lst (xs ++ ys))) else .bad
    | _, _ => .bad
  | _ => .bad
def reverseD (μ : Store) (a : D) : List D → Res D
  | [] => match lstAt μ a with
    | some (p, xs) => .ok .non (μ.set p (.lst xs.reverse))
    | none => .bad
  | _ => .bad
def clearD (μ : Store) (a : D) : List D → Res D
  | [] => match lstAt μ a with
    | some (p, _) => .ok .non (μ.set p (.lst []))
    | none => .bad
  | _ => .bad
def popD (μ : Store) (a : D) : List D → Res D
  | [] => match lstAt μ a with
    | some (p, xs) => match xs[xs.length - 1]? with
      | some y => .ok y (μ.set p (.lst xs.dropLast))
      | none => .bad
    | none => .bad
  | [.int i] => match lstAt μ a with
    | some (p, xs) => if xs.length ≤ lineMax then (match ixN xs.length i with
      | some k => (match xs[k]? with
        | some y => .ok y (μ.set p (.lst (xs.eraseIdx k)))
        | none => .bad)
      | none => .bad) else .bad
    | none => .bad
  | _ => .bad
def joinD (μ : Store) (a : D) : List D → Res D
  | [d] => match a with
    | .str s => match (itemsOf μ d).bind strsOf with
      | some ss => if (ss.map List.length).sum + ss.length * s.length ≤ 16777216 then .ok (.str (joinC s ss)) μ else .bad
      | none => .bad
    | _ => .bad
  | _ => .bad
def splitD (μ : Store) (a : D) : List D → Res D
  | [.str [c]] => match a with
    | .str s => if s.length + 2 ≤ lineMax ∧ c < 128 then .ok (.lst ((splitC c s).map .str)) μ else .bad
    | _ => .bad
  | _ => .bad
/-- a method of a built-in thing -/
def mthD (m : Mt) (a : D) (ds : List D) (μ : Store) : Res D :=
  match m with
  | .append => appendD μ a ds
  | .extend => extendD μ a ds
  | .reverse => reverseD μ a ds
  | .clear => clearD μ a ds
  | .pop => popD μ a ds
  | .join => joinD μ a ds
  | .split => splitD μ a ds
  | .count => .bad
  | .index => .bad
  | .sindex => .bad

end FH

set_option maxHeartbeats 1000000
namespace FH
open PySem (Operator CmpOp Str PyData)
/-- the defs of all laws' texts -/
inductive F where
  | BadText_init
  | are_rows
  | need_scene
  | begun
  | turned
  | cell_ahead
  | is_so
  | with_sign
  | behind
  | are_steps
  | count_
  | need_program
  | lines_of
  | Run_init
  | Run_go_on
  | Run_step
  | run_of
  | ran
  | ring
  | passed
  | law_taken
  | law_alike
  | law_size
  | law_rows
  | law_field
  | law_scene
  | law_turned
  | law_odd_rows
  | law_odd_scene
  | law_refused_k01
  | law_begins
  | law_works_k01
  | law_k01
  | steps_in
  | need_size
  | need_wish
  | all_rows
  | all_fields
  | is_kept
  | keeps
  | first_failed
  | fails
  | are_unlike
  | parted
  | all_scenes
  | everywhere
  | words_of
  | text_of
  | written
  | need_long
  | single
  | all_programs
  | outcomes
  | likest
  | law_body
  | law_step
  | law_program_k02
  | law_is_body_k02
  | law_count
  | law_is_program
  | law_odd
  | law_around_k02
  | law_spoilt
  | law_works_k02
  | law_sizes
  | law_word_k02
  | law_k02
  | law_ahead
  | law_so
  | law_done_k03
  | law_walked_k03
  | law_stepped_k03
  | law_refused_k03
  | law_k03
  | law_program_k04
  | law_walked_k04
  | law_stepped_k04
  | law_has
  | law_cells
  | law_k04
  | law_numbered
  | law_at_step
  | law_ring
  | law_passed
  | law_counter
  | law_k05
  | law_k06
  | fields
  | law_fields_k07
  | law_refused_k07
  | law_is_far
  | law_k07
  | law_fields_k08
  | law_keeps_k08
  | law_wish
  | law_refused_k08
  | law_k08
  | law_other
  | law_k09
  | law_scenes
  | law_same
  | law_pair
  | law_around_k10
  | law_k10
  | shortest
  | law_done_k11
  | law_keeps_k11
  | law_words_k11
  | law_long_k11
  | law_all_k11
  | law_word_k11
  | law_shown_k11
  | law_k11
  | law_words_k12
  | law_long_k12
  | law_all_k12
  | law_told_k12
  | law_outs
  | law_shown_k12
  | law_k12
  | must
  | body_at
  | read
  | law_k13
  | law_is_body_k14
  | law_closed
  | law_took
  | law_reading
  | law_told_k14
  | law_changed
  | law_k14
  | law_asked
  | law_copied
  | law_k15
  deriving DecidableEq, Inhabited
inductive Gc where
  | DOINGS | ASKS | MOST_STEPS | MOST_WITHIN | WALL | STONE | FREE | SIGNS | MOST_SIDE | MOST_HELD | STEPS | MOST_DOINGS | MOST_CELLS | FEW_CELLS | WISHES | MOST_LONG
  deriving DecidableEq, Inhabited
def gval : Gc → D
  | .DOINGS => .tup [.str [103, 111], .str [112, 117, 116], .str [116, 97, 107, 101], .str [116, 117, 114, 110]]
  | .ASKS => .tup [.str [104, 101, 108, 100], .str [111, 112, 101, 110], .str [115, 116, 111, 110, 101]]
  | .MOST_STEPS => .int 30
  | .MOST_WITHIN => .int 4
  | .WALL => .str [35]
  | .STONE => .str [111]
  | .FREE => .str [46]
  | .SIGNS => .tup [.str [35], .str [111], .str [46]]
  | .MOST_SIDE => .int 6
  | .MOST_HELD => .int 36
  | .STEPS => .tup [.tup [.int 0, .int 1], .tup [.int 1, .int 0], .tup [.int 0, .int (-1)], .tup [.int (-1), .int 0]]
  | .MOST_DOINGS => .int 1000
  | .MOST_CELLS => .int 6
  | .FEW_CELLS => .int 4
  | .WISHES => .tup [.str [104, 111, 109, 101], .str [115, 97, 109, 101], .str [99, 108, 101, 97, 114], .str [115, 116, 117, 99, 107], .str [101, 109, 112, 116, 121]]
  | .MOST_LONG => .int 3
/-- LENGTHS -/
def lengths : List (List Nat × Int) := [([103, 111], 1), ([116, 117, 114, 110], 1), ([116, 97, 107, 101], 1), ([112, 117, 116], 1), ([105, 102], 4), ([119, 104, 105, 108, 101], 3)]

mutual
inductive E where
  | var (i : Nat) | con (d : D) | glo (g : Gc) | tup (es : Es) | lst (es : Es) | ref (e : E) | dnew
  | bin (op : Operator) (a b : E) | neg (a : E) | cmp (op : CmpOp) (a b : E) | chain (o1 o2 : CmpOp) (a b c : E)
  | inG (pos : Bool) (a : E) | getG (a : E)
  | and (a b : E) | or (a b : E) | not (a : E) | ife (c a b : E)
  | idx (a i : E) | slc (a lo hi : E) | fld (a : E) (f : Fld) | place (i : Nat)
  | comp0 (i : Nat) (it : I) (e : E) | comp1 (i : Nat) (it : I) (c e : E)
  | isE (i : Nat) (c : Cl) | isi (a : E) (ts : List Ty) | blt (b : B) (es : Es) | mth (m : Mt) (a : E) (es : Es) | sortK (a : E) (f : F)
  | call (f : F) (es : Es) | meth (f : F) (a : E) | make (f : F) (es : Es) | callC (i : Nat)
inductive Es where
  | nil | cons (e : E) (es : Es)
inductive I where
  | seq (e : E) | rng (es : Es) | rev (e : E)
end
mutual
inductive S where
  | pass | ex (e : E) | ret (e : E) | asg (i : Nat) (e : E) | unp (is : List Nat) (e : E) | unpL (is : List Nat) (e : E) | par (i j : Nat) (a b : E)
  | setI (a i e : E) | setF (a : E) (f : Fld) (e : E) | ifs (c : E) (a b : Ss) | whl (c : E) (b : Ss) | for_ (i : Nat) (it : I) (b : Ss) | forT (is : List Nat) (it : I) (b : Ss)
  | raise (c : Cl) (e : E) | try_ (c : Cl) (i : Option Nat) (b s : Ss)
inductive Ss where
  | nil | cons (s : S) (ss : Ss)
end

/-- a part of a slice that is left out -/
def noneE : E → Bool
  | .con .non => true
  | _ => false
/-- what is walked: values, or a list of the store -/
inductive Src where
  | vals (xs : List D) | at_ (p : Nat)
def Src.get (s : Src) (i : Nat) (μ : Store) : Option D :=
  match s with
  | .vals xs => xs[i]?
  | .at_ p => match μ[p]? with | some (.lst xs) => xs[i]? | _ => none
def Src.len (s : Src) (μ : Store) : Option Nat :=
  match s with
  | .vals xs => some xs.length
  | .at_ p => match μ[p]? with | some (.lst xs) => some xs.length | _ => none
def srcD (μ : Store) : D → Option Src
  | .str s => some (.vals (s.map fun c => .str [c]))
  | .tup xs => some (.vals xs)
  | .lst xs => some (.vals xs)
  | .ptr p => match μ[p]? with | some (.lst _) => some (.at_ p) | _ => none
  | _ => none
def big (i : Int) : Bool := Nat.blt i.natAbs 1099511627776
def rangeFrom (lo st : Int) : Nat → List D
  | 0 => []
  | n + 1 => .int lo :: rangeFrom (lo + st) st n
def rngD : List D → Option (List D)
  | [.int j] => if big j then some (rangeFrom 0 1 j.toNat) else none
  | [.int i, .int j] => if big i && big j then some (rangeFrom i 1 (j - i).toNat) else none
  | [.int i, .int j, .int c] => if big i && big j && decide (0 < c) && decide (c < 1000) then some (rangeFrom i c ((j - i + c - 1) / c).toNat) else none
  | _ => none

/-- the turns of a comprehension: f the test and the element of an item -/
def lcLoop (src : Src) (f : D → Store → Res (Option D)) : Nat → Nat → List D → Store → Res (List D)
  | 0, i, acc, μ => if src.len μ = some i then .ok acc μ else .bad
  | k + 1, i, acc, μ => match src.get i μ with
    | none => .bad
    | some d => match f d μ with
      | .ok (some y) μ' => if acc.length < lineMax then lcLoop src f k (i + 1) (acc ++ [y]) μ' else .bad
      | .ok none μ' => lcLoop src f k (i + 1) acc μ'
      | _ => .bad
def lcRun (src : Src) (f : D → Store → Res (Option D)) (μ : Store) : Res D :=
  match src.len μ with
  | some n => (lcLoop src f n 0 [] μ).bind fun xs μ' => .ok (.lst xs) μ'
  | none => .bad

abbrev Calls := F → List D → Store → Res D
/-- the classes over a class -/
def Cl.sub : Cl → Cl → Bool
  | _, .ValueError => true
  | .ValueError, _ => false
  | _, .HandError => true
  | a, b => decide (a = b)
def putF (f : Fld) (v : D) : List (Fld × D) → List (Fld × D)
  | [] => [(f, v)]
  | (g, x) :: r => if g = f then (g, v) :: r else (g, x) :: putF f v r
def getF (f : Fld) : List (Fld × D) → Option D
  | [] => none
  | (g, x) :: r => if f = g then some x else getF f r
def boolOf : D → Option Bool
  | .bl b => some b
  | _ => none
def keysOf (cl : Calls) (f : F) : List D → Store → Option (List (List Nat × D))
  | [], _ => some []
  | d :: ds, μ => match cl f [d] μ with
    | .ok (.str s) μ' => if s.length ≤ lineMax then (keysOf cl f ds μ').map ((s, d) :: ·) else none
    | _ => none

section
variable (cl : Calls) (cx : Option (Cl × D))
mutual
def ev : E → Env → Store → Res D
  | .var i, σ, μ => Res.of (σ[i]?.bind id) μ
  | .con d, _, μ => .ok d μ
  | .glo g, _, μ => .ok (gval g) μ
  | .tup es, σ, μ => (evs es σ μ).bind fun ds μ => .ok (.tup ds) μ
  | .lst es, σ, μ => (evs es σ μ).bind fun ds μ => .ok (.lst ds) μ
  | .ref e, σ, μ => (ev e σ μ).bind fun d μ => match d with | .lst xs => .ok (.ptr μ.length) (μ ++ [.lst xs]) | _ => .bad
  | .dnew, _, μ => .ok (.ptr μ.length) (μ ++ [.dic []])
  | .bin op a b, σ, μ => (ev a σ μ).bind fun x μ => (ev b σ μ).bind fun y μ => Res.of (binD μ op x y) μ
  | .neg a, σ, μ => (ev a σ μ).bind fun x μ => match x with | .int i => .ok (.int (-i)) μ | _ => .bad
  | .cmp op a b, σ, μ => (ev a σ μ).bind fun x μ => (ev b σ μ).bind fun y μ => (Res.of (cmpD μ op x y) μ).bind fun r μ => .ok (.bl r) μ
  | .chain o1 o2 a b c, σ, μ => (ev a σ μ).bind fun x μ => (ev b σ μ).bind fun y μ => (Res.of (cmpD μ o1 x y) μ).bind fun r μ =>
      if r then (ev c σ μ).bind fun z μ => (Res.of (cmpD μ o2 y z) μ).bind fun r μ => .ok (.bl r) μ else .ok (.bl false) μ
  | .inG pos a, σ, μ => (ev a σ μ).bind fun x μ => match x with | .str s => .ok (.bl (if pos then (lengths.lookup s).isSome else !(lengths.lookup s).isSome)) μ | _ => .bad
  | .getG a, σ, μ => (ev a σ μ).bind fun x μ => match x with | .str s => (match lengths.lookup s with | some n => .ok (.int n) μ | none => .bad) | _ => .bad
  | .and a b, σ, μ => (ev a σ μ).bind fun x μ => match x with | .bl true => ev b σ μ | .bl false => .ok (.bl false) μ | _ => .bad
  | .or a b, σ, μ => (ev a σ μ).bind fun x μ => match x with | .bl true => .ok (.bl true) μ | .bl false => ev b σ μ | _ => .bad
  | .not a, σ, μ => (ev a σ μ).bind fun x μ => match x with | .bl b => .ok (.bl (!b)) μ | _ => .bad
  | .ife c a b, σ, μ => (ev c σ μ).bind fun x μ => match x with | .bl true => ev a σ μ | .bl false => ev b σ μ | _ => .bad
  | .idx a i, σ, μ => (ev a σ μ).bind fun x μ => (ev i σ μ).bind fun y μ => Res.of (idxD μ x y) μ
  | .slc a lo hi, σ, μ => (ev a σ μ).bind fun x μ => (if noneE lo then Res.ok none μ else (ev lo σ μ).bind toI).bind fun l μ => (if noneE hi then Res.ok none μ else (ev hi σ μ).bind toI).bind fun h μ => Res.of (slcV μ x l h) μ
  | .fld a f, σ, μ => (ev a σ μ).bind fun x μ => match x with
      | .ptr p => (match μ[p]? with | some (.ins fs) => Res.of (getF f fs) μ | _ => .bad)
      | _ => .bad
  | .place i, σ, μ => match cx with | some (.BadText, d) => .ok d μ | _ => .bad
  | .comp0 i it e, σ, μ => (evI it σ μ).bind fun src μ => lcRun src (fun d μ => (ev e (σ.set i (some d)) μ).bind fun y μ => .ok (some y) μ) μ
  | .comp1 i it c e, σ, μ => (evI it σ μ).bind fun src μ => lcRun src (fun d μ => (ev c (σ.set i (some d)) μ).bind fun b μ => match b with
      | .bl true => (ev e (σ.set i (some d)) μ).bind fun y μ => .ok (some y) μ
      | .bl false => .ok none μ
      | _ => .bad) μ
  | .isE i c, σ, μ => match cx with | some (k, _) => if k = .BadText then .bad else .ok (.bl (k.sub c)) μ | none => .bad
  | .isi a ts, σ, μ => (ev a σ μ).bind fun x μ => (Res.of (isiD μ x ts) μ).bind fun r μ => .ok (.bl r) μ
  | .blt b es, σ, μ => (evs es σ μ).bind fun ds μ => Res.of (bltD b ds μ) μ
  | .mth m a es, σ, μ => (ev a σ μ).bind fun x μ => if recvOk m x μ then (evs es σ μ).bind fun ds μ => mthD m x ds μ else .bad
  | .sortK a f, σ, μ => (ev a σ μ).bind fun x μ => match listOf μ x with
      | some xs => (match keysOf cl f xs μ with
        | some ks => .ok (.lst ((sortBy (fun p q => leCodes p.1 q.1) ks).map (·.2))) μ
        | none => .bad)
      | none => .bad
  | .call f es, σ, μ => (evs es σ μ).bind fun ds μ => cl f ds μ
  | .meth f a, σ, μ => (ev a σ μ).bind fun x μ => match x with | .ptr p => (match μ[p]? with | some (.ins _) => (cl f [.ptr p] μ).noX | _ => .bad) | _ => .bad
  | .make f es, σ, μ => (evs es σ μ).bind fun ds μ => (cl f (.ptr μ.length :: ds) (μ ++ [.ins []])).noX.bind fun r μ' => match r with | .non => .ok (.ptr μ.length) μ' | _ => .bad
  | .callC _, _, _ => .bad
def evs : Es → Env → Store → Res (List D)
  | .nil, _, μ => .ok [] μ
  | .cons e es, σ, μ => (ev e σ μ).bind fun d μ => (evs es σ μ).bind fun ds μ => .ok (d :: ds) μ
def evI : I → Env → Store → Res Src
  | .seq e, σ, μ => (ev e σ μ).bind fun d μ => Res.of (srcD μ d) μ
  | .rng es, σ, μ => (evs es σ μ).bind fun ds μ => (Res.of (rngD ds) μ).bind fun xs μ => .ok (.vals xs) μ
  | .rev e, σ, μ => (ev e σ μ).bind fun d μ => match d with | .tup xs => .ok (.vals xs.reverse) μ | _ => .bad
end

/-- how a statement comes out -/
inductive Out where
  | nx (σ : Env) (μ : Store) | rt (d : D) (μ : Store) | xc (c : Cl) (d : D) (σ : Env) (μ : Store) | bad
  deriving Inhabited
def Out.seq (o : Out) (f : Env → Store → Out) : Out := match o with | .nx σ μ => f σ μ | o => o
@[simp] theorem Out.seq_nx (σ : Env) (μ : Store) (f : Env → Store → Out) : (Out.nx σ μ).seq f = f σ μ := rfl
@[simp] theorem Out.seq_rt (d : D) (μ : Store) (f : Env → Store → Out) : (Out.rt d μ).seq f = .rt d μ := rfl
@[simp] theorem Out.seq_xc (c : Cl) (d : D) (σ : Env) (μ : Store) (f : Env → Store → Out) : (Out.xc c d σ μ).seq f = .xc c d σ μ := rfl
@[simp] theorem Out.seq_bad (f : Env → Store → Out) : Out.bad.seq f = .bad := rfl
/-- an expression's end, in a statement -/
def Res.out {α : Type} (r : Res α) (σ : Env) (f : α → Store → Out) : Out := match r with | .ok a μ => f a μ | .exc c d μ => .xc c d σ μ | .bad => .bad
@[simp] theorem Res.out_ok {α : Type} (a : α) (μ : Store) (σ : Env) (f : α → Store → Out) : (Res.ok a μ).out σ f = f a μ := rfl
@[simp] theorem Res.out_exc {α : Type} (c : Cl) (d : D) (μ : Store) (σ : Env) (f : α → Store → Out) : (Res.exc c d μ : Res α).out σ f = .xc c d σ μ := rfl
@[simp] theorem Res.out_bad {α : Type} (σ : Env) (f : α → Store → Out) : (Res.bad : Res α).out σ f = .bad := rfl
def forLoop (src : Src) (f : D → Env → Store → Out) : Nat → Nat → Env → Store → Out
  | 0, i, σ, μ => if src.len μ = some i then .nx σ μ else .bad
  | k + 1, i, σ, μ => match src.get i μ with
    | none => .bad
    | some d => (f d σ μ).seq fun σ μ => forLoop src f k (i + 1) σ μ
def forRun (src : Src) (f : D → Env → Store → Out) (σ : Env) (μ : Store) : Out :=
  match src.len μ with
  | some n => forLoop src f n 0 σ μ
  | none => .bad
def whlRun (c : Env → Store → Res D) (b : Env → Store → Out) : Nat → Env → Store → Out
  | 0, _, _ => .bad
  | n + 1, σ, μ => (c σ μ).out σ fun x μ => match x with
    | .bl true => (b σ μ).seq fun σ μ => whlRun c b n σ μ
    | .bl false => .nx σ μ
    | _ => .bad
def setAll : List Nat → List D → Env → Option Env
  | [], [], σ => some σ
  | i :: is, d :: ds, σ => setAll is ds (σ.set i (some d))
  | _, _, _ => none
def setK (kvs : List (D × D)) (k : PySem.NestedKey) (kd v : D) : List (D × D) :=
  match kvs with
  | [] => [(kd, v)]
  | (a, b) :: r => if keyD a = some k then (a, v) :: r else (a, b) :: setK r k kd v
def setIx (a i v : D) (μ : Store) : Option Store :=
  match a with
  | .ptr p => match μ[p]? with
    | some (.lst xs) => (match i with | .int k => (ixN xs.length k).map fun j => μ.set p (.lst (xs.set j v)) | _ => none)
    | some (.dic kvs) => (keyD i).bind fun k => if kvs.length < lineMax then some (μ.set p (.dic (setK kvs k i v))) else none
    | _ => none
  | _ => none
variable (fu : Nat)
end
section
variable (cl : Calls) (fu : Nat)
mutual
def ex1 : S → Option (Cl × D) → Env → Store → Out
  | .pass, _, σ, μ => .nx σ μ
  | .ex e, cx, σ, μ => (ev cl cx e σ μ).out σ fun _ μ => .nx σ μ
  | .ret e, cx, σ, μ => (ev cl cx e σ μ).out σ fun d μ => .rt d μ
  | .asg i e, cx, σ, μ => (ev cl cx e σ μ).out σ fun d μ => .nx (σ.set i (some d)) μ
  | .unp is e, cx, σ, μ => (ev cl cx e σ μ).out σ fun d μ => match d with | .tup xs => (match setAll is xs σ with | some σ' => .nx σ' μ | none => .bad) | _ => .bad
  | .unpL is e, cx, σ, μ => (ev cl cx e σ μ).out σ fun d μ => match listOf μ d with | some xs => (match setAll is xs σ with | some σ' => .nx σ' μ | none => .bad) | none => .bad
  | .par i j a b, cx, σ, μ => (ev cl cx a σ μ).out σ fun x μ => (ev cl cx b σ μ).out σ fun y μ => .nx ((σ.set i (some x)).set j (some y)) μ
  | .setI a i e, cx, σ, μ => (ev cl cx e σ μ).out σ fun v μ => (ev cl cx a σ μ).out σ fun x μ => (ev cl cx i σ μ).out σ fun k μ => match setIx x k v μ with | some μ' => .nx σ μ' | none => .bad
  | .setF a f e, cx, σ, μ => (ev cl cx e σ μ).out σ fun v μ => (ev cl cx a σ μ).out σ fun x μ => match x with
      | .ptr p => (match μ[p]? with | some (.ins fs) => if fs.length < 1000 then .nx σ (μ.set p (.ins (putF f v fs))) else .bad | _ => .bad)
      | _ => .bad
  | .ifs c a b, cx, σ, μ => (ev cl cx c σ μ).out σ fun x μ => match x with | .bl true => exs a cx σ μ | .bl false => exs b cx σ μ | _ => .bad
  | .whl c b, cx, σ, μ => whlRun (fun σ μ => ev cl cx c σ μ) (fun σ μ => exs b cx σ μ) fu σ μ
  | .for_ i it b, cx, σ, μ => (evI cl cx it σ μ).out σ fun src μ => forRun src (fun d σ μ => exs b cx (σ.set i (some d)) μ) σ μ
  | .forT is it b, cx, σ, μ => (evI cl cx it σ μ).out σ fun src μ => forRun src (fun d σ μ => match d with | .tup xs => (match setAll is xs σ with | some σ' => exs b cx σ' μ | none => .bad) | _ => .bad) σ μ
  | .raise c e, cx, σ, μ => (ev cl cx e σ μ).out σ fun d μ => .xc c (match c with | .BadText => d | _ => .non) σ μ
  | .try_ c i b s, cx, σ, μ => match exs b cx σ μ with
      | .xc k d σ' μ' => if k.sub c then
          (match i with
          | some i => (match exs s (some (k, d)) (σ'.set i none) μ' with | .nx σ μ => .nx (σ.set i none) μ | .rt d μ => .rt d μ | _ => .bad)
          | none => (match exs s (some (k, d)) σ' μ' with | .nx σ μ => .nx σ μ | .rt d μ => .rt d μ | _ => .bad))
        else .xc k d σ' μ'
      | o => o
def exs : Ss → Option (Cl × D) → Env → Store → Out
  | .nil, _, σ, μ => .nx σ μ
  | .cons s ss, cx, σ, μ => (ex1 s cx σ μ).seq fun σ μ => exs ss cx σ μ
end
/-- a def: how many parameters, how many names, its body -/
structure Fn where
  np : Nat
  ns : Nat
  body : Ss
def Out.res (o : Out) : Res D := match o with | .nx _ μ => .ok .non μ | .rt d μ => .ok d μ | .xc c d _ μ => .exc c d μ | .bad => .bad
@[simp] theorem Out.res_nx (σ : Env) (μ : Store) : (Out.nx σ μ).res = .ok .non μ := rfl
@[simp] theorem Out.res_rt (d : D) (μ : Store) : (Out.rt d μ).res = .ok d μ := rfl
@[simp] theorem Out.res_xc (c : Cl) (d : D) (σ : Env) (μ : Store) : (Out.xc c d σ μ).res = .exc c d μ := rfl
@[simp] theorem Out.res_bad : Out.bad.res = .bad := rfl
def runFn (f : Fn) (ds : List D) (μ : Store) : Res D :=
  if ds.length = f.np then (exs cl fu f.body none (ds.map some ++ List.replicate (f.ns - f.np) none) μ).res else .bad
end
/-- the calls, k deep -/
def callK (Gam : F → Fn) (fu : Nat) : Nat → Calls
  | 0 => fun _ _ _ => .bad
  | k + 1 => fun f ds μ => runFn (callK Gam fu k) fu (Gam f) ds μ
end FH

set_option maxHeartbeats 1000000
/-! How the layer's values and abstract heap bear the interpreter's values and store. -/
namespace FH
open PySem PySem.Spec PyProof.Rows L2

/-- what a law's top has: where its defs and classes stand -/
structure Tb where
  hc : Cl → Bool
  fa : F → Addr
  fd : F → FuncData
  ps : F → List Str
  ca : Cl → Addr
  rc : Addr

/-- the error that is handled: its name's slot, where it stands, its own dict, what it carries -/
structure Xc where
  slot : Nat
  addr : Addr
  dict : Option Addr
  val : D
/-- the error that is handled; which lists are being made -/
abbrev Rm := Option Xc × List Addr
def TupAt (K : PySem.W.Frag) (α : List Addr) (H : Hp) (a : Addr) (vs : List V) : Prop :=
  (Rd H a (.tup vs) ∧ a ∉ α) ∨ ∃ (o : Obj) (its : Array Value) (n : Nat), K.lookup a = some o ∧ o.cls = .type "tuple" ∧ o.data = .seq its n ∧ its.size ≤ sizeLine ∧ Vals vs its.toList
def RolAt (K : PySem.W.Frag) (α : List Addr) (H : Hp) (a : Addr) (vs : List V) : Prop :=
  ((∃ o, H a = some (.frz o (.lst vs))) ∧ a ∉ α) ∨ ∃ (o : Obj) (its : Array Value) (n : Nat), K.lookup a = some o ∧ o.cls = .type "list" ∧ o.dict = none ∧ o.data = .seq its n ∧ its.size ≤ sizeLine ∧ Vals vs its.toList
theorem TupAt.sq {K : PySem.W.Frag} {α : List Addr} {H : Hp} {a : Addr} {vs : List V} (h : TupAt K α H a vs) : SqT K H a vs := by
  rcases h with ⟨h, _⟩ | h
  · exact .inl h
  · exact .inr h
theorem RolAt.sq {K : PySem.W.Frag} {α : List Addr} {H : Hp} {a : Addr} {vs : List V} (h : RolAt K α H a vs) : SqL K H a vs := by
  rcases h with ⟨⟨o, h⟩, _⟩ | h
  · exact .inl (.inr ⟨o, h⟩)
  · exact .inr h

section
variable (K : PySem.W.Frag) (ea : Rm) (α : List Addr) (H : Hp)
mutual
def RepV : D → V → Prop
  | .non, v => v = .non
  | .bl b, v => v = .bl b
  | .int i, v => v = .int i
  | .str s, v => v = .str ⟨s.toArray⟩
  | .tup xs, v => ∃ a vs, v = .ref a ∧ TupAt K α H a vs ∧ RepVs xs vs
  | .lst xs, v => ∃ a vs, v = .ref a ∧ H a = some (.lst vs) ∧ a ∉ α ∧ a ∉ ea.2 ∧ RepVs xs vs
  | .ptr p, v => ∃ a, α[p]? = some a ∧ v = .ref a
  | .rl xs, v => ∃ a vs, v = .ref a ∧ RolAt K α H a vs ∧ RepVs xs vs
  | .exn, _ => False
  | .clo _ _, _ => False
def RepVs : List D → List V → Prop
  | [], vs => vs = []
  | d :: ds, vs => ∃ v r, vs = v :: r ∧ RepV d v ∧ RepVs ds r
end
end
/-- the heap grows: what is tracked and is no thing of the store stays -/
structure Ext (α : List Addr) (H : Hp) (α' : List Addr) (H' : Hp) : Prop where
  pre : ∃ more, α' = α ++ more
  frame : ∀ a o, H a = some o → a ∉ α → H' a = some o ∧ a ∉ α'
theorem Ext.refl {α : List Addr} {H : Hp} : Ext α H α H := ⟨⟨[], by simp⟩, fun _ _ h n => ⟨h, n⟩⟩
theorem Ext.trans {α α1 α2 : List Addr} {H H1 H2 : Hp} (a : Ext α H α1 H1) (b : Ext α1 H1 α2 H2) : Ext α H α2 H2 := by
  refine ⟨?_, fun c o h n => ?_⟩
  · obtain ⟨m1, e1⟩ := a.pre
    obtain ⟨m2, e2⟩ := b.pre
    exact ⟨m1 ++ m2, by rw [e2, e1, List.append_assoc]⟩
  · obtain ⟨h1, n1⟩ := a.frame c o h n
    exact b.frame c o h1 n1
theorem Ext.get {α α' : List Addr} {H H' : Hp} (e : Ext α H α' H') {p : Nat} {a : Addr} (h : α[p]? = some a) : α'[p]? = some a := by
  obtain ⟨m, rfl⟩ := e.pre
  have hp : p < α.length := (List.getElem?_eq_some_iff.mp h).1
  rw [List.getElem?_append_left hp]; exact h
theorem Ext.tupAt {K : PySem.W.Frag} {α α' : List Addr} {H H' : Hp} (e : Ext α H α' H') {a : Addr} {vs : List V} (h : TupAt K α H a vs) : TupAt K α' H' a vs := by
  rcases h with ⟨h | ⟨o, h⟩, n⟩ | h
  · obtain ⟨h1, n1⟩ := e.frame _ _ h n; exact .inl ⟨.inl h1, n1⟩
  · obtain ⟨h1, n1⟩ := e.frame _ _ h n; exact .inl ⟨.inr ⟨o, h1⟩, n1⟩
  · exact .inr h
theorem Ext.rolAt {K : PySem.W.Frag} {α α' : List Addr} {H H' : Hp} (e : Ext α H α' H') {a : Addr} {vs : List V} (h : RolAt K α H a vs) : RolAt K α' H' a vs := by
  rcases h with ⟨⟨o, h⟩, n⟩ | h
  · obtain ⟨h1, n1⟩ := e.frame _ _ h n; exact .inl ⟨⟨o, h1⟩, n1⟩
  · exact .inr h
section
variable {K : PySem.W.Frag} {ea : Rm} {α α' : List Addr} {H H' : Hp}
mutual
theorem RepV.mono (e : Ext α H α' H') : ∀ (d : D) (v : V), RepV K ea α H d v → RepV K ea α' H' d v
  | .non, v, h => by simpa only [RepV] using h
  | .bl b, v, h => by simpa only [RepV] using h
  | .int i, v, h => by simpa only [RepV] using h
  | .str s, v, h => by simpa only [RepV] using h
  | .tup xs, v, h => by
    simp only [RepV] at h ⊢
    obtain ⟨a, vs, h1, h2, h3⟩ := h
    exact ⟨a, vs, h1, e.tupAt h2, RepVs.mono e xs vs h3⟩
  | .lst xs, v, h => by
    simp only [RepV] at h ⊢
    obtain ⟨a, vs, h1, h2, h3, h5, h4⟩ := h
    obtain ⟨g1, g2⟩ := e.frame _ _ h2 h3
    exact ⟨a, vs, h1, g1, g2, h5, RepVs.mono e xs vs h4⟩
  | .ptr p, v, h => by
    simp only [RepV] at h ⊢
    obtain ⟨a, h1, h2⟩ := h
    exact ⟨a, e.get h1, h2⟩
  | .rl xs, v, h => by
    simp only [RepV] at h ⊢
    obtain ⟨a, vs, h1, h2, h3⟩ := h
    exact ⟨a, vs, h1, e.rolAt h2, RepVs.mono e xs vs h3⟩
  | .exn, v, h => by simp only [RepV] at h
  | .clo _ _, v, h => by simp only [RepV] at h
theorem RepVs.mono (e : Ext α H α' H') : ∀ (ds : List D) (vs : List V), RepVs K ea α H ds vs → RepVs K ea α' H' ds vs
  | [], vs, h => by simpa only [RepVs] using h
  | d :: ds, vs, h => by
    simp only [RepVs] at h ⊢
    obtain ⟨v, r, h1, h2, h3⟩ := h
    exact ⟨v, r, h1, RepV.mono e d v h2, RepVs.mono e ds r h3⟩
end
theorem RepVs.len : ∀ {ds : List D} {vs : List V}, RepVs K ea α H ds vs → vs.length = ds.length
  | [], vs, h => by simp only [RepVs] at h; rw [h]; rfl
  | d :: ds, vs, h => by
    simp only [RepVs] at h
    obtain ⟨v, r, rfl, _, h3⟩ := h
    rw [List.length_cons, List.length_cons, RepVs.len h3]
theorem RepVs.get : ∀ {ds : List D} {vs : List V} {i : Nat} {d : D}, RepVs K ea α H ds vs → ds[i]? = some d → ∃ v, vs[i]? = some v ∧ RepV K ea α H d v
  | [], vs, i, d, h, e => by simp at e
  | a :: ds, vs, 0, d, h, e => by
    simp only [RepVs] at h
    obtain ⟨v, r, rfl, h2, _⟩ := h
    simp at e; subst e
    exact ⟨v, rfl, h2⟩
  | a :: ds, vs, i + 1, d, h, e => by
    simp only [RepVs] at h
    obtain ⟨v, r, rfl, _, h3⟩ := h
    obtain ⟨w, e1, e2⟩ := RepVs.get (i := i) h3 (by simpa using e)
    exact ⟨w, by simpa using e1, e2⟩
theorem RepVs.append : ∀ {ds es : List D} {vs ws : List V}, RepVs K ea α H ds vs → RepVs K ea α H es ws → RepVs K ea α H (ds ++ es) (vs ++ ws)
  | [], es, vs, ws, h, h' => by simp only [RepVs] at h; subst h; exact h'
  | d :: ds, es, vs, ws, h, h' => by
    simp only [RepVs] at h
    obtain ⟨v, r, rfl, h2, h3⟩ := h
    simp only [List.cons_append, RepVs]
    exact ⟨v, r ++ ws, rfl, h2, RepVs.append h3 h'⟩
theorem RepVs.one {d : D} {v : V} (h : RepV K ea α H d v) : RepVs K ea α H [d] [v] := by simp only [RepVs]; exact ⟨v, [], rfl, h, rfl⟩
theorem RepVs.take : ∀ {ds : List D} {vs : List V} (n : Nat), RepVs K ea α H ds vs → RepVs K ea α H (ds.take n) (vs.take n)
  | ds, vs, 0, h => by simp only [List.take_zero, RepVs]
  | [], vs, n + 1, h => by simp only [RepVs] at h; subst h; simp only [List.take_nil, RepVs]
  | d :: ds, vs, n + 1, h => by
    simp only [RepVs] at h
    obtain ⟨v, r, rfl, h2, h3⟩ := h
    simp only [List.take_succ_cons, RepVs]
    exact ⟨v, r.take n, rfl, h2, RepVs.take n h3⟩
theorem RepVs.drop : ∀ {ds : List D} {vs : List V} (n : Nat), RepVs K ea α H ds vs → RepVs K ea α H (ds.drop n) (vs.drop n)
  | ds, vs, 0, h => by simpa only [List.drop_zero] using h
  | [], vs, n + 1, h => by simp only [RepVs] at h; subst h; simp only [List.drop_nil, RepVs]
  | d :: ds, vs, n + 1, h => by
    simp only [RepVs] at h
    obtain ⟨v, r, rfl, h2, h3⟩ := h
    simp only [List.drop_succ_cons]
    exact RepVs.drop n h3
theorem RepVs.set {d : D} {v : V} (hv : RepV K ea α H d v) : ∀ {ds : List D} {vs : List V} (i : Nat), RepVs K ea α H ds vs → RepVs K ea α H (ds.set i d) (vs.set i v)
  | [], vs, i, h => by simp only [RepVs] at h; subst h; simp only [List.set_nil, RepVs]
  | a :: ds, vs, 0, h => by
    simp only [RepVs] at h
    obtain ⟨w, r, rfl, _, h3⟩ := h
    simp only [List.set_cons_zero, RepVs]
    exact ⟨v, r, rfl, hv, h3⟩
  | a :: ds, vs, i + 1, h => by
    simp only [RepVs] at h
    obtain ⟨w, r, rfl, h2, h3⟩ := h
    simp only [List.set_cons_succ, RepVs]
    exact ⟨w, r.set i v, rfl, h2, RepVs.set hv i h3⟩
theorem RepVs.eraseIdx : ∀ {ds : List D} {vs : List V} (i : Nat), RepVs K ea α H ds vs → RepVs K ea α H (ds.eraseIdx i) (vs.eraseIdx i)
  | [], vs, i, h => by simp only [RepVs] at h; subst h; simp only [List.eraseIdx_nil, RepVs]
  | a :: ds, vs, 0, h => by
    simp only [RepVs] at h
    obtain ⟨w, r, rfl, _, h3⟩ := h
    simpa only [List.eraseIdx_cons_zero] using h3
  | a :: ds, vs, i + 1, h => by
    simp only [RepVs] at h
    obtain ⟨w, r, rfl, h2, h3⟩ := h
    simp only [List.eraseIdx_cons_succ, RepVs]
    exact ⟨w, r.eraseIdx i, rfl, h2, RepVs.eraseIdx i h3⟩
theorem RepVs.reverse : ∀ {ds : List D} {vs : List V}, RepVs K ea α H ds vs → RepVs K ea α H ds.reverse vs.reverse
  | [], vs, h => by simp only [RepVs] at h; subst h; simp only [List.reverse_nil, RepVs]
  | a :: ds, vs, h => by
    simp only [RepVs] at h
    obtain ⟨w, r, rfl, h2, h3⟩ := h
    rw [List.reverse_cons, List.reverse_cons]
    exact (RepVs.reverse h3).append (RepVs.one h2)
theorem RepVs.dropLast : ∀ {ds : List D} {vs : List V}, RepVs K ea α H ds vs → RepVs K ea α H ds.dropLast vs.dropLast := fun {ds vs} h => by
  rw [List.dropLast_eq_take, List.dropLast_eq_take, h.len]
  exact h.take _
end
/-- the dict at a, by its entries: key, where its tuple stands, value -/
def DicH (P : Program) (w : World) (a : Addr) (xs : List (NestedKey × Addr × Value)) : HO :=
  .ext fun h => ∃ o es ep, h.get? a = some o ∧ o.ExactDict ∧ o.data = .dict es ep ∧ es.toList = xs.map (entryOfKey (nestedKind P w)) ∧ (xs.map (·.1)).Nodup ∧ (a == sysModules) = false ∧ xs.length ≤ sizeLine
def fname : Fld → Str
  | .lines => "lines"
  | .at_ => "at"
  | .scene => "scene"
  | .doings => "doings"
  | .met => "met"
  | .outcome => "outcome"
  | .around => "around"
section
variable (P : Program) (w : World) (K : PySem.W.Frag) (ea : Rm) (rc : Addr) (α : List Addr) (H : Hp)
def RepFs : List (Fld × D) → List (Str × V) → Prop
  | [], fs => fs = []
  | (f, d) :: r, fs => ∃ v q, fs = (fname f, v) :: q ∧ RepV K ea α H d v ∧ RepFs r q
def RepKv : List (D × D) → List (NestedKey × Addr × Value) → Prop
  | [], xs => xs = []
  | (k, d) :: r, xs => ∃ n b u v q, xs = (n, b, u) :: q ∧ keyD k = some n ∧ RepV K ea α H k (.ref b) ∧ RelV v u ∧ RepV K ea α H d v ∧ RepKv r q
def RepO (a : Addr) : O → Prop
  | .lst ds => ∃ vs, H a = some (.lst vs) ∧ RepVs K ea α H ds vs
  | .dic kvs => ∃ xs, H a = some (DicH P w a xs) ∧ (xs.map (·.1)).Nodup ∧ RepKv K ea α H kvs xs
  | .ins fs => ∃ dx gs, H a = some (.ins rc dx gs) ∧ RepFs K ea α H fs gs
structure RepS (μ : Store) : Prop where
  len : α.length = μ.length
  nd : α.Nodup
  at_ : ∀ (p : Nat) (a : Addr) (o : O), α[p]? = some a → μ[p]? = some o → RepO P w K ea rc α H a o
  xi : ∀ a ∈ ea.2, (∃ u, H a = some u) ∧ a ∉ α
end
section
variable {P : Program} {w : World} {K : PySem.W.Frag} {ea : Rm} {rc : Addr} {α α' : List Addr} {H H' : Hp} {μ : Store}
theorem RepFs.mono (e : Ext α H α' H') : ∀ {fs : List (Fld × D)} {gs : List (Str × V)}, RepFs K ea α H fs gs → RepFs K ea α' H' fs gs
  | [], gs, h => h
  | (f, d) :: r, gs, h => by
    obtain ⟨v, q, h1, h2, h3⟩ := h
    exact ⟨v, q, h1, RepV.mono e d v h2, RepFs.mono e h3⟩
theorem RepKv.mono (e : Ext α H α' H') : ∀ {kvs : List (D × D)} {xs : List (NestedKey × Addr × Value)}, RepKv K ea α H kvs xs → RepKv K ea α' H' kvs xs
  | [], xs, h => h
  | (k, d) :: r, xs, h => by
    obtain ⟨n, b, u, v, q, h1, h2, h3, h4, h5, h6⟩ := h
    exact ⟨n, b, u, v, q, h1, h2, RepV.mono e k _ h3, h4, RepV.mono e d v h5, RepKv.mono e h6⟩
theorem RepO.some_ {a : Addr} {o : O} (h : RepO P w K ea rc α H a o) : ∃ u, H a = some u := by
  cases o with
  | lst ds => obtain ⟨vs, h, _⟩ := h; exact ⟨_, h⟩
  | dic kvs => obtain ⟨xs, h, _⟩ := h; exact ⟨_, h⟩
  | ins fs => obtain ⟨dx, gs, h, _⟩ := h; exact ⟨_, h⟩
/-- the thing stays, the values grow -/
theorem RepO.mono {a : Addr} {o : O} (e : Ext α H α' H') (h : RepO P w K ea rc α H a o) (ha : H' a = H a) : RepO P w K ea rc α' H' a o := by
  cases o with
  | lst ds => obtain ⟨vs, h, r⟩ := h; exact ⟨vs, ha.trans h, RepVs.mono e _ _ r⟩
  | dic kvs => obtain ⟨xs, h, nn, r⟩ := h; exact ⟨xs, ha.trans h, nn, r.mono e⟩
  | ins fs => obtain ⟨dx, gs, h, r⟩ := h; exact ⟨dx, gs, ha.trans h, r.mono e⟩
theorem RepS.look (S : RepS P w K ea rc α H μ) {p : Nat} {a : Addr} (h : α[p]? = some a) : ∃ o, μ[p]? = some o ∧ RepO P w K ea rc α H a o := by
  have hp : p < μ.length := by rw [← S.len]; exact (List.getElem?_eq_some_iff.mp h).1
  exact ⟨μ[p], List.getElem?_eq_getElem hp, S.at_ p a _ h (List.getElem?_eq_getElem hp)⟩
theorem RepS.addr (S : RepS P w K ea rc α H μ) {p : Nat} {o : O} (h : μ[p]? = some o) : ∃ a, α[p]? = some a ∧ RepO P w K ea rc α H a o := by
  have hp : p < α.length := by rw [S.len]; exact (List.getElem?_eq_some_iff.mp h).1
  exact ⟨α[p], List.getElem?_eq_getElem hp, S.at_ p _ o (List.getElem?_eq_getElem hp) h⟩
theorem RepS.tracked (S : RepS P w K ea rc α H μ) {a : Addr} (h : a ∈ α) : ∃ u, H a = some u := by
  obtain ⟨p, hp, e⟩ := List.getElem_of_mem h
  obtain ⟨o, _, r⟩ := S.look (p := p) (a := a) (by rw [List.getElem?_eq_getElem hp, e])
  exact r.some_
theorem RepS.fresh (S : RepS P w K ea rc α H μ) {a : Addr} (h : H a = none) : a ∉ α := fun hm => by
  obtain ⟨u, e⟩ := S.tracked hm
  rw [h] at e; cases e
/-- a new thing that is no thing of the store -/
theorem Ext.new (S : RepS P w K ea rc α H μ) {p : Addr} {o : HO} (h : H p = none) : Ext α H α (upd H p o) :=
  ⟨⟨[], by simp⟩, fun a u e n => ⟨by rw [upd_ne (ne_of_none e h)]; exact e, n⟩⟩
theorem RepS.freshX (S : RepS P w K ea rc α H μ) {a : Addr} (h : H a = none) : a ∉ ea.2 := fun hm => by
  obtain ⟨⟨u, e⟩, _⟩ := S.xi a hm
  rw [h] at e; cases e
theorem RepS.xiE (S : RepS P w K ea rc α H μ) (e : Ext α H α' H') : ∀ a ∈ ea.2, (∃ u, H' a = some u) ∧ a ∉ α' := fun a hm => by
  obtain ⟨⟨u, h⟩, n⟩ := S.xi a hm
  obtain ⟨h1, n1⟩ := e.frame a u h n
  exact ⟨⟨u, h1⟩, n1⟩
theorem RepS.new (S : RepS P w K ea rc α H μ) {p : Addr} {o : HO} (h : H p = none) : RepS P w K ea rc α (upd H p o) μ := by
  refine ⟨S.len, S.nd, fun q a ob h1 h2 => ?_, S.xiE (Ext.new S h)⟩
  have r := S.at_ q a ob h1 h2
  obtain ⟨u, e⟩ := r.some_
  exact r.mono (Ext.new S h) (upd_ne (ne_of_none e h))
/-- a thing of the store written over -/
theorem Ext.write {p : Nat} {a : Addr} {o : HO} (h : α[p]? = some a) : Ext α H α (upd H a o) :=
  ⟨⟨[], by simp⟩, fun b u e n => ⟨by
    rw [upd_ne]
    · exact e
    · rintro rfl; exact n (List.mem_of_getElem? h), n⟩⟩
theorem nodup_get {α : List Addr} (nd : α.Nodup) {p q : Nat} {a : Addr} (h : α[p]? = some a) (h' : α[q]? = some a) : p = q := by
  obtain ⟨hp, e⟩ := List.getElem?_eq_some_iff.mp h
  obtain ⟨hq, e'⟩ := List.getElem?_eq_some_iff.mp h'
  exact (List.getElem_inj nd).mp (e.trans e'.symm)
theorem RepS.write (S : RepS P w K ea rc α H μ) {p : Nat} {a : Addr} {ob : O} {o : HO} (h : α[p]? = some a) (new : RepO P w K ea rc α (upd H a o) a ob) : RepS P w K ea rc α (upd H a o) (μ.set p ob) := by
  refine ⟨by rw [List.length_set]; exact S.len, S.nd, fun q b ob' h1 h2 => ?_, S.xiE (Ext.write h)⟩
  by_cases e : q = p
  · subst e
    rw [h] at h1; cases h1
    have hq : q < μ.length := by rw [← S.len]; exact (List.getElem?_eq_some_iff.mp h).1
    rw [List.getElem?_set_self hq] at h2; cases h2
    exact new
  · rw [List.getElem?_set_ne (Ne.symm e)] at h2
    have r := S.at_ q b ob' h1 h2
    refine r.mono (Ext.write h) (upd_ne ?_)
    rintro rfl
    exact e (nodup_get S.nd h1 h)
/-- a new thing of the store -/
theorem Ext.alloc (S : RepS P w K ea rc α H μ) {a : Addr} {o : HO} (h : H a = none) : Ext α H (α ++ [a]) (upd H a o) := by
  refine ⟨⟨[a], rfl⟩, fun b u e n => ⟨by rw [upd_ne (ne_of_none e h)]; exact e, fun hm => ?_⟩⟩
  rcases List.mem_append.mp hm with hm | hm
  · exact n hm
  · rw [List.mem_singleton.mp hm, h] at e; cases e
theorem RepS.alloc (S : RepS P w K ea rc α H μ) {a : Addr} {ob : O} {o : HO} (h : H a = none) (new : RepO P w K ea rc (α ++ [a]) (upd H a o) a ob) : RepS P w K ea rc (α ++ [a]) (upd H a o) (μ ++ [ob]) := by
  have ha : a ∉ α := S.fresh h
  refine ⟨by simp [S.len], List.nodup_append.mpr ⟨S.nd, by simp, fun x hx y hy => by rintro rfl; rw [List.mem_singleton.mp hy] at hx; exact ha hx⟩, fun q b ob' h1 h2 => ?_, S.xiE (Ext.alloc S h)⟩
  by_cases e : q < α.length
  · rw [List.getElem?_append_left e] at h1
    rw [List.getElem?_append_left (by rw [← S.len]; exact e)] at h2
    have r := S.at_ q b ob' h1 h2
    obtain ⟨u, e'⟩ := r.some_
    exact r.mono (Ext.alloc S h) (upd_ne (ne_of_none e' h))
  · rw [List.getElem?_append_right (by omega)] at h1
    rw [List.getElem?_append_right (by rw [← S.len]; omega), ← S.len] at h2
    have e0 : q - α.length = 0 := by
      have := (List.getElem?_eq_some_iff.mp h1).1
      simp at this; omega
    rw [e0] at h1 h2
    simp at h1 h2
    subst h1; subst h2
    exact new
end
/-- the error that is handled lies as told -/
def XOk (K : PySem.W.Frag) (ea : Rm) (α : List Addr) (H : Hp) (σ : Env) (τ : L2.St) : Prop :=
  match ea.1 with
  | none => True
  | some x => σ[x.slot]? = some none ∧ τ[x.slot]? = some (some (.ref x.addr)) ∧ match x.dict with
    | none => True
    | some b => ∃ v, H b = some (.xd [(("place" : Str), v)]) ∧ b ∉ α ∧ RepV K ea α H x.val v
theorem XOk.none_ {K : PySem.W.Frag} {ξ : List Addr} {α : List Addr} {H : Hp} {σ : Env} {τ : L2.St} : XOk K (none, ξ) α H σ τ := True.intro
/-- no slot of the error that is handled -/
def Rm.off (ea : Rm) (i : Nat) : Prop := ∀ x, ea.1 = some x → x.slot ≠ i
theorem Rm.off_none {ξ : List Addr} {i : Nat} : Rm.off (none, ξ) i := fun _ h => nomatch h
/-- the names' values -/
structure RepE (K : PySem.W.Frag) (ea : Rm) (α : List Addr) (H : Hp) (σ : Env) (τ : L2.St) : Prop where
  len : σ.length = τ.length
  at_ : ∀ (i : Nat) (d : D), σ[i]? = some (some d) → ∃ v, τ[i]? = some (some v) ∧ RepV K ea α H d v
  xo : XOk K ea α H σ τ
theorem XOk.mono {K : PySem.W.Frag} {ea : Rm} {α α' : List Addr} {H H' : Hp} (e : Ext α H α' H') {σ : Env} {τ : L2.St} (h : XOk K ea α H σ τ) : XOk K ea α' H' σ τ := by
  unfold XOk at h ⊢
  split at h
  · trivial
  · rename_i x q
    refine ⟨h.1, h.2.1, ?_⟩
    have h3 := h.2.2
    split at h3
    · first | trivial | (rename_i hq; rw [hq]; trivial)
    · obtain ⟨v, h4, h5, h6⟩ := h3
      obtain ⟨h7, h8⟩ := e.frame _ _ h4 h5
      exact ⟨v, h7, h8, RepV.mono e _ _ h6⟩
theorem XOk.set {K : PySem.W.Frag} {ea : Rm} {α : List Addr} {H : Hp} {σ : Env} {τ : L2.St} {i : Nat} {d : Option D} {v : Option V} (hi : ea.off i) (h : XOk K ea α H σ τ) : XOk K ea α H (σ.set i d) (τ.set i v) := by
  unfold XOk at h ⊢
  split at h
  · trivial
  · rename_i x q
    have hx := hi x q
    refine ⟨by rw [List.getElem?_set_ne (Ne.symm hx)]; exact h.1, by rw [List.getElem?_set_ne (Ne.symm hx)]; exact h.2.1, h.2.2⟩
theorem RepE.mono {K : PySem.W.Frag} {ea : Rm} {α α' : List Addr} {H H' : Hp} (e : Ext α H α' H') {σ : Env} {τ : L2.St} (h : RepE K ea α H σ τ) : RepE K ea α' H' σ τ :=
  ⟨h.len, fun i d q => by
    obtain ⟨v, h1, h2⟩ := h.at_ i d q
    exact ⟨v, h1, RepV.mono e d v h2⟩, h.xo.mono e⟩
theorem RepE.set {K : PySem.W.Frag} {ea : Rm} {α : List Addr} {H : Hp} {σ : Env} {τ : L2.St} (h : RepE K ea α H σ τ) {i : Nat} {d : D} {v : V} (hi : ea.off i) (r : RepV K ea α H d v) : RepE K ea α H (σ.set i (some d)) (τ.set i (some v)) := by
  refine ⟨by rw [List.length_set, List.length_set]; exact h.len, fun j c q => ?_, h.xo.set hi⟩
  by_cases e : j = i
  · subst e
    have hj : j < σ.length := by
      have := (List.getElem?_eq_some_iff.mp q).1
      rwa [List.length_set] at this
    rw [List.getElem?_set_self hj] at q
    simp at q; subst q
    exact ⟨v, List.getElem?_set_self (h.len ▸ hj), r⟩
  · rw [List.getElem?_set_ne (Ne.symm e)] at q ⊢
    exact h.at_ j c q
end FH

set_option maxHeartbeats 1000000
/-! The readings of the interpreter's expressions, and the look that a text of the row is such an expression. -/
namespace FH
open PySem PySem.Spec PyProof.Rows L2

/-- where a body runs: the law's tables, the defs, the fuel, how deep, the error that is handled, the wish about errors -/
structure Gx where
  T : Tb
  Gam : F → Fn
  fu : Nat
  k : Nat
  cx : Option (Cl × D)
  ea : Rm
  W : WX
abbrev Gx.cl (g : Gx) : Calls := callK g.Gam g.fu g.k
section
variable (P : Program) (w : World) (K : PySem.W.Frag) (g : Gx)
abbrev Rs (α : List Addr) (H : Hp) (μ : Store) : Prop := RepS P w K g.ea g.T.rc α H μ
abbrev Rv (α : List Addr) (H : Hp) (d : D) (v : V) : Prop := RepV K g.ea α H d v
abbrev Rvs (α : List Addr) (H : Hp) (d : List D) (v : List V) : Prop := RepVs K g.ea α H d v
/-- an error of the class c with what it carries, as the layer has it -/
def RepX (T : Tb) (ea : Rm) (α : List Addr) (H : Hp) (c : Cl) (d : D) (cv : Value) (dd : Option Addr) : Prop :=
  T.hc c = true ∧ cv = .ref (T.ca c) ∧ match c with
    | .BadText => ∃ b v, dd = some b ∧ H b = some (.xd [(("place" : Str), v)]) ∧ b ∉ α ∧ RepV K ea α H d v
    | _ => dd = none
/-- what is wanted behind r -/
def Pst {A B : Type} (ρ : List Addr → Hp → A → B → Prop) (τ : L2.St) (α : List Addr) (H : Hp) (r : Res A) (Q : B → Hp → Prop) : Prop :=
  match r with
  | .ok a μ' => ∀ α' H' b, Ext α H α' H' → Rs P w K g α' H' μ' → ρ α' H' a b → Q b H'
  | .exc c d μ' => ∀ α' H' cv dd, Ext α H α' H' → Rs P w K g α' H' μ' → RepX K g.T g.ea α' H' c d cv dd → g.W cv dd τ H'
  | .bad => False
def rdE (e : E) : TE := fun τ H Q => ∃ α μ σ, Rs P w K g α H μ ∧ RepE K g.ea α H σ τ ∧ Pst P w K g (Rv K g) τ α H (ev g.cl g.cx e σ μ) Q
def rdA (es : Es) : TA := fun τ H Q => ∃ α μ σ, Rs P w K g α H μ ∧ RepE K g.ea α H σ τ ∧ Pst P w K g (Rvs K g) τ α H (evs g.cl g.cx es σ μ) Q
def rdT (e : E) : TT := fun τ H Q => rdE P w K g e τ H fun v H' => ∃ b, v = .bl b ∧ Q b H'
end
section
variable {P : Program} {w : World} {K : PySem.W.Frag} {g : Gx}
theorem Pst.bind {A A' B B' : Type} {ρ : List Addr → Hp → A → B → Prop} {ρ' : List Addr → Hp → A' → B' → Prop} {τ : L2.St} {α : List Addr} {H : Hp} {r : Res A} {f : A → Store → Res A'} {Q : B' → Hp → Prop}
    (h : Pst P w K g ρ' τ α H (r.bind f) Q) : Pst P w K g ρ τ α H r fun b H1 => ∃ α1 μ1 a, Ext α H α1 H1 ∧ Rs P w K g α1 H1 μ1 ∧ ρ α1 H1 a b ∧ Pst P w K g ρ' τ α1 H1 (f a μ1) Q := by
  cases r with
  | ok a μ =>
    intro α1 H1 b e1 s1 r1
    refine ⟨α1, μ, a, e1, s1, r1, ?_⟩
    have h' : Pst P w K g ρ' τ α H (f a μ) Q := h
    revert h'
    cases f a μ with
    | ok c μ2 => exact fun h α2 H2 b2 e2 s2 r2 => h α2 H2 b2 (e1.trans e2) s2 r2
    | exc c d μ2 => exact fun h α2 H2 cv dd e2 s2 r2 => h α2 H2 cv dd (e1.trans e2) s2 r2
    | bad => exact fun h => h
  | exc c d μ => exact h
  | bad => exact h
theorem Pst.imp {A B : Type} {ρ : List Addr → Hp → A → B → Prop} {τ : L2.St} {α : List Addr} {H : Hp} {r : Res A} {Q Q' : B → Hp → Prop} (h : Pst P w K g ρ τ α H r Q) (hq : ∀ b H', Q b H' → Q' b H') : Pst P w K g ρ τ α H r Q' := by
  cases r with
  | ok a μ => exact fun α1 H1 b e1 s1 r1 => hq _ _ (h α1 H1 b e1 s1 r1)
  | exc c d μ => exact h
  | bad => exact h
theorem Pst.here {A B : Type} {ρ : List Addr → Hp → A → B → Prop} {τ : L2.St} {α : List Addr} {H : Hp} {a : A} {μ : Store} {Q : B → Hp → Prop} (h : Pst P w K g ρ τ α H (.ok a μ) Q) (s : Rs P w K g α H μ) {b : B} (r : ρ α H a b) : Q b H := h α H b Ext.refl s r
theorem Pst.of {A B : Type} {ρ : List Addr → Hp → A → B → Prop} {τ : L2.St} {α : List Addr} {H : Hp} {o : Option A} {μ : Store} {Q : B → Hp → Prop} (h : Pst P w K g ρ τ α H (Res.of o μ) Q) : ∃ a, o = some a ∧ Pst P w K g ρ τ α H (.ok a μ) Q := by
  cases o with
  | none => exact h.elim
  | some a => exact ⟨a, rfl, h⟩
end

theorem PE.imp {X : Cx} {e : Expr} {t t' : TE} (h : PE X e t) (i : ∀ σ H Q, t' σ H Q → t σ H Q) : PE X e t' := ⟨fun pins s σ H Q I q => h.run pins s σ H Q I (i σ H Q q)⟩
theorem PT.imp {X : Cx} {e : Expr} {t t' : TT} (h : PT X e t) (i : ∀ σ H Q, t' σ H Q → t σ H Q) : PT X e t' := ⟨fun pins s σ H Q I q => h.run pins s σ H Q I (i σ H Q q)⟩
theorem PA.imp {X : Cx} {es : List Expr} {t t' : TA} (h : PA X es t) (i : ∀ σ H Q, t' σ H Q → t σ H Q) : PA X es t' := ⟨fun pos pins s σ H Q I q => h.run pos pins s σ H Q I (i σ H Q q)⟩
theorem PS.imp {X : Cx} {st : Stmt} {t t' : TS} (h : PS X st t) (i : ∀ D σ H, t' D σ H → t D σ H) : PS X st t' := ⟨fun pins s σ H D I q => h.run pins s σ H D I (i D σ H q)⟩
theorem PSs.imp {X : Cx} {st : List Stmt} {t t' : TS} (h : PSs X st t) (i : ∀ D σ H, t' D σ H → t D σ H) : PSs X st t' := ⟨fun pins s σ H D I q => h.run pins s σ H D I (i D σ H q)⟩
theorem PI.imp {X : Cx} {tg e : Expr} {t t' : TI} (h : PI X tg e t) (i : ∀ σ H R, t' σ H R → t σ H R) : PI X tg e t' := ⟨fun pins s σ H R I q => h.run pins s σ H R I (i σ H R q)⟩
theorem PI.or {X : Cx} {tg e : Expr} {t t' : TI} (h : PI X tg e t) (h' : PI X tg e t') : PI X tg e (fun σ H R => t σ H R ∨ t' σ H R) := ⟨fun pins s σ H R I q => q.elim (fun q => h.run pins s σ H R I q) fun q => h'.run pins s σ H R I q⟩

/-! ### names of the text -/
def gname : Gc → Str
  | .DOINGS => "DOINGS" | .ASKS => "ASKS" | .MOST_STEPS => "MOST_STEPS" | .MOST_WITHIN => "MOST_WITHIN" | .WALL => "WALL" | .STONE => "STONE" | .FREE => "FREE" | .SIGNS => "SIGNS" | .MOST_SIDE => "MOST_SIDE"
  | .MOST_HELD => "MOST_HELD" | .STEPS => "STEPS" | .MOST_DOINGS => "MOST_DOINGS" | .MOST_CELLS => "MOST_CELLS" | .FEW_CELLS => "FEW_CELLS" | .WISHES => "WISHES" | .MOST_LONG => "MOST_LONG"
def cname : Cl → Str
  | .HandError => "HandError" | .BadField => "BadField" | .BadProgram => "BadProgram" | .BadSize => "BadSize" | .BadWish => "BadWish" | .BadNumber => "BadNumber" | .BadText => "BadText" | .ValueError => "ValueError"
def tname : Ty → Str
  | .tuple => "tuple" | .list => "list" | .bool => "bool" | .str => "str" | .int => "int"
def visB (sc : Scope) (x : Str) : Bool := match sc.names.lookup x with | some .local => true | some .cell => true | some .free => true | _ => false
theorem visB_ok {sc : Scope} {x : Str} (h : visB sc x = true) : Vis sc x := by
  unfold visB at h
  split at h
  · rename_i e; exact .inl e
  · rename_i e; exact .inr (.inl e)
  · rename_i e; exact .inr (.inr e)
  · cases h
def gloB (sc : Scope) (x : Str) : Bool := match sc.names.lookup x with | some .globalImplicit => true | _ => false
theorem gloB_ok {sc : Scope} {x : Str} (h : gloB sc x = true) : sc.names.lookup x = some .globalImplicit := by
  unfold gloB at h
  split at h
  · assumption
  · cases h
def constB : D → Const → Bool
  | .non, .none => true
  | .bl b, .bool c => b == c
  | .int i, .int j => decide (i = j)
  | .str s, .str x => decide ((⟨s.toArray⟩ : Str) = x)
  | _, _ => false
/-- no star, no set, no slice: what an argument, an index, a source may be -/
def plainE : Expr → Bool
  | .Starred _ _ => false
  | .Slice _ _ _ _ => false
  | .Set _ _ _ => false
  | .Call (.Name _ _) [] [] _ => false
  | _ => true
theorem star_of {e : Expr} (h : plainE e = true) (es : List Expr) (env : PySem.Env) : starEach (e :: es) env = (false, eval e env) :: starEach es env := by
  cases e <;> first | rfl | (exact absurd h (by simp [plainE]))
theorem plain_ix {e : Expr} (h : plainE e = true) : PlainIx e := by
  intro o i
  cases e <;> first | rfl | (exact absurd h (by simp [plainE]))
theorem plain_base {e : Expr} (h : plainE e = true) (f : Str) (env : PySem.Env) : attributeBase e f env (eval e env) = eval e env := by
  cases e with
  | Call fn args kws pos =>
    cases fn <;> first
      | rfl
      | (cases args <;> first
          | (cases kws <;> first | rfl | (exact absurd h (by simp [plainE])))
          | rfl)
  | _ => rfl
theorem plain_marks {e : Expr} (h : plainE e = true) (op : CmpOp) : behindInMarks op e = false := by
  cases e <;> first | rfl | (exact absurd h (by simp [plainE]))
theorem plain_set {e : Expr} (h : plainE e = true) (env : PySem.Env) (x : Value) : foldedSetIterable e env x = pure x := by
  cases e <;> first | rfl | (exact absurd h (by simp [plainE]))
end FH

set_option maxHeartbeats 1000000
/-! The rules of the expressions, one a form. -/
namespace FH
open PySem PySem.Spec PyProof.Rows L2
section
variable {X : Cx} {g : Gx} {pos : Pos} {a b c : Expr} {ea eb ec : E}
/-- the end of an expression whose value is reckoned from values -/
theorem fin_of {τ : L2.St} {α : List Addr} {H : Hp} {μ : Store} {d : D} {v : V} {Q : VK} {o : Option D} (h : Pst X.prog X.w X.K g (Rv X.K g) τ α H (Res.of o μ) Q) (s : Rs X.prog X.w X.K g α H μ) (e : o = some d) (r : Rv X.K g α H d v) : Q v H := by
  subst e
  exact Pst.here h s r
theorem snd_var {i : Nat} {x : Str} (hN : X.N[i]? = some x) (hv : Vis X.env.scope x) (hd : (x == ("__debug__" : Str)) = false) (hcd : (x == ("__classdict__" : Str)) = false) : PE X (.Name x pos) (rdE X.prog X.w X.K g (.var i)) := by
  refine PE.imp (pe_var hN hv hd hcd) fun τ H Q h => ?_
  obtain ⟨α, μ, σ, s, r, h⟩ := h
  simp only [ev] at h
  obtain ⟨d, e, h⟩ := Pst.of h
  have e' : σ[i]? = some (some d) := by
    cases q : σ[i]? with
    | none => rw [q] at e; cases e
    | some o => rw [q] at e; simp at e; rw [e]
  obtain ⟨v, h1, h2⟩ := r.at_ i d e'
  exact ⟨v, h1, Pst.here h s h2⟩
theorem snd_con {d : D} {k : Const} {j : Nat} (h : constB d k = true) : PE X (.Constant k j pos) (rdE X.prog X.w X.K g (.con d)) := by
  have fin : ∀ (v : V), (∀ α H, Rv X.K g α H d v) → ∀ τ H Q, rdE X.prog X.w X.K g (.con d) τ H Q → Q v H := fun v hv τ H Q h => by
    obtain ⟨α, μ, σ, s, r, h⟩ := h
    simp only [ev] at h
    exact Pst.here h s (hv α H)
  cases d <;> cases k <;> try (exact (Bool.false_ne_true h).elim)
  · exact PE.imp pe_non (fin .non fun α H => by simp only [RepV])
  · rename_i b c
    have e : b = c := by simpa [constB] using h
    subst e
    exact PE.imp pe_bl (fin (.bl b) fun α H => by simp only [RepV])
  · rename_i b c
    have e : b = c := by simpa [constB] using h
    subst e
    exact PE.imp pe_int (fin (.int b) fun α H => by simp only [RepV])
  · rename_i b c
    have e : (⟨b.toArray⟩ : Str) = c := by simpa [constB] using h
    subst e
    exact PE.imp pe_str (fin (.str ⟨b.toArray⟩) fun α H => by simp only [RepV])
theorem snd_glo {G : Gc} {x : Str} {u : Value} {v : V} (hx : x = gname G) (hg : Gl X x) (hm : X.mg (gname G) = some u) (rv : RelV v u) (rep : ∀ ea α H, RepV X.K ea α H (gval G) v) (hd : (x == ("__debug__" : Str)) = false) : PE X (.Name x pos) (rdE X.prog X.w X.K g (.glo G)) := by
  subst hx
  refine PE.imp (pe_glob hg hm rv hd) fun τ H Q h => ?_
  obtain ⟨α, μ, σ, s, r, h⟩ := h
  simp only [ev] at h
  exact Pst.here h s (rep _ _ _)
theorem snd_nil : PA X [] (rdA X.prog X.w X.K g .nil) := by
  refine PA.imp pa_nil fun τ H Q h => ?_
  obtain ⟨α, μ, σ, s, r, h⟩ := h
  simp only [evs] at h
  exact Pst.here h s (by simp only [RepVs])
/-- the first of two -/
theorem rd1 {τ : L2.St} {H : Hp} {α : List Addr} {μ : Store} {σ : Env} {A B : Type} {ρ : List Addr → Hp → A → B → Prop} {f : D → Store → Res A} {Q : B → Hp → Prop} (s : Rs X.prog X.w X.K g α H μ) (r : RepE X.K g.ea α H σ τ)
    (h : Pst X.prog X.w X.K g ρ τ α H ((ev g.cl g.cx ea σ μ).bind f) Q) {Q' : VK} (k : ∀ α1 H1 μ1 d v, Ext α H α1 H1 → Rs X.prog X.w X.K g α1 H1 μ1 → RepE X.K g.ea α1 H1 σ τ → Rv X.K g α1 H1 d v → Pst X.prog X.w X.K g ρ τ α1 H1 (f d μ1) Q → Q' v H1) :
    rdE X.prog X.w X.K g ea τ H Q' := by
  refine ⟨α, μ, σ, s, r, Pst.imp (Pst.bind h) fun v H1 q => ?_⟩
  obtain ⟨α1, μ1, d, e1, s1, r1, h1⟩ := q
  exact k α1 H1 μ1 d v e1 s1 (r.mono e1) r1 h1
theorem rdA1 {es : Es} {τ : L2.St} {H : Hp} {α : List Addr} {μ : Store} {σ : Env} {A B : Type} {ρ : List Addr → Hp → A → B → Prop} {f : List D → Store → Res A} {Q : B → Hp → Prop} (s : Rs X.prog X.w X.K g α H μ) (r : RepE X.K g.ea α H σ τ)
    (h : Pst X.prog X.w X.K g ρ τ α H ((evs g.cl g.cx es σ μ).bind f) Q) {Q' : List V → Hp → Prop} (k : ∀ α1 H1 μ1 d v, Ext α H α1 H1 → Rs X.prog X.w X.K g α1 H1 μ1 → RepE X.K g.ea α1 H1 σ τ → Rvs X.K g α1 H1 d v → Pst X.prog X.w X.K g ρ τ α1 H1 (f d μ1) Q → Q' v H1) :
    rdA X.prog X.w X.K g es τ H Q' := by
  refine ⟨α, μ, σ, s, r, Pst.imp (Pst.bind h) fun v H1 q => ?_⟩
  obtain ⟨α1, μ1, d, e1, s1, r1, h1⟩ := q
  exact k α1 H1 μ1 d v e1 s1 (r.mono e1) r1 h1
theorem snd_cons {es : Es} {rest : List Expr} (ha : PE X a (rdE X.prog X.w X.K g ea)) (hr : PA X rest (rdA X.prog X.w X.K g es)) (hp : plainE a = true) : PA X (a :: rest) (rdA X.prog X.w X.K g (.cons ea es)) := by
  refine PA.imp (pa_cons ha hr (star_of hp _ _)) fun τ H Q h => ?_
  obtain ⟨α, μ, σ, s, r, h⟩ := h
  simp only [evs] at h
  refine rd1 s r h fun α1 H1 μ1 d v e1 s1 r1 rv h1 => ?_
  refine rdA1 s1 r1 h1 fun α2 H2 μ2 ds vs e2 s2 r2 rvs h2 => ?_
  refine Pst.here h2 s2 ?_
  simp only [RepVs]
  exact ⟨v, vs, rfl, RepV.mono e2 d v rv, rvs⟩
theorem sz {n : Nat} (h : n ≤ lineMax) : n ≤ sizeLine := h
theorem snd_tup {es : Es} {elts : List Expr} {x1 : Nat} (h : PA X elts (rdA X.prog X.w X.K g es)) (hn : elts.length ≤ 1000) (hl : ∀ σ μ ds μ', evs g.cl g.cx es σ μ = .ok ds μ' → ds.length = elts.length) : PE X (.Tuple elts x1 pos) (rdE X.prog X.w X.K g (.tup es)) := by
  refine PE.imp (pe_tup h) fun τ H Q h => ?_
  obtain ⟨α, μ, σ, s, r, h⟩ := h
  simp only [ev] at h
  refine ⟨α, μ, σ, s, r, ?_⟩
  have key := Pst.bind (ρ := Rvs X.K g) h
  revert key
  cases q : evs g.cl g.cx es σ μ with
  | ok ds μ1 =>
    intro key α1 H1 vs e1 s1 r1
    obtain ⟨α2, μ2, ds2, e2, s2, r2, h2⟩ := key α1 H1 vs e1 s1 r1
    have hlen : vs.length ≤ 1000 := by rw [r1.len, hl _ _ _ _ q]; exact hn
    refine ⟨Nat.le_of_lt (small1000 hlen), fun p hp => ?_⟩
    refine h2 α2 _ _ (Ext.new s2 hp) (s2.new hp) ?_
    simp only [RepV]
    exact ⟨p, vs, rfl, .inl ⟨.inl upd_same, s2.fresh hp⟩, RepVs.mono (Ext.new s2 hp) _ _ r2⟩
  | exc c d μ1 => exact fun key => key
  | bad => exact fun key => key
end
end FH

set_option maxHeartbeats 1000000
/-! Operators. -/
namespace FH
open PySem PySem.Spec PyProof.Rows L2
section
variable {P : Program} {w : World} {K : PySem.W.Frag} {ea : Rm} {rc : Addr} {α : List Addr} {H : Hp} {μ : Store}
theorem listOf_rep (S : RepS P w K ea rc α H μ) {d : D} {xs : List D} {v : V} (e : listOf μ d = some xs) (r : RepV K ea α H d v) : ∃ l vs, v = .ref l ∧ H l = some (.lst vs) ∧ RepVs K ea α H xs vs := by
  cases d with
  | lst ys =>
    simp only [listOf, Option.some.injEq] at e; subst e
    simp only [RepV] at r
    obtain ⟨a, vs, h1, h2, _, _, h4⟩ := r
    exact ⟨a, vs, h1, h2, h4⟩
  | ptr p =>
    simp only [listOf] at e
    simp only [RepV] at r
    obtain ⟨a, h1, h2⟩ := r
    obtain ⟨o, ho, ro⟩ := S.look h1
    rw [ho] at e
    cases o with
    | lst ys =>
      simp only [Option.some.injEq] at e; subst e
      obtain ⟨vs, h3, h4⟩ := ro
      exact ⟨a, vs, h2, h3, h4⟩
    | dic kvs => simp at e
    | ins fs => simp at e
  | _ => simp [listOf] at e
theorem itemsOf_rep (S : RepS P w K ea rc α H μ) {d : D} {xs : List D} {v : V} (e : itemsOf μ d = some xs) (r : RepV K ea α H d v) : ∃ l vs, v = .ref l ∧ (SqL K H l vs ∨ SqT K H l vs) ∧ RepVs K ea α H xs vs := by
  cases d with
  | lst ys =>
    obtain ⟨l, vs, h1, h2, h3⟩ := listOf_rep S (d := .lst ys) (xs := xs) (by simpa [itemsOf, listOf] using e) r
    exact ⟨l, vs, h1, .inl (SqL.of h2), h3⟩
  | tup ys =>
    simp only [itemsOf, Option.some.injEq] at e; subst e
    simp only [RepV] at r
    obtain ⟨a, vs, h1, h2, h3⟩ := r
    exact ⟨a, vs, h1, .inr h2.sq, h3⟩
  | rl ys =>
    simp only [itemsOf, Option.some.injEq] at e; subst e
    simp only [RepV] at r
    obtain ⟨a, vs, h1, h2, h3⟩ := r
    exact ⟨a, vs, h1, .inl h2.sq, h3⟩
  | ptr p =>
    obtain ⟨l, vs, h1, h2, h3⟩ := listOf_rep S (d := .ptr p) (xs := xs) (by
      simp only [itemsOf] at e
      simp only [listOf]
      exact e) r
    exact ⟨l, vs, h1, .inl (SqL.of h2), h3⟩
  | _ => simp [itemsOf] at e
end
/-- what a rule for two values must give -/
def BinOk (X : Cx) (g : Gx) (f : Store → D → D → Option D) (r : R2) : Prop :=
  ∀ (α : List Addr) (H : Hp) (μ : Store) (d1 d2 d : D) (v1 v2 : V) (Q : VK), Rs X.prog X.w X.K g α H μ → Rv X.K g α H d1 v1 → Rv X.K g α H d2 v2 → f μ d1 d2 = some d →
    (∀ v H', Ext α H α H' → Rs X.prog X.w X.K g α H' μ → Rv X.K g α H' d v → Q v H') → r v1 v2 H Q
theorem str_app (a b : List Nat) : (⟨a.toArray⟩ : Str) ++ ⟨b.toArray⟩ = ⟨(a ++ b).toArray⟩ := by
  show Str.append _ _ = _
  simp [Str.append]
theorem len_mk (a : List Nat) : (⟨a.toArray⟩ : Str).length = a.length := by simp [Str.length]
section
variable {X : Cx} {g : Gx} {pos : Pos} {a b c : Expr} {ea eb ec : E}
theorem rd2 {f : Store → D → D → Option D} {r : R2} (hb : BinOk X g f r) {τ : L2.St} {H : Hp} {Q : VK} {α : List Addr} {μ : Store} {σ : Env} (s : Rs X.prog X.w X.K g α H μ) (re : RepE X.K g.ea α H σ τ)
    (h : Pst X.prog X.w X.K g (Rv X.K g) τ α H ((ev g.cl g.cx ea σ μ).bind fun x μ => (ev g.cl g.cx eb σ μ).bind fun y μ => Res.of (f μ x y) μ) Q) : tOp r (rdE X.prog X.w X.K g ea) (rdE X.prog X.w X.K g eb) τ H Q := by
  refine rd1 s re h fun α1 H1 μ1 d1 v1 e1 s1 r1 rv1 h1 => ?_
  refine rd1 s1 r1 h1 fun α2 H2 μ2 d2 v2 e2 s2 r2 rv2 h2 => ?_
  obtain ⟨d, e, h2⟩ := Pst.of h2
  exact hb α2 H2 μ2 d1 d2 d v1 v2 Q s2 (RepV.mono e2 d1 v1 rv1) rv2 e fun v H' e3 s3 r3 => h2 α2 H' v e3 s3 r3
theorem snd_bin {op : Operator} {r : R2} (ho : OpR X (binaryOp op) r) (hk : BinOk X g (fun μ => binD μ op) r) (ha : PE X a (rdE X.prog X.w X.K g ea)) (hb : PE X b (rdE X.prog X.w X.K g eb)) :
    PE X (.BinOp a op b pos) (rdE X.prog X.w X.K g (.bin op ea eb)) := by
  refine PE.imp (pe_op ho ha hb) fun τ H Q h => ?_
  obtain ⟨α, μ, σ, s, re, h⟩ := h
  simp only [ev] at h
  exact rd2 (f := fun μ => binD μ op) hk s re h
/-- two ints in -/
theorem bin_int {f : Store → D → D → Option D} {C : Int → Int → Prop} {G : Int → Int → Int} (h : ∀ μ d1 d2 d, f μ d1 d2 = some d → ∃ i j, d1 = .int i ∧ d2 = .int j ∧ C i j ∧ d = .int (G i j)) : BinOk X g f (rI C fun i j => .int (G i j)) := by
  intro α H μ d1 d2 d v1 v2 Q s r1 r2 e q
  obtain ⟨i, j, rfl, rfl, hc, rfl⟩ := h _ _ _ _ e
  simp only [RepV] at r1 r2
  exact ⟨i, j, r1, r2, hc, q _ _ Ext.refl s (by simp only [RepV])⟩
theorem ok_sub : BinOk X g (fun μ => binD μ .Sub) (rI0 fun i j => .int (i - j)) := by
  intro α H μ d1 d2 d v1 v2 Q s r1 r2 e q
  have : ∃ i j, d1 = .int i ∧ d2 = .int j ∧ d = .int (i - j) := by
    cases d1 <;> cases d2 <;> simp [binD] at e
    exact ⟨_, _, rfl, rfl, e.symm⟩
  obtain ⟨i, j, rfl, rfl, rfl⟩ := this
  simp only [RepV] at r1 r2
  exact ⟨i, j, r1, r2, q _ _ Ext.refl s (by simp only [RepV])⟩
theorem ok_fdiv : BinOk X g (fun μ => binD μ .FloorDiv) (rI CDiv fun i j => .int (i / j)) := bin_int (C := CDiv) (G := fun i j => i / j) fun μ d1 d2 d e => by
  cases d1 <;> cases d2 <;> simp only [binD, reduceCtorEq] at e
  rename_i i j
  split at e
  · rename_i h
    have h2 := Nat.le_of_ble_eq_true h.2
    exact ⟨_, _, rfl, rfl, ⟨h.1, by omega⟩, (Option.some.inj e).symm⟩
  · cases e
theorem ok_mod : BinOk X g (fun μ => binD μ .Mod) (rI (fun _ j => 0 < j) fun i j => .int (i % j)) := bin_int (C := fun _ j => 0 < j) (G := fun i j => i % j) fun μ d1 d2 d e => by
  cases d1 <;> cases d2 <;> simp [binD] at e
  exact ⟨_, _, rfl, rfl, e.1, e.2.symm⟩
theorem small_ok {i : Int} (h : smallI i = true) : -(2 ^ 64) < i ∧ i < 2 ^ 64 := by
  have h := Nat.le_of_ble_eq_true h
  omega
theorem ok_pow : BinOk X g (fun μ => binD μ .Pow) (rI CPow fun i j => .int (i ^ j.toNat)) := bin_int (C := CPow) (G := fun i j => i ^ j.toNat) fun μ d1 d2 d e => by
  cases d1 <;> cases d2 <;> simp [binD] at e
  obtain ⟨⟨h1, h2, h3⟩, e⟩ := e
  obtain ⟨h4, h5⟩ := small_ok h3
  exact ⟨_, _, rfl, rfl, ⟨h1, by omega, by omega⟩, e.symm⟩
/-- + -/
def rAddA (K : PySem.W.Frag) : R2 := fun x y H Q => (rI0 (fun i j => .int (i + j))) x y H Q ∨ (∃ i j, x = .str i ∧ y = .str j ∧ i.length + j.length ≤ sizeLine ∧ Q (.str (i ++ j)) H) ∨ rCatA K x y H Q ∨ rCat x y H Q
theorem op_addA : OpR X (binaryOp .Add) (rAddA X.K) := OpR.or op_add (OpR.or op_add_str (OpR.or op_catA op_cat))
theorem add_cases {μ : Store} {d1 d2 d : D} (e : binD μ .Add d1 d2 = some d) : (∃ i j, d1 = .int i ∧ d2 = .int j ∧ d = .int (i + j)) ∨ (∃ x y, d1 = .str x ∧ d2 = .str y ∧ x.length + y.length ≤ lineMax ∧ d = .str (x ++ y)) ∨
    (∃ x y, d1 = .tup x ∧ d2 = .tup y ∧ x.length + y.length ≤ lineMax ∧ d = .tup (x ++ y)) ∨ (∃ x y, listOf μ d1 = some x ∧ listOf μ d2 = some y ∧ x.length + y.length ≤ lineMax ∧ d = .lst (x ++ y)) := by
  have gen : ∀ {d1 d2 : D}, ((listOf μ d1).bind fun xs => (listOf μ d2).bind fun ys => if xs.length + ys.length ≤ lineMax then some (D.lst (xs ++ ys)) else none) = some d → (∃ x y, listOf μ d1 = some x ∧ listOf μ d2 = some y ∧ x.length + y.length ≤ lineMax ∧ d = .lst (x ++ y)) := by
    intro d1 d2 e
    cases h1 : listOf μ d1 with
    | none => rw [h1] at e; simp at e
    | some x =>
      cases h2 : listOf μ d2 with
      | none => rw [h1, h2] at e; simp at e
      | some y =>
        rw [h1, h2] at e
        simp at e
        exact ⟨x, y, rfl, rfl, e.1, e.2.symm⟩
  have e' : addD μ d1 d2 = some d := e
  unfold addD at e'
  split at e'
  · exact .inl ⟨_, _, rfl, rfl, (Option.some.inj e').symm⟩
  · split at e'
    · rename_i h; exact .inr (.inl ⟨_, _, rfl, rfl, h, (Option.some.inj e').symm⟩)
    · cases e'
  · split at e'
    · rename_i h; exact .inr (.inr (.inl ⟨_, _, rfl, rfl, h, (Option.some.inj e').symm⟩))
    · cases e'
  · exact .inr (.inr (.inr (gen e')))
theorem ok_add : BinOk X g (fun μ => binD μ .Add) (rAddA X.K) := by
  intro α H μ d1 d2 d v1 v2 Q s r1 r2 e q
  rcases add_cases e with ⟨i, j, rfl, rfl, rfl⟩ | ⟨x, y, rfl, rfl, hl, rfl⟩ | ⟨x, y, rfl, rfl, hl, rfl⟩ | ⟨x, y, e1, e2, hl, rfl⟩
  · simp only [RepV] at r1 r2
    exact .inl ⟨i, j, r1, r2, q _ _ Ext.refl s (by simp only [RepV])⟩
  · simp only [RepV] at r1 r2
    refine .inr (.inl ⟨_, _, r1, r2, by rw [len_mk, len_mk]; exact hl, q _ _ Ext.refl s ?_⟩)
    simp only [RepV]; rw [str_app]
  · have r1' := r1
    have r2' := r2
    simp only [RepV] at r1 r2
    obtain ⟨a1, vs1, rfl, t1, q1⟩ := r1
    obtain ⟨a2, vs2, rfl, t2, q2⟩ := r2
    refine .inr (.inr (.inl ⟨a1, a2, vs1, vs2, rfl, rfl, t1.sq, t2.sq, by rw [q1.len, q2.len]; exact hl, fun h0 => ?_, fun h0 h0' => ?_, fun h0 h0' p hp => ?_⟩))
    · have hx : x = [] := by
        subst h0
        have := q1.len
        simp at this
        exact List.eq_nil_of_length_eq_zero this.symm
      subst hx
      exact q _ _ Ext.refl s (by simpa using r2')
    · have hy : y = [] := by
        subst h0'
        have := q2.len
        simp at this
        exact List.eq_nil_of_length_eq_zero this.symm
      subst hy
      exact q _ _ Ext.refl s (by simpa using r1')
    · refine q _ _ (Ext.new s hp) (s.new hp) ?_
      simp only [RepV]
      exact ⟨p, _, rfl, .inl ⟨.inl upd_same, s.fresh hp⟩, RepVs.mono (Ext.new s hp) _ _ (q1.append q2)⟩
  · obtain ⟨a1, vs1, rfl, t1, q1⟩ := listOf_rep s e1 r1
    obtain ⟨a2, vs2, rfl, t2, q2⟩ := listOf_rep s e2 r2
    refine .inr (.inr (.inr ⟨a1, a2, vs1, vs2, rfl, rfl, t1, t2, by rw [q1.len, q2.len]; exact hl, fun p hp => ?_⟩))
    refine q _ _ (Ext.new s hp) (s.new hp) ?_
    simp only [RepV]
    exact ⟨p, _, rfl, upd_same, s.fresh hp, s.freshX hp, RepVs.mono (Ext.new s hp) _ _ (q1.append q2)⟩
def rRepS : R2 := fun x y H Q => ∃ s k, x = .str s ∧ y = .int k ∧ 0 ≤ k ∧ k ≤ 1000 ∧ s.length ≤ 1000 ∧ Q (.str ⟨(List.replicate k.toNat s.cps.toList).flatten.toArray⟩) H
theorem fold_rep (c : Array Nat) : ∀ (m : Nat) (acc : Array Nat), List.foldl (fun x1 x2 => x1 ++ x2) acc (List.replicate m c) = ⟨acc.toList ++ (List.replicate m c.toList).flatten⟩
  | 0, acc => by simp
  | m + 1, acc => by
    rw [List.replicate_succ, List.foldl_cons, fold_rep c m, List.replicate_succ, List.flatten_cons]
    simp
theorem op_repS : OpR X (binaryOp .Mult) rRepS := by
  intro pins s σ H x y v u Q I rx ry h
  obtain ⟨z, k, rfl, rfl, h0, h1, h2, q⟩ := h
  obtain ⟨t, rfl⟩ := rx
  obtain ⟨t', rfl⟩ := ry
  have hz : z.length = z.cps.toList.length := by simp [Str.length]
  refine PySem.P.mul_str (by rw [decide_eq_false (by omega), decide_eq_false (by omega)]; rfl) (fun _ _ => ?_) (fun _ _ => ?_) ?_
  · have hk : 1 ≤ k := by omega
    have : (1000 : Int) ≤ (2 ^ 63 - 1) / k := by
      have h3 : (1000 : Int) * k ≤ 2 ^ 63 - 1 := by omega
      exact (Int.le_ediv_iff_mul_le (by omega)).mpr h3
    omega
  · unfold Builtin.Str.tooLong
    refine decide_eq_false ?_
    have : z.length * k.toNat ≤ 1000 * 1000 := Nat.mul_le_mul h2 (by omega)
    rw [sizeLine_eq]
    omega
  · by_cases c1 : k < 1
    · rw [if_pos c1]
      have hk : k = 0 := by omega
      subst hk
      have e : (⟨(List.replicate (0 : Int).toNat z.cps.toList).flatten.toArray⟩ : Str) = Str.empty := rfl
      rw [e] at q
      exact ⟨by decide, .str Str.empty, H, I.tok _, ⟨_, rfl⟩, q⟩
    · rw [if_neg c1]
      by_cases c2 : (k == 1 || z.length == 0) = true
      · rw [if_pos c2]
        have e : (⟨(List.replicate k.toNat z.cps.toList).flatten.toArray⟩ : Str) = z := by
          rw [Bool.or_eq_true, beq_iff_eq, beq_iff_eq] at c2
          rcases c2 with rfl | c2
          · simp
          · rw [hz] at c2
            have : z.cps.toList = [] := List.eq_nil_of_length_eq_zero c2
            have e2 : z.cps = #[] := by simpa using this
            rw [this]
            have : (List.replicate k.toNat ([] : List Nat)).flatten = [] := by simp
            rw [this]
            obtain ⟨c⟩ := z
            simp only at e2
            rw [e2]
        rw [e] at q
        exact ⟨.str z, H, I, ⟨_, rfl⟩, q⟩
      · rw [if_neg c2]
        have e : (⟨List.foldl (fun x1 x2 => x1 ++ x2) #[] (List.replicate k.toNat z.cps)⟩ : Str) = ⟨(List.replicate k.toNat z.cps.toList).flatten.toArray⟩ := by
          rw [fold_rep]; simp
        rw [e]
        refine ⟨?_, ⟨.str _, H, I.tok _, ⟨_, rfl⟩, q⟩⟩
        have : (List.replicate k.toNat z.cps.toList).flatten.length = k.toNat * z.cps.toList.length := by simp
        show (List.replicate k.toNat z.cps.toList).flatten.toArray.size ≤ sizeLine
        rw [List.size_toArray, this, ← hz, sizeLine_eq]
        have : k.toNat * z.length ≤ 1000 * 1000 := Nat.mul_le_mul (by omega) h2
        omega
def rMulA (K : PySem.W.Frag) : R2 := fun x y H Q => ((rI CMul (fun i j => .int (i * j))) x y H Q ∨ rRep x y H Q) ∨ (rRepS x y H Q ∨ rRepT K x y H Q)
theorem op_mulA : OpR X (binaryOp .Mult) (rMulA X.K) := OpR.or (OpR.or op_mul op_rep) (OpR.or op_repS op_repT)
theorem RepVs.rep {K : PySem.W.Frag} {ea : Rm} {α : List Addr} {H : Hp} {ds : List D} {vs : List V} (h : RepVs K ea α H ds vs) : ∀ k : Nat, RepVs K ea α H (List.replicate k ds).flatten (List.replicate k vs).flatten
  | 0 => by simp only [List.replicate_zero, List.flatten_nil, RepVs]
  | k + 1 => by
    rw [List.replicate_succ, List.replicate_succ, List.flatten_cons, List.flatten_cons]
    exact h.append (RepVs.rep h k)
theorem mul_cases {μ : Store} {d1 d2 d : D} (e : binD μ .Mult d1 d2 = some d) : (∃ i j, d1 = .int i ∧ d2 = .int j ∧ (smallI i = true ∨ smallI j = true) ∧ d = .int (i * j)) ∨
    (∃ x k, listOf μ d1 = some x ∧ d2 = .int k ∧ x.length ≤ 1000 ∧ k ≤ 1000 ∧ 0 ≤ k ∧ d = .lst (List.replicate k.toNat x).flatten) ∨
    (∃ x k, d1 = .str x ∧ d2 = .int k ∧ x.length ≤ 1000 ∧ k ≤ 1000 ∧ 0 ≤ k ∧ d = .str (List.replicate k.toNat x).flatten) ∨
    (∃ x k, d1 = .tup x ∧ d2 = .int k ∧ x.length ≤ 1000 ∧ k ≤ 1000 ∧ 2 ≤ k ∧ 1 ≤ x.length ∧ d = .tup (List.replicate k.toNat x).flatten) := by
  have e' : mulD μ d1 d2 = some d := e
  unfold mulD at e'
  split at e'
  · split at e'
    · rename_i h; exact .inl ⟨_, _, rfl, rfl, by simpa using h, (Option.some.inj e').symm⟩
    · cases e'
  · split at e'
    · rename_i h; exact .inr (.inr (.inl ⟨_, _, rfl, rfl, h.1, h.2.1, h.2.2, (Option.some.inj e').symm⟩))
    · cases e'
  · split at e'
    · rename_i h; exact .inr (.inr (.inr ⟨_, _, rfl, rfl, h.1, h.2.1, h.2.2.1, h.2.2.2, (Option.some.inj e').symm⟩))
    · cases e'
  · rename_i k _ _ _
    cases h1 : listOf μ d1 with
    | none => rw [h1] at e'; simp at e'
    | some x =>
      rw [h1] at e'
      simp at e'
      exact .inr (.inl ⟨x, k, rfl, rfl, e'.1.1, e'.1.2.1, e'.1.2.2, e'.2.symm⟩)
  · cases e'
theorem ok_mul : BinOk X g (fun μ => binD μ .Mult) (rMulA X.K) := by
  intro α H μ d1 d2 d v1 v2 Q s r1 r2 e q
  rcases mul_cases e with ⟨i, j, rfl, rfl, hs, rfl⟩ | ⟨x, k, e1, rfl, h1, h2, h3, rfl⟩ | ⟨x, k, rfl, rfl, h1, h2, h3, rfl⟩ | ⟨x, k, rfl, rfl, h1, h2, h3, h4, rfl⟩
  · simp only [RepV] at r1 r2
    refine .inl (.inl ⟨i, j, r1, r2, ?_, q _ _ Ext.refl s (by simp only [RepV])⟩)
    rcases hs with h | h
    · exact .inl (small_ok h)
    · exact .inr (small_ok h)
  · obtain ⟨a1, vs1, rfl, t1, q1⟩ := listOf_rep s e1 r1
    simp only [RepV] at r2
    refine .inl (.inr ⟨a1, k, vs1, rfl, r2, t1, by omega, by omega, ?_, fun p hp => ?_⟩)
    · rw [q1.len]
      have : x.length * k.toNat ≤ 1000 * 1000 := Nat.mul_le_mul h1 (by omega)
      exact Nat.le_trans this (by decide)
    · refine q _ _ (Ext.new s hp) (s.new hp) ?_
      simp only [RepV]
      exact ⟨p, _, rfl, upd_same, s.fresh hp, s.freshX hp, RepVs.mono (Ext.new s hp) _ _ (q1.rep _)⟩
  · simp only [RepV] at r1 r2
    refine .inr (.inl ⟨_, k, r1, r2, h3, h2, by rw [len_mk]; exact h1, q _ _ Ext.refl s ?_⟩)
    simp only [RepV]
  · simp only [RepV] at r1 r2
    obtain ⟨a1, vs1, rfl, t1, q1⟩ := r1
    refine .inr (.inr ⟨a1, k, vs1, rfl, r2, t1.sq, ?_, h3, h2, by rw [q1.len]; exact h1, fun p hp => ?_⟩)
    · intro e0
      rw [e0] at q1
      have := q1.len
      simp at this
      omega
    · refine q _ _ (Ext.new s hp) (s.new hp) ?_
      simp only [RepV]
      exact ⟨p, _, rfl, .inl ⟨.inl upd_same, s.fresh hp⟩, RepVs.mono (Ext.new s hp) _ _ (q1.rep _)⟩
theorem snd_neg (ha : PE X a (rdE X.prog X.w X.K g ea)) : PE X (.UnaryOp .USub a pos) (rdE X.prog X.w X.K g (.neg ea)) := by
  refine PE.imp (pe_un un_neg ha) fun τ H Q h => ?_
  obtain ⟨α, μ, σ, s, re, h⟩ := h
  simp only [ev] at h
  refine rd1 s re h fun α1 H1 μ1 d v e1 s1 r1 rv h1 => ?_
  cases d with
  | int i =>
    simp only [RepV] at rv
    exact ⟨i, rv, Pst.here h1 s1 (by simp only [RepV])⟩
  | _ => exact h1.elim
end
end FH

set_option maxHeartbeats 1000000
/-! Dicts with tuples as keys; comparisons. -/
namespace FH
open PySem PySem.Spec PyProof.Rows L2
section
variable {X : Cx} {pins : List (Addr × Obj)} {σ : L2.St} {H : Hp} {s : Shared} {ea : Rm} {α : List Addr}
theorem TupAt.isTup (I : Inv X pins σ H s) {a : Addr} {vs : List V} (h : TupAt X.K α H a vs) : ∃ its : List Value, Vals vs its ∧ IsTup s.heap a its.toArray := by
  obtain ⟨its, h1, h2, _⟩ := I.tuple h.sq
  exact ⟨its, h1, h2⟩
mutual
theorem nk_of (I : Inv X pins σ H s) : ∀ (d : D) (v : V) (u : Value) (k : NestedKey), RepV X.K ea α H d v → RelV v u → toNK d = some k → NestedIs s.heap k u
  | .non, v, u, k, r, rv, e => by
    simp only [RepV] at r; subst r
    simp only [toNK, Option.some.injEq] at e; subst e
    cases (show u = Value.none from rv)
    exact .none
  | .bl b, v, u, k, r, rv, e => by
    simp only [RepV] at r; subst r
    simp only [toNK, Option.some.injEq] at e; subst e
    cases (show u = Value.bool b from rv)
    exact .bool rfl
  | .int i, v, u, k, r, rv, e => by
    simp only [RepV] at r; subst r
    simp only [toNK, Option.some.injEq] at e; subst e
    obtain ⟨t, rfl⟩ := rv
    exact .int _ _
  | .str x, v, u, k, r, rv, e => by
    simp only [RepV] at r; subst r
    simp only [toNK, Option.some.injEq] at e; subst e
    obtain ⟨t, rfl⟩ := rv
    exact .text _ _
  | .tup xs, v, u, k, r, rv, e => by
    simp only [RepV] at r
    obtain ⟨a, vs, rfl, ht, hr⟩ := r
    cases (show u = Value.ref a from rv)
    simp only [toNK] at e
    obtain ⟨ks, e1, rfl⟩ := Option.map_eq_some_iff.mp e
    obtain ⟨its, hv, o, ho, hc, n, hd⟩ := ht.isTup I
    exact .tup ho hc hd (nks_of I xs vs its ks hr hv e1)
  | .lst _, v, u, k, r, rv, e => by simp [toNK] at e
  | .ptr _, v, u, k, r, rv, e => by simp [toNK] at e
  | .rl _, v, u, k, r, rv, e => by simp [toNK] at e
  | .exn, v, u, k, r, rv, e => by simp [toNK] at e
  | .clo _ _, v, u, k, r, rv, e => by simp [toNK] at e
theorem nks_of (I : Inv X pins σ H s) : ∀ (ds : List D) (vs : List V) (us : List Value) (ks : List NestedKey), RepVs X.K ea α H ds vs → Vals vs us → toNKs ds = some ks → NestedAll s.heap ks us
  | [], vs, us, ks, r, rv, e => by
    simp only [RepVs] at r; subst r
    simp only [toNKs, Option.some.injEq] at e; subst e
    cases rv
    exact .nil
  | d :: ds, vs, us, ks, r, rv, e => by
    simp only [RepVs] at r
    obtain ⟨v, q, rfl, h1, h2⟩ := r
    simp only [toNKs] at e
    obtain ⟨k, e1, e2⟩ := Option.bind_eq_some_iff.mp e
    obtain ⟨ks', e3, rfl⟩ := Option.map_eq_some_iff.mp e2
    cases rv with
    | cons ra rb => exact .cons (nk_of I d v _ k h1 ra e1) (nks_of I ds q _ ks' h2 rb e3)
end
theorem keyD_some {d : D} {k : NestedKey} (h : keyD d = some k) : (∃ xs, d = .tup xs) ∧ toNK d = some k ∧ k.depth ≤ 8 := by
  cases d with
  | tup xs =>
    simp only [keyD] at h
    obtain ⟨k', e1, e2⟩ := Option.bind_eq_some_iff.mp h
    split at e2
    · rename_i hd
      cases e2
      exact ⟨⟨xs, rfl⟩, e1, hd⟩
    · cases e2
  | _ => simp [keyD] at h
/-- the tuple at b is the key k -/
def KeyAt (K : PySem.W.Frag) (H : Hp) (k : NestedKey) (b : Addr) : Prop := ∃ ea α d, keyD d = some k ∧ RepV K ea α H d (.ref b)
theorem KeyAt.is (I : Inv X pins σ H s) {k : NestedKey} {b : Addr} (h : KeyAt X.K H k b) : (nestedKind X.prog X.w).is s.heap k b := by
  obtain ⟨ea, α, d, e, r⟩ := h
  obtain ⟨_, e1, e2⟩ := keyD_some e
  exact ⟨nk_of I d _ _ k r rfl e1, e2⟩
theorem dic_of (I : Inv X pins σ H s) {a : Addr} {xs : List (NestedKey × Addr × Value)} (h : H a = some (DicH X.prog X.w a xs)) (hk : ∀ x ∈ xs, KeyAt X.K H x.1 x.2.1) :
    s.heap.DictOfH (nestedKind X.prog X.w) a xs ∧ (a == sysModules) = false ∧ xs.length ≤ sizeLine := by
  have ob := I.hok a _ h
  obtain ⟨⟨o, es, ep, h1, h2, h3, h4, h5, h6, h7⟩, _, _⟩ := ob
  exact ⟨⟨o, es, ep, h1, h2, h3, h4, fun x hx => (hk x hx).is I, h5⟩, h6, h7⟩
theorem dic_new {P : Program} {w : World} {H : Hp} {h : Heap} {a : Addr} {xs : List (NestedKey × Addr × Value)} (d : h.DictOfH (nestedKind P w) a xs) (hs : (a == sysModules) = false) (hl : xs.length ≤ sizeLine) : ObjOk P w H h a (DicH P w a xs) := by
  obtain ⟨o, es, ep, h1, h2, h3, h4, _, h5⟩ := d
  refine ⟨⟨o, es, ep, h1, h2, h3, h4, h5, hs, hl⟩, ⟨o, h1⟩, fun g1 g2 ⟨o', es', ep', q1, q2⟩ hk => ⟨o', es', ep', hk _ q1, q2⟩⟩
theorem room8 {A : Around} {prog : Program} {w : World} (hu : A.units + 64 < cLine) : (nestedKind prog w).room A.in1 := by
  show A.in1.units + 8 < cLine
  have : A.in1.units = A.units + 1 := rfl
  omega
def rInDic (P : Program) (w : World) (K : PySem.W.Frag) : R2 := fun x y H Q => ∃ a b k xs, x = .ref b ∧ y = .ref a ∧ H a = some (DicH P w a xs) ∧ KeyAt K H k b ∧ (∀ x ∈ xs, KeyAt K H x.1 x.2.1) ∧ Q (.bl (atKey xs k).isSome) H
def rNotInDic (P : Program) (w : World) (K : PySem.W.Frag) : R2 := fun x y H Q => ∃ a b k xs, x = .ref b ∧ y = .ref a ∧ H a = some (DicH P w a xs) ∧ KeyAt K H k b ∧ (∀ x ∈ xs, KeyAt K H x.1 x.2.1) ∧ Q (.bl (!(atKey xs k).isSome)) H
theorem op_inDic (hu : X.A.units + 64 < cLine) : OpR X (compareOp .In) (rInDic X.prog X.w X.K) := by
  intro pins s σ H x y v u Q I rx ry h
  obtain ⟨a, b, k, xs, rfl, rfl, hd, hk, hks, q⟩ := h
  cases (show v = Value.ref b from rx)
  cases (show u = Value.ref a from ry)
  obtain ⟨d, hs, hl⟩ := dic_of I hd hks
  show wpAny _ _ (do return Value.bool (← contains (.ref a) (.ref b))) _ _ s
  exact wpAny_bind (wpAny_contains_heap (room8 hu) (hk.is I) hs d (wpAny_pure ⟨.bl _, H, I.tok _, rfl, q⟩))
theorem op_notInDic (hu : X.A.units + 64 < cLine) : OpR X (compareOp .NotIn) (rNotInDic X.prog X.w X.K) := by
  intro pins s σ H x y v u Q I rx ry h
  obtain ⟨a, b, k, xs, rfl, rfl, hd, hk, hks, q⟩ := h
  cases (show v = Value.ref b from rx)
  cases (show u = Value.ref a from ry)
  obtain ⟨d, hs, hl⟩ := dic_of I hd hks
  show wpAny _ _ (do return Value.bool (!(← contains (.ref a) (.ref b)))) _ _ s
  exact wpAny_bind (wpAny_contains_heap (room8 hu) (hk.is I) hs d (wpAny_pure ⟨.bl _, H, I.tok _, rfl, q⟩))
def rIxDic (P : Program) (w : World) (K : PySem.W.Frag) : R2 := fun x y H Q => ∃ a b k xs p v, x = .ref a ∧ y = .ref b ∧ H a = some (DicH P w a xs) ∧ KeyAt K H k b ∧ (∀ x ∈ xs, KeyAt K H x.1 x.2.1) ∧ atKey xs k = some p ∧ RelV v p.2 ∧ Q v H
theorem ix_dic (hu : X.A.units + 64 < cLine) : IxR X (rIxDic X.prog X.w X.K) := by
  intro value slice pins s σ H x y v u Q I rx ry h hs
  obtain ⟨a, b, k, xs, p, z, rfl, rfl, hd, hk, hks, hp, rz, q⟩ := h
  cases (show v = Value.ref a from rx)
  cases (show u = Value.ref b from ry)
  obtain ⟨d, hsm, hl⟩ := dic_of I hd hks
  exact subscriptTail_builtinR (x := p.2) d.typeIs PySem.F.slot_dict_getitem.lookup
    (wpAny_getItem_heap (Q := fun r s' => r = p.2 ∧ EP X pins σ Q r s') (room8 hu) (hk.is I) d hp ⟨rfl, z, H, I.tok _, rz, q⟩) hs
def rSetDic (P : Program) (w : World) (K : PySem.W.Frag) : V → V → V → Hp → (Hp → Prop) → Prop := fun o i v H Q => ∃ a b k xs, o = .ref a ∧ i = .ref b ∧ H a = some (DicH P w a xs) ∧ KeyAt K H k b ∧ (∀ x ∈ xs, KeyAt K H x.1 x.2.1) ∧ xs.length < sizeLine ∧
  ∀ u, RelV v u → Q (upd H a (DicH P w a (storedH xs k b u)))
theorem stored_len {K : Type} [DecidableEq K] (xs : List (K × Addr × Value)) (k : K) (b : Addr) (u : Value) : (storedH xs k b u).length ≤ xs.length + 1 := by
  unfold storedH
  split
  · rw [List.length_map]; omega
  · rw [List.length_append]; simp
theorem set_dic (hu : X.A.units + 64 < cLine) : PSet X (rSetDic X.prog X.w X.K) := by
  intro pins s σ H o i v ov iv u Q I ro ri rv h
  obtain ⟨a, b, k, xs, rfl, rfl, hd, hk, hks, hl, q⟩ := h
  cases (show ov = Value.ref a from ro)
  cases (show iv = Value.ref b from ri)
  obtain ⟨d, hsm, hl'⟩ := dic_of I hd hks
  refine wpAny_setItem_heap (hsz := hl') (room8 hu) (hk.is I) d fun h' dd' hs => ?_
  refine ⟨_, d_write I (ob := DicH X.prog X.w a (storedH xs k b u)) (by rw [hd]; exact True.intro) hs (let ⟨q, _, _, hq, _⟩ := dd'; ⟨q, hq⟩) (dic_new dd' hsm ?_), q u rv⟩
  exact Nat.le_trans (stored_len _ _ _ _) hl
def tDNewD (P : Program) (w : World) : TE := fun _ H Q => ∀ p, H p = none → Q (.ref p) (upd H p (DicH P w p []))
theorem pe_dnewD {pos : Pos} : PE X (.Dict [] [] pos) (tDNewD X.prog X.w) := ⟨fun pins s σ H Q I h =>
  wpAny_Dict_empty ⟨.ref s.heap.objs.size, _, I.laid (a := s.heap.objs.size) (o := DicH X.prog X.w s.heap.objs.size []) (t' := s.toks) (fun _ _ q => Heap.get?_push_of_some _ q) (Nat.le_refl _)
    (dic_new (Heap.DictOfH.new _) (beq_eq_false_iff_ne.mpr (Ne.symm (Nat.ne_of_lt I.big))) (Nat.zero_le _)), rfl, h _ (I.hok.fresh (Nat.le_refl _))⟩⟩
end
/-! ### the dict of the store against the entries -/
section
variable {P : Program} {w : World} {K : PySem.W.Frag} {ea : Rm} {rc : Addr} {α : List Addr} {H : Hp} {μ : Store}
theorem RepKv.keys : ∀ {kvs : List (D × D)} {xs : List (NestedKey × Addr × Value)}, RepKv K ea α H kvs xs → ∀ x ∈ xs, KeyAt K H x.1 x.2.1
  | [], xs, h, x, hx => by cases (show xs = [] from h); cases hx
  | (k, d) :: r, xs, h, x, hx => by
    obtain ⟨n, b, u, v, q, rfl, h2, h3, h4, h5, h6⟩ := h
    rcases List.mem_cons.mp hx with rfl | hx
    · exact ⟨ea, α, k, h2, h3⟩
    · exact RepKv.keys h6 x hx
theorem RepKv.len : ∀ {kvs : List (D × D)} {xs : List (NestedKey × Addr × Value)}, RepKv K ea α H kvs xs → xs.length = kvs.length
  | [], xs, h => by cases (show xs = [] from h); rfl
  | (k, d) :: r, xs, h => by
    obtain ⟨n, b, u, v, q, rfl, h2, h3, h4, h5, h6⟩ := h
    rw [List.length_cons, List.length_cons, RepKv.len h6]
theorem atKey_cons {k n : NestedKey} {b : Addr} {u : Value} {q : List (NestedKey × Addr × Value)} : atKey ((n, b, u) :: q) k = if n = k then some (b, u) else atKey q k := by
  unfold atKey
  rw [List.find?_cons]
  by_cases h : n = k
  · simp [h]
  · simp [h]
theorem RepKv.at_ : ∀ {kvs : List (D × D)} {xs : List (NestedKey × Addr × Value)} {k : NestedKey}, RepKv K ea α H kvs xs →
    match dkey kvs k with | none => atKey xs k = none | some d => ∃ p v, atKey xs k = some p ∧ RelV v p.2 ∧ RepV K ea α H d v
  | [], xs, k, h => by cases (show xs = [] from h); rfl
  | (kd, d) :: r, xs, k, h => by
    obtain ⟨n, b, u, v, q, rfl, h2, h3, h4, h5, h6⟩ := h
    rw [atKey_cons]
    unfold dkey
    rw [h2]
    by_cases hn : n = k
    · rw [if_pos (by rw [hn]), if_pos hn]
      exact ⟨(b, u), v, rfl, h4, h5⟩
    · rw [if_neg (fun e => hn (Option.some.inj e)), if_neg hn]
      exact RepKv.at_ h6
theorem setK_new : ∀ {kvs : List (D × D)} {k : NestedKey} {kd v : D}, dkey kvs k = none → setK kvs k kd v = kvs ++ [(kd, v)]
  | [], k, kd, v, h => rfl
  | (a, b) :: r, k, kd, v, h => by
    unfold dkey at h
    unfold setK
    by_cases e : keyD a = some k
    · rw [if_pos e] at h; cases h
    · rw [if_neg e] at h ⊢
      rw [setK_new h]; rfl
theorem RepKv.append : ∀ {kvs kvs' : List (D × D)} {xs xs' : List (NestedKey × Addr × Value)}, RepKv K ea α H kvs xs → RepKv K ea α H kvs' xs' → RepKv K ea α H (kvs ++ kvs') (xs ++ xs')
  | [], kvs', xs, xs', h, h' => by cases (show xs = [] from h); exact h'
  | (k, d) :: r, kvs', xs, xs', h, h' => by
    obtain ⟨n, b, u, v, q, rfl, h2, h3, h4, h5, h6⟩ := h
    exact ⟨n, b, u, v, q ++ xs', rfl, h2, h3, h4, h5, RepKv.append h6 h'⟩
theorem putAt_none : ∀ {q : List (NestedKey × Addr × Value)} {k : NestedKey} {u : Value}, k ∉ q.map (·.1) → q.map (putAt k u) = q := fun h => map_putAt_of_not_mem _ _ _ h
theorem RepKv.put : ∀ {kvs : List (D × D)} {xs : List (NestedKey × Addr × Value)} {k : NestedKey} {kd vd dd : D} {u : Value} {v : V}, RepKv K ea α H kvs xs → (xs.map (·.1)).Nodup → dkey kvs k = some dd → RelV v u → RepV K ea α H vd v →
    RepKv K ea α H (setK kvs k kd vd) (xs.map (putAt k u))
  | [], xs, k, kd, vd, dd, u, v, h, nd, e, ru, rv => by cases e
  | (a, d) :: r, xs, k, kd, vd, dd, u, v, h, nd, e, ru, rv => by
    obtain ⟨n, b, u', v', q, rfl, h2, h3, h4, h5, h6⟩ := h
    unfold dkey at e
    unfold setK
    rw [h2] at e ⊢
    rw [List.map_cons] at nd ⊢
    by_cases hn : n = k
    · rw [if_pos (by rw [hn])]
      have hq : k ∉ q.map (·.1) := by rw [← hn]; exact (List.nodup_cons.mp nd).1
      rw [putAt_none hq]
      refine ⟨n, b, u, v, q, ?_, h2, h3, ru, rv, h6⟩
      simp [putAt, hn]
    · rw [if_neg (fun z => hn (Option.some.inj z))] at e ⊢
      refine ⟨n, b, u', v', q.map (putAt k u), ?_, h2, h3, h4, h5, RepKv.put h6 (List.nodup_cons.mp nd).2 e ru rv⟩
      simp [putAt, hn]
/-- d[k] = v keeps the two alike -/
theorem RepKv.stored {kvs : List (D × D)} {xs : List (NestedKey × Addr × Value)} {k : NestedKey} {kd vd : D} {b : Addr} {u : Value} {v : V} (h : RepKv K ea α H kvs xs) (nd : (xs.map (·.1)).Nodup) (hk : keyD kd = some k) (hb : RepV K ea α H kd (.ref b)) (ru : RelV v u) (rv : RepV K ea α H vd v) :
    RepKv K ea α H (setK kvs k kd vd) (storedH xs k b u) := by
  have hat := h.at_ (k := k)
  cases e : dkey kvs k with
  | none =>
    rw [e] at hat
    rw [setK_new e, storedH_new hat]
    exact h.append ⟨k, b, u, v, [], rfl, hk, hb, ru, rv, rfl⟩
  | some d =>
    rw [e] at hat
    obtain ⟨p, v', h1, _, _⟩ := hat
    rw [storedH_old h1]
    exact h.put nd e ru rv
/-! ### data -/
mutual
theorem dp_of (S : RepS P w K ea rc α H μ) : ∀ (d : D) (v : V) (p : PyData), RepV K ea α H d v → toPy d = some p → Dp K H v p
  | .non, v, p, r, e => by simp only [RepV] at r; subst r; simp only [toPy, Option.some.injEq] at e; subst e; exact .non
  | .bl b, v, p, r, e => by simp only [RepV] at r; subst r; simp only [toPy, Option.some.injEq] at e; subst e; exact .bl _
  | .int b, v, p, r, e => by simp only [RepV] at r; subst r; simp only [toPy, Option.some.injEq] at e; subst e; exact .int _
  | .str b, v, p, r, e => by simp only [RepV] at r; subst r; simp only [toPy, Option.some.injEq] at e; subst e; exact .str _
  | .tup xs, v, p, r, e => by
    simp only [RepV] at r
    obtain ⟨a, vs, rfl, ht, hr⟩ := r
    simp only [toPy] at e
    obtain ⟨ks, e1, rfl⟩ := Option.map_eq_some_iff.mp e
    exact .tup ht.sq (dps_of S xs vs ks hr e1)
  | .lst xs, v, p, r, e => by
    simp only [RepV] at r
    obtain ⟨a, vs, rfl, ht, _, _, hr⟩ := r
    simp only [toPy] at e
    obtain ⟨ks, e1, rfl⟩ := Option.map_eq_some_iff.mp e
    exact .lst (SqL.of ht) (dps_of S xs vs ks hr e1)
  | .ptr _, v, p, r, e => by simp [toPy] at e
  | .rl _, v, p, r, e => by simp [toPy] at e
  | .exn, v, p, r, e => by simp [toPy] at e
  | .clo _ _, v, p, r, e => by simp [toPy] at e
theorem dps_of (S : RepS P w K ea rc α H μ) : ∀ (ds : List D) (vs : List V) (ps : List PyData), RepVs K ea α H ds vs → toPys ds = some ps → DpAll K H vs ps
  | [], vs, ps, r, e => by
    simp only [RepVs] at r; subst r
    simp only [toPys, Option.some.injEq] at e; subst e
    exact .nil
  | d :: ds, vs, ps, r, e => by
    simp only [RepVs] at r
    obtain ⟨v, q, rfl, h1, h2⟩ := r
    simp only [toPys] at e
    obtain ⟨k, e1, e2⟩ := Option.bind_eq_some_iff.mp e
    obtain ⟨ks', e3, rfl⟩ := Option.map_eq_some_iff.mp e2
    exact .cons (dp_of S d v k h1 e1) (dps_of S ds q ks' h2 e3)
end
theorem dpS_of (S : RepS P w K ea rc α H μ) {d : D} {v : V} {p : PyData} (r : RepV K ea α H d v) (e : toPyS μ d = some p) : Dp K H v p := by
  cases d with
  | ptr q =>
    simp only [toPyS] at e
    split at e
    · rename_i xs hx
      obtain ⟨ks, e1, rfl⟩ := Option.map_eq_some_iff.mp e
      obtain ⟨l, vs, rfl, h2, h3⟩ := listOf_rep S (d := .ptr q) (xs := xs) (by simp only [listOf, hx]) r
      exact .lst (SqL.of h2) (dps_of S xs vs ks h3 e1)
    · cases e
  | _ => exact dp_of S _ _ _ r (by simpa only [toPyS] using e)
end
end FH

set_option maxHeartbeats 1000000
/-! Comparisons, subscripts, slices, and, or, not, if-expressions. -/
namespace FH
open PySem PySem.Spec PyProof.Rows L2
section
variable {X : Cx} {g : Gx} {pos : Pos} {a b c : Expr} {ea eb ec : E}
theorem Pst.ext {P : Program} {w : World} {K : PySem.W.Frag} {A B : Type} {ρ : List Addr → Hp → A → B → Prop} {τ : L2.St} {α α' : List Addr} {H H' : Hp} {r : Res A} {Q : B → Hp → Prop} (e : Ext α H α' H') (h : Pst P w K g ρ τ α H r Q) : Pst P w K g ρ τ α' H' r Q := by
  cases r with
  | ok x y => exact fun α2 H2 b e2 s r => h α2 H2 b (e.trans e2) s r
  | exc x y z => exact fun α2 H2 cv dd e2 s r => h α2 H2 cv dd (e.trans e2) s r
  | bad => exact h
abbrev cmpF (op : CmpOp) : Store → D → D → Option D := fun μ x y => (cmpD μ op x y).map .bl
theorem of_bl {o : Option Bool} {μ : Store} : (Res.of o μ).bind (fun r μ => Res.ok (D.bl r) μ) = Res.of (o.map .bl) μ := by cases o <;> rfl
theorem ok_eq : BinOk X g (cmpF .Eq) (rEqD X.K) := by
  intro α H μ d1 d2 d v1 v2 Q s r1 r2 e q
  obtain ⟨r, e0, rfl⟩ := Option.map_eq_some_iff.mp e
  clear e
  have e : eqD μ d1 d2 = some r := e0
  unfold eqD at e
  obtain ⟨x, ex, e⟩ := Option.bind_eq_some_iff.mp e
  obtain ⟨y, ey, e⟩ := Option.bind_eq_some_iff.mp e
  split at e
  · rename_i hs
    rw [Bool.and_eq_true] at hs
    cases e
    exact ⟨x, y, dpS_of s r1 ex, dpS_of s r2 ey, hs.1, hs.2, q _ _ Ext.refl s (by simp only [RepV])⟩
  · cases e
theorem ok_ne : BinOk X g (cmpF .NotEq) (rNeD X.K) := by
  intro α H μ d1 d2 d v1 v2 Q s r1 r2 e q
  obtain ⟨r, e0, rfl⟩ := Option.map_eq_some_iff.mp e
  clear e
  have e2 : (eqD μ d1 d2).map (!·) = some r := e0
  clear e0
  obtain ⟨r', e, rfl⟩ := Option.map_eq_some_iff.mp e2
  unfold eqD at e
  obtain ⟨x, ex, e⟩ := Option.bind_eq_some_iff.mp e
  obtain ⟨y, ey, e⟩ := Option.bind_eq_some_iff.mp e
  split at e
  · rename_i hs
    rw [Bool.and_eq_true] at hs
    cases e
    exact ⟨x, y, dpS_of s r1 ex, dpS_of s r2 ey, hs.1, hs.2, q _ _ Ext.refl s (by simp only [RepV])⟩
  · cases e
theorem cmp_int {op : CmpOp} {p : Int → Int → Bool} (h : ∀ μ d1 d2 r, cmpD μ op d1 d2 = some r → ∃ i j, d1 = .int i ∧ d2 = .int j ∧ r = p i j) : BinOk X g (cmpF op) (rI0 fun i j => .bl (p i j)) := by
  intro α H μ d1 d2 d v1 v2 Q s r1 r2 e q
  obtain ⟨r, e0, rfl⟩ := Option.map_eq_some_iff.mp e
  clear e
  have e := e0
  obtain ⟨i, j, rfl, rfl, rfl⟩ := h _ _ _ _ e
  simp only [RepV] at r1 r2
  exact ⟨i, j, r1, r2, q _ _ Ext.refl s (by simp only [RepV])⟩
theorem ok_lt : BinOk X g (cmpF .Lt) (rI0 fun i j => .bl (decide (i < j))) := cmp_int fun μ d1 d2 r e => by cases d1 <;> cases d2 <;> simp [cmpD] at e; exact ⟨_, _, rfl, rfl, e.symm⟩
theorem ok_le : BinOk X g (cmpF .LtE) (rI0 fun i j => .bl (decide (i ≤ j))) := cmp_int fun μ d1 d2 r e => by cases d1 <;> cases d2 <;> simp [cmpD] at e; exact ⟨_, _, rfl, rfl, e.symm⟩
theorem ok_gt : BinOk X g (cmpF .Gt) (rI0 fun i j => .bl (decide (j < i))) := cmp_int fun μ d1 d2 r e => by cases d1 <;> cases d2 <;> simp [cmpD] at e; exact ⟨_, _, rfl, rfl, e.symm⟩
theorem ok_ge : BinOk X g (cmpF .GtE) (rI0 fun i j => .bl (decide (j ≤ i))) := cmp_int fun μ d1 d2 r e => by cases d1 <;> cases d2 <;> simp [cmpD] at e; exact ⟨_, _, rfl, rfl, e.symm⟩
def isNon : D → Bool
  | .non => true
  | _ => false
theorem rep_non {K : PySem.W.Frag} {ea : Rm} {α : List Addr} {H : Hp} {d : D} {v : V} (r : RepV K ea α H d v) : decide (v = .non) = isNon d := by
  cases d <;> simp only [RepV] at r
  · subst r; rfl
  · subst r; rfl
  · subst r; rfl
  · subst r; rfl
  · obtain ⟨a, vs, rfl, _⟩ := r; rfl
  · obtain ⟨a, vs, rfl, _⟩ := r; rfl
  · obtain ⟨a, _, rfl⟩ := r; rfl
  · obtain ⟨a, vs, rfl, _⟩ := r; rfl
theorem ok_is : BinOk X g (cmpF .Is) (fun x y H Q => y = .non ∧ Q (.bl (decide (x = .non))) H) := by
  intro α H μ d1 d2 d v1 v2 Q s r1 r2 e q
  obtain ⟨r, e0, rfl⟩ := Option.map_eq_some_iff.mp e
  clear e
  have e := e0
  have hd2 : d2 = .non ∧ r = isNon d1 := by cases d1 <;> cases d2 <;> simp [cmpD] at e <;> first | exact ⟨rfl, e⟩ | exact ⟨rfl, e.symm⟩
  obtain ⟨rfl, rfl⟩ := hd2
  simp only [RepV] at r2
  refine ⟨r2, ?_⟩
  rw [rep_non r1]
  exact q _ _ Ext.refl s (by simp only [RepV])
theorem ok_isnot : BinOk X g (cmpF .IsNot) (fun x y H Q => y = .non ∧ Q (.bl (!decide (x = .non))) H) := by
  intro α H μ d1 d2 d v1 v2 Q s r1 r2 e q
  obtain ⟨r, e0, rfl⟩ := Option.map_eq_some_iff.mp e
  clear e
  have e := e0
  have hd2 : d2 = .non ∧ r = !isNon d1 := by cases d1 <;> cases d2 <;> simp [cmpD] at e <;> first | exact ⟨rfl, e⟩ | exact ⟨rfl, e.symm⟩
  obtain ⟨rfl, rfl⟩ := hd2
  simp only [RepV] at r2
  refine ⟨r2, ?_⟩
  rw [rep_non r1]
  exact q _ _ Ext.refl s (by simp only [RepV])
/-! in -/
theorem flat_rep {K : PySem.W.Frag} {ea : Rm} {α : List Addr} {H : Hp} {d : D} {v : V} (r : RepV K ea α H d v) (h : flatD d = true) : flatV v = true := by
  cases d <;> simp [flatD] at h <;> simp only [RepV] at r <;> subst r <;> rfl
theorem arr_beq (a b : List Nat) : ((⟨a.toArray⟩ : Str) == ⟨b.toArray⟩) = (a == b) := by
  by_cases h : a = b
  · subst h; simp
  · have : ¬ (⟨a.toArray⟩ : Str) = ⟨b.toArray⟩ := fun e => h (by simpa using congrArg (fun s => s.cps.toList) e)
    rw [beq_eq_false_iff_ne.mpr this, beq_eq_false_iff_ne.mpr h]
theorem eqF_rep {K : PySem.W.Frag} {ea : Rm} {α : List Addr} {H : Hp} {d d' : D} {v v' : V} (r : RepV K ea α H d v) (r' : RepV K ea α H d' v') (h : flatD d = true) (h' : flatD d' = true) : eqV v v' = eqF d d' := by
  cases d <;> simp [flatD] at h <;> cases d' <;> simp [flatD] at h' <;> simp only [RepV] at r r' <;> subst r <;> subst r' <;> first | rfl | exact arr_beq _ _
theorem any_rep {K : PySem.W.Frag} {ea : Rm} {α : List Addr} {H : Hp} {x : D} {vx : V} (rx : RepV K ea α H x vx) (hx : flatD x = true) : ∀ {ds : List D} {vs : List V}, RepVs K ea α H ds vs → ds.all flatD = true → vs.all flatV = true ∧ inV vx vs = ds.any fun y => eqF y x
  | [], vs, r, h => by simp only [RepVs] at r; subst r; exact ⟨rfl, rfl⟩
  | d :: ds, vs, r, h => by
    simp only [RepVs] at r
    obtain ⟨v, q, rfl, h1, h2⟩ := r
    rw [List.all_cons, Bool.and_eq_true] at h
    obtain ⟨i1, i2⟩ := any_rep rx hx h2 h.2
    refine ⟨by rw [List.all_cons, flat_rep h1 h.1, i1]; rfl, ?_⟩
    unfold inV at i2 ⊢
    rw [List.any_cons, List.any_cons, i2, eqF_rep h1 rx h.1 hx]
def rInA (P : Program) (w : World) (K : PySem.W.Frag) : R2 := fun x y H Q => (∃ (c : Nat) (z : Str), x = .str ⟨#[c]⟩ ∧ y = .str z ∧ Q (.bl (decide (c ∈ z.cps.toList))) H) ∨ rIn K false x y H Q ∨ rInD K x y H Q ∨ rInDic P w K x y H Q
def rNotInA (P : Program) (w : World) (K : PySem.W.Frag) : R2 := fun x y H Q => (∃ (c : Nat) (z : Str), x = .str ⟨#[c]⟩ ∧ y = .str z ∧ Q (.bl (!decide (c ∈ z.cps.toList))) H) ∨ rIn K true x y H Q ∨ rNotInD K x y H Q ∨ rNotInDic P w K x y H Q
theorem op_inA (hu : X.A.units + 65 < cLine) : OpR X (compareOp .In) (rInA X.prog X.w X.K) := OpR.or op_in_sign (OpR.or op_in_seq (OpR.or (op_inD hu) (op_inDic (by omega))))
theorem op_notInA (hu : X.A.units + 65 < cLine) : OpR X (compareOp .NotIn) (rNotInA X.prog X.w X.K) := OpR.or op_notIn_sign (OpR.or op_notIn_seq (OpR.or (op_notInD hu) (op_notInDic (by omega))))
theorem mem_sign (c : Nat) (s : List Nat) : decide (c ∈ (⟨s.toArray⟩ : Str).cps.toList) = decide (c ∈ s) := by simp
theorem in_cases {P : Program} {w : World} {K : PySem.W.Frag} {ea : Rm} {rc : Addr} {α : List Addr} {H : Hp} {μ : Store} {d1 d2 : D} {r : Bool} {v1 v2 : V} (s : RepS P w K ea rc α H μ) (r1 : RepV K ea α H d1 v1) (r2 : RepV K ea α H d2 v2) (e : inD μ d1 d2 = some r) :
    (∃ (c : Nat) (z : Str), v1 = .str ⟨#[c]⟩ ∧ v2 = .str z ∧ decide (c ∈ z.cps.toList) = r) ∨
    (∃ p xs, v2 = .ref p ∧ (SqL K H p xs ∨ SqT K H p xs) ∧ flatV v1 = true ∧ xs.all flatV = true ∧ inV v1 xs = r) ∨
    (∃ d ds, Dp K H v1 d ∧ Dp K H v2 (.list ds) ∧ SeqAt.shaped d = true ∧ SeqAt.shaped (.list ds) = true ∧ (ds.any fun z => PyData.eqv z d) = r) ∨
    (∃ a b k xs, v1 = .ref b ∧ v2 = .ref a ∧ H a = some (DicH P w a xs) ∧ KeyAt K H k b ∧ (∀ x ∈ xs, KeyAt K H x.1 x.2.1) ∧ (atKey xs k).isSome = r) := by
  have lst : ∀ {xs : List D} {l : Addr} {vs : List V}, v2 = .ref l → H l = some (.lst vs) → RepVs K ea α H xs vs → inL d1 xs = some r →
      ∃ d ds, Dp K H v1 d ∧ Dp K H v2 (.list ds) ∧ SeqAt.shaped d = true ∧ SeqAt.shaped (.list ds) = true ∧ (ds.any fun z => PyData.eqv z d) = r := by
    intro xs l vs h1 h2 h3 e
    unfold inL at e
    obtain ⟨ds, e1, e⟩ := Option.bind_eq_some_iff.mp e
    obtain ⟨k, e2, e⟩ := Option.bind_eq_some_iff.mp e
    split at e
    · rename_i hs
      rw [Bool.and_eq_true] at hs
      cases e
      subst h1
      exact ⟨k, ds, dp_of s d1 v1 k r1 e2, .lst (SqL.of h2) (dps_of s xs vs ds h3 e1), hs.1, hs.2, rfl⟩
    · cases e
  cases d2 with
  | str z =>
    simp only [inD] at e
    split at e
    · rename_i c
      simp only [RepV] at r1 r2
      cases e
      exact .inl ⟨c, ⟨z.toArray⟩, r1, r2, mem_sign c z⟩
    · cases e
  | tup xs =>
    simp only [inD] at e
    split at e
    · rename_i hf
      rw [Bool.and_eq_true] at hf
      cases e
      simp only [RepV] at r2
      obtain ⟨a, vs, rfl, ht, hr⟩ := r2
      obtain ⟨i1, i2⟩ := any_rep r1 hf.1 hr hf.2
      exact .inr (.inl ⟨a, vs, rfl, .inr ht.sq, flat_rep r1 hf.1, i1, i2⟩)
    · cases e
  | lst xs =>
    obtain ⟨l, vs, h1, h2, h3⟩ := listOf_rep s (d := .lst xs) (xs := xs) rfl r2
    exact .inr (.inr (.inl (lst h1 h2 h3 (by simpa only [inD] using e))))
  | ptr p =>
    simp only [inD] at e
    split at e
    · rename_i kvs hp
      obtain ⟨k, e1, e2⟩ := Option.map_eq_some_iff.mp e
      have r1' := r1
      obtain ⟨⟨xs1, rfl⟩, _, _⟩ := keyD_some e1
      simp only [RepV] at r1 r2
      obtain ⟨b, vs1, rfl, _, _⟩ := r1
      obtain ⟨a, ha, rfl⟩ := r2
      obtain ⟨xs, hx, _, hkv⟩ := s.at_ p a _ ha hp
      refine .inr (.inr (.inr ⟨a, b, k, xs, rfl, rfl, hx, ⟨_, _, _, e1, r1'⟩, hkv.keys, ?_⟩))
      have hat := hkv.at_ (k := k)
      rw [← e2]
      cases hq : dkey kvs k with
      | none => rw [hq] at hat; rw [hat]; rfl
      | some d => rw [hq] at hat; obtain ⟨pp, _, h1, _⟩ := hat; rw [h1]; rfl
    · rename_i xs hp
      obtain ⟨l, vs, h1, h2, h3⟩ := listOf_rep s (d := .ptr p) (xs := xs) (by simp only [listOf, hp]) r2
      exact .inr (.inr (.inl (lst h1 h2 h3 e)))
    · cases e
  | _ => simp [inD] at e
theorem ok_in : BinOk X g (cmpF .In) (rInA X.prog X.w X.K) := by
  intro α H μ d1 d2 d v1 v2 Q s r1 r2 e q
  obtain ⟨r, e0, rfl⟩ := Option.map_eq_some_iff.mp e
  clear e
  have e := e0
  have fin : Q (.bl r) H := q _ _ Ext.refl s (by simp only [RepV])
  rcases in_cases s r1 r2 e with ⟨c, z, h1, h2, h3⟩ | ⟨p, xs, h1, h2, h3, h4, h5⟩ | ⟨d, ds, h1, h2, h3, h4, h5⟩ | ⟨a, b, k, xs, h1, h2, h3, h4, h5, h6⟩
  · exact .inl ⟨c, z, h1, h2, by rw [h3]; exact fin⟩
  · exact .inr (.inl ⟨p, xs, h1, h2, h3, h4, by rw [h5]; exact fin⟩)
  · exact .inr (.inr (.inl ⟨d, ds, h1, h2, h3, h4, by rw [h5]; exact fin⟩))
  · exact .inr (.inr (.inr ⟨a, b, k, xs, h1, h2, h3, h4, h5, by rw [h6]; exact fin⟩))
theorem ok_notin : BinOk X g (cmpF .NotIn) (rNotInA X.prog X.w X.K) := by
  intro α H μ d1 d2 d v1 v2 Q s r1 r2 e q
  obtain ⟨r, e0, rfl⟩ := Option.map_eq_some_iff.mp e
  clear e
  have fin : Q (.bl r) H := q _ _ Ext.refl s (by simp only [RepV])
  have e2 : (inD μ d1 d2).map (!·) = some r := e0
  clear e0
  obtain ⟨r', e, rfl⟩ := Option.map_eq_some_iff.mp e2
  rcases in_cases s r1 r2 e with ⟨c, z, h1, h2, h3⟩ | ⟨p, xs, h1, h2, h3, h4, h5⟩ | ⟨d, ds, h1, h2, h3, h4, h5⟩ | ⟨a, b, k, xs, h1, h2, h3, h4, h5, h6⟩
  · exact .inl ⟨c, z, h1, h2, by rw [h3]; exact fin⟩
  · exact .inr (.inl ⟨p, xs, h1, h2, h3, h4, by simp only [if_true]; rw [h5]; exact fin⟩)
  · exact .inr (.inr (.inl ⟨d, ds, h1, h2, h3, h4, by rw [h5]; exact fin⟩))
  · exact .inr (.inr (.inr ⟨a, b, k, xs, h1, h2, h3, h4, h5, by rw [h6]; exact fin⟩))
/-- the rule of each comparison -/
def rCmp (P : Program) (w : World) (K : PySem.W.Frag) : CmpOp → R2
  | .Eq => rEqD K
  | .NotEq => rNeD K
  | .Lt => rI0 fun i j => .bl (decide (i < j))
  | .LtE => rI0 fun i j => .bl (decide (i ≤ j))
  | .Gt => rI0 fun i j => .bl (decide (j < i))
  | .GtE => rI0 fun i j => .bl (decide (j ≤ i))
  | .Is => fun x y H Q => y = .non ∧ Q (.bl (decide (x = .non))) H
  | .IsNot => fun x y H Q => y = .non ∧ Q (.bl (!decide (x = .non))) H
  | .In => rInA P w K
  | .NotIn => rNotInA P w K
theorem op_cmp (hu : X.A.units + 65 < cLine) : ∀ op, OpR X (compareOp op) (rCmp X.prog X.w X.K op)
  | .Eq => op_eqD (by omega)
  | .NotEq => op_neD (by omega)
  | .Lt => op_lt
  | .LtE => op_le
  | .Gt => op_gt
  | .GtE => op_ge
  | .Is => op_isN
  | .IsNot => op_notN
  | .In => op_inA hu
  | .NotIn => op_notInA hu
theorem ok_cmp : ∀ op, BinOk X g (cmpF op) (rCmp X.prog X.w X.K op)
  | .Eq => ok_eq
  | .NotEq => ok_ne
  | .Lt => ok_lt
  | .LtE => ok_le
  | .Gt => ok_gt
  | .GtE => ok_ge
  | .Is => ok_is
  | .IsNot => ok_isnot
  | .In => ok_in
  | .NotIn => ok_notin
theorem cmp_read (op : CmpOp) {τ : L2.St} {H : Hp} {Q : VK} (h : rdE X.prog X.w X.K g (.cmp op ea eb) τ H Q) : tOp (rCmp X.prog X.w X.K op) (rdE X.prog X.w X.K g ea) (rdE X.prog X.w X.K g eb) τ H Q := by
  obtain ⟨α, μ, σ, s, re, h⟩ := h
  simp only [ev, of_bl] at h
  exact rd2 (f := cmpF op) (ok_cmp op) s re h
theorem snd_cmp (op : CmpOp) (hu : X.A.units + 65 < cLine) (ha : PE X a (rdE X.prog X.w X.K g ea)) (hb : PE X b (rdE X.prog X.w X.K g eb)) (hp : plainE b = true) : PE X (.Compare a [op] [b] pos) (rdE X.prog X.w X.K g (.cmp op ea eb)) :=
  PE.imp (pe_cmpR (op_cmp hu op) ha hb (plain_marks hp op)) fun τ H Q h => cmp_read op h
theorem snt_cmp (op : CmpOp) (hu : X.A.units + 65 < cLine) (ha : PE X a (rdE X.prog X.w X.K g ea)) (hb : PE X b (rdE X.prog X.w X.K g eb)) (hp : plainE b = true) : PT X (.Compare a [op] [b] pos) (rdT X.prog X.w X.K g (.cmp op ea eb)) :=
  PT.imp (pt_cmpR (op_cmp hu op) ha hb (plain_marks hp op)) fun τ H Q h => cmp_read op h
theorem chain_read (o1 o2 : CmpOp) {τ : L2.St} {H : Hp} {Q : VK} (h : rdE X.prog X.w X.K g (.chain o1 o2 ea eb ec) τ H Q) :
    tChain (rCmp X.prog X.w X.K o1) (rCmp X.prog X.w X.K o2) (rdE X.prog X.w X.K g ea) (rdE X.prog X.w X.K g eb) (rdE X.prog X.w X.K g ec) τ H Q := by
  obtain ⟨α, μ, σ, s, re, h⟩ := h
  simp only [ev] at h
  refine rd1 s re h fun α1 H1 μ1 d1 v1 e1 s1 r1 rv1 h1 => ?_
  refine rd1 s1 r1 h1 fun α2 H2 μ2 d2 v2 e2 s2 r2 rv2 h2 => ?_
  cases hc : cmpD μ2 o1 d1 d2 with
  | none => rw [hc] at h2; exact h2.elim
  | some r =>
    rw [hc] at h2
    refine ok_cmp o1 α2 H2 μ2 d1 d2 (.bl r) v1 v2 _ s2 (RepV.mono e2 d1 v1 rv1) rv2 (by rw [cmpF, hc]; rfl) fun v H3 e3 s3 r3 => ?_
    simp only [RepV] at r3
    refine ⟨r, r3, ?_⟩
    simp only [Res.of_some, Res.bind_ok] at h2
    cases r with
    | true =>
      rw [if_pos rfl]
      simp only [if_true] at h2
      simp only [of_bl] at h2
      have h2' := Pst.ext e3 h2
      refine rd1 s3 (r2.mono e3) h2' fun α4 H4 μ4 d4 v4 e4 s4 r4 rv4 h4 => ?_
      obtain ⟨d, e, h4⟩ := Pst.of h4
      exact ok_cmp o2 α4 H4 μ4 d2 d4 d v2 v4 Q s4 (RepV.mono (e3.trans e4) d2 v2 rv2) rv4 e fun v H' e5 s5 r5 => h4 α4 H' v e5 s5 r5
    | false =>
      rw [if_neg Bool.false_ne_true]
      simp only [Bool.false_eq_true, if_false] at h2
      exact h2 α2 H3 _ e3 s3 (by simp only [RepV])
theorem snd_chain (o1 o2 : CmpOp) (hu : X.A.units + 65 < cLine) (ha : PE X a (rdE X.prog X.w X.K g ea)) (hb : PE X b (rdE X.prog X.w X.K g eb)) (hc : PE X c (rdE X.prog X.w X.K g ec)) (hp : plainE c = true) : PE X (.Compare a [o1, o2] [b, c] pos) (rdE X.prog X.w X.K g (.chain o1 o2 ea eb ec)) :=
  PE.imp (pe_chain (op_cmp hu o1) (op_cmp hu o2) ha hb hc (by show behindInMarks o2 c = false; exact plain_marks hp o2)) fun τ H Q h => chain_read o1 o2 h
theorem snt_chain (o1 o2 : CmpOp) (hu : X.A.units + 65 < cLine) (ha : PE X a (rdE X.prog X.w X.K g ea)) (hb : PE X b (rdE X.prog X.w X.K g eb)) (hc : PE X c (rdE X.prog X.w X.K g ec)) (hp : plainE c = true) : PT X (.Compare a [o1, o2] [b, c] pos) (rdT X.prog X.w X.K g (.chain o1 o2 ea eb ec)) :=
  PT.imp (pt_chain (op_cmp hu o1) (op_cmp hu o2) ha hb hc (by show behindInMarks o2 c = false; exact plain_marks hp o2)) fun τ H Q h => chain_read o1 o2 h
end
end FH

set_option maxHeartbeats 1000000
/-! Subscripts, slices, and, or, not, if-expressions, fields, isinstance. -/
namespace FH
open PySem PySem.Spec PyProof.Rows L2
theorem atI_eq {A : Type} (xs : List A) (i : Int) : FH.atI xs i = L2.atI xs i := rfl
theorem ixN_eq (n : Nat) (i : Int) : FH.ixN n i = L2.ixN n i := rfl
theorem sIx_eq (n d : Nat) : ∀ o : Option Int, FH.sIx n d o = HT.sIx n d o
  | none => rfl
  | some _ => rfl
section
variable {K : PySem.W.Frag} {ea : Rm} {α : List Addr} {H : Hp}
theorem RepVs.atI {ds : List D} {vs : List V} (h : RepVs K ea α H ds vs) {i : Int} {d : D} (e : FH.atI ds i = some d) : ∃ v, L2.atI vs i = some v ∧ RepV K ea α H d v := by
  unfold FH.atI at e
  obtain ⟨j, e1, e2⟩ := Option.bind_eq_some_iff.mp e
  obtain ⟨v, h1, h2⟩ := h.get e2
  refine ⟨v, ?_, h2⟩
  unfold L2.atI
  rw [h.len, ← ixN_eq, e1]
  exact h1
theorem RepVs.cut {ds : List D} {vs : List V} (h : RepVs K ea α H ds vs) (lo hi : Option Int) : RepVs K ea α H (FH.cut ds lo hi) (cutV vs lo hi) := by
  unfold FH.cut cutV
  rw [h.len, sIx_eq, sIx_eq]
  exact (h.drop _).take _
end
section
variable {X : Cx} {g : Gx} {pos p2 : Pos} {a b c : Expr} {ea eb ec : E}
def rIdx (P : Program) (w : World) (K : PySem.W.Frag) : R2 := fun x y H Q => rIx K x y H Q ∨ rIxDic P w K x y H Q
theorem ix_idx (hu : X.A.units + 64 < cLine) : IxR X (rIdx X.prog X.w X.K) := IxR.or ix_seq (ix_dic hu)
theorem ok_idx : BinOk X g idxD (rIdx X.prog X.w X.K) := by
  intro α H μ d1 d2 d v1 v2 Q s r1 r2 e q
  have fin : ∀ v, RepV X.K g.ea α H d v → Q v H := fun v r => q _ _ Ext.refl s r
  cases d1 with
  | str z =>
    simp only [idxD] at e
    split at e
    · rename_i k
      split at e
      · rename_i hl
        obtain ⟨cc, e1, rfl⟩ := Option.map_eq_some_iff.mp e
        simp only [RepV] at r1 r2
        refine .inl (.inr (.inr ⟨⟨z.toArray⟩, k, cc, r1, r2, by rw [len_mk]; exact hl, ?_, fin _ (by simp only [RepV])⟩))
        rw [← atI_eq]; simpa using e1
      · cases e
    · cases e
  | tup xs =>
    simp only [idxD] at e
    split at e
    · rename_i k
      simp only [RepV] at r1 r2
      obtain ⟨l, vs, rfl, ht, hr⟩ := r1
      obtain ⟨v, h1, h2⟩ := hr.atI e
      exact .inl (.inr (.inl ⟨l, vs, k, v, rfl, r2, ht.sq, h1, fin v h2⟩))
    · cases e
  | lst xs =>
    simp only [idxD] at e
    split at e
    · rename_i k
      obtain ⟨l, vs, rfl, ht, hr⟩ := listOf_rep s (d := .lst xs) (xs := xs) rfl r1
      simp only [RepV] at r2
      obtain ⟨v, h1, h2⟩ := hr.atI e
      exact .inl (.inl ⟨l, vs, k, v, rfl, r2, SqL.of ht, h1, fin v h2⟩)
    · cases e
  | rl xs =>
    simp only [idxD] at e
    split at e
    · rename_i k
      simp only [RepV] at r1 r2
      obtain ⟨l, vs, rfl, ht, hr⟩ := r1
      obtain ⟨v, h1, h2⟩ := hr.atI e
      exact .inl (.inl ⟨l, vs, k, v, rfl, r2, ht.sq, h1, fin v h2⟩)
    · cases e
  | ptr p =>
    simp only [idxD] at e
    split at e
    · rename_i kvs hp
      obtain ⟨k, e1, e2⟩ := Option.bind_eq_some_iff.mp e
      have r2' := r2
      obtain ⟨⟨xs1, rfl⟩, _, _⟩ := keyD_some e1
      simp only [RepV] at r1 r2
      obtain ⟨bb, vs1, rfl, _, _⟩ := r2
      obtain ⟨aa, ha, rfl⟩ := r1
      obtain ⟨xs, hx, _, hkv⟩ := s.at_ p aa _ ha hp
      have hat := hkv.at_ (k := k)
      rw [e2] at hat
      obtain ⟨pp, v, h1, h2, h3⟩ := hat
      exact .inr ⟨aa, bb, k, xs, pp, v, rfl, rfl, hx, ⟨_, _, _, e1, r2'⟩, hkv.keys, h1, h2, fin v h3⟩
    · rename_i xs hp
      split at e
      · rename_i k
        obtain ⟨l, vs, rfl, ht, hr⟩ := listOf_rep s (d := .ptr p) (xs := xs) (by simp only [listOf, hp]) r1
        simp only [RepV] at r2
        obtain ⟨v, h1, h2⟩ := hr.atI e
        exact .inl (.inl ⟨l, vs, k, v, rfl, r2, SqL.of ht, h1, fin v h2⟩)
      · cases e
    · cases e
  | _ => simp [idxD] at e
theorem snd_idx (hu : X.A.units + 64 < cLine) (ha : PE X a (rdE X.prog X.w X.K g ea)) (hb : PE X b (rdE X.prog X.w X.K g eb)) (hp : plainE b = true) : PE X (.Subscript a b pos) (rdE X.prog X.w X.K g (.idx ea eb)) := by
  refine PE.imp (pe_ix (ix_idx hu) ha hb (plain_ix hp)) fun τ H Q h => ?_
  obtain ⟨α, μ, σ, s, re, h⟩ := h
  simp only [ev] at h
  exact rd2 (f := idxD) ok_idx s re h
/-! slices -/
/-- a part of a slice: left out, or an int -/
def PPart (X : Cx) (g : Gx) (o : Option Expr) (e : E) : Prop := (o = none ∧ noneE e = true) ∨ ∃ a, o = some a ∧ noneE e = false ∧ PE X a (rdE X.prog X.w X.K g e)
def tPrt (o : Option Expr) (t : TE) : TO := match o with | none => tNoPart | some _ => tPart t
theorem PPart.po {o : Option Expr} {e : E} (h : PPart X g o e) : PO X o (tPrt o (rdE X.prog X.w X.K g e)) := by
  rcases h with ⟨rfl, _⟩ | ⟨a, rfl, _, h⟩
  · exact po_none
  · exact po_some h
theorem part_read {o : Option Expr} {e : E} (hp : PPart X g o e) {τ : L2.St} {H : Hp} {α : List Addr} {μ : Store} {σ : Env} {A B : Type} {ρ : List Addr → Hp → A → B → Prop} {f : Option Int → Store → Res A} {Q : B → Hp → Prop} (s : Rs X.prog X.w X.K g α H μ) (r : RepE X.K g.ea α H σ τ)
    (h : Pst X.prog X.w X.K g ρ τ α H ((if noneE e then Res.ok none μ else (ev g.cl g.cx e σ μ).bind toI).bind f) Q) {Q' : Option Int → Hp → Prop} (k : ∀ α1 H1 μ1 i, Ext α H α1 H1 → Rs X.prog X.w X.K g α1 H1 μ1 → RepE X.K g.ea α1 H1 σ τ → Pst X.prog X.w X.K g ρ τ α1 H1 (f i μ1) Q → Q' i H1) :
    tPrt o (rdE X.prog X.w X.K g e) τ H Q' := by
  rcases hp with ⟨rfl, hn⟩ | ⟨a, rfl, hn, _⟩
  · rw [if_pos hn, Res.bind_ok] at h
    exact k α H μ none Ext.refl s r h
  · rw [if_neg (by rw [hn]; exact Bool.false_ne_true)] at h
    show rdE X.prog X.w X.K g e τ H fun x H1 => ∃ i, x = .int i ∧ Q' (some i) H1
    have h' : Pst X.prog X.w X.K g ρ τ α H ((ev g.cl g.cx e σ μ).bind fun d μ => (toI d μ).bind f) Q := by
      revert h
      cases ev g.cl g.cx e σ μ <;> exact fun h => h
    refine rd1 s r h' fun α1 H1 μ1 d v e1 s1 r1 rv h1 => ?_
    cases d with
    | int i =>
      simp only [RepV] at rv
      exact ⟨i, rv, k α1 H1 μ1 (some i) e1 s1 r1 h1⟩
    | _ => exact h1.elim
def rSlc (K : PySem.W.Frag) : V → Option Int → Option Int → Hp → VK → Prop := fun x lo hi H Q => rSlS x lo hi H Q ∨ rSlA K x lo hi H Q ∨ rSlL K x lo hi H Q
theorem sl_any : SlR X (rSlc X.K) := SlR.or sl_str (SlR.or sl_tupA sl_list)
theorem cut_whole {A : Type} (xs : List A) (lo hi : Option Int) (h : HT.sIx xs.length 0 lo = 0 ∧ HT.sIx xs.length xs.length hi = xs.length) : FH.cut xs lo hi = xs := by
  unfold FH.cut
  rw [sIx_eq, sIx_eq, h.1, h.2]
  simp
theorem cutS_mk (z : List Nat) (lo hi : Option Int) : cutS ⟨z.toArray⟩ lo hi = ⟨(FH.cut z lo hi).toArray⟩ := by
  unfold cutS FH.cut
  rw [len_mk, sIx_eq, sIx_eq]
theorem ok_slc {τ : L2.St} {α : List Addr} {H : Hp} {μ : Store} {d1 d : D} {l h : Option Int} {v1 : V} {Q : VK} (s : Rs X.prog X.w X.K g α H μ) (r1 : Rv X.K g α H d1 v1) (e : slcV μ d1 l h = some d)
    (q : ∀ v H', Ext α H α H' → Rs X.prog X.w X.K g α H' μ → Rv X.K g α H' d v → Q v H') : rSlc X.K v1 l h H Q := by
  have lst : ∀ {xs : List D} {l1 : Addr} {vs : List V}, v1 = .ref l1 → SqL X.K H l1 vs → RepVs X.K g.ea α H xs vs → d = .lst (FH.cut xs l h) → rSlc X.K v1 l h H Q := by
    intro xs l1 vs h1 h2 h3 h4
    subst h4
    refine .inr (.inr ⟨l1, vs, h1, h2, fun p hp => ?_⟩)
    refine q _ _ (Ext.new s hp) (s.new hp) ?_
    simp only [RepV]
    exact ⟨p, _, rfl, upd_same, s.fresh hp, s.freshX hp, RepVs.mono (Ext.new s hp) _ _ (h3.cut l h)⟩
  cases d1 with
  | str z =>
    simp only [slcV] at e
    split at e
    · rename_i hl
      cases e
      simp only [RepV] at r1
      refine .inl ⟨_, r1, by rw [len_mk]; exact hl, ?_⟩
      rw [cutS_mk]
      exact q _ _ Ext.refl s (by simp only [RepV])
    · cases e
  | tup xs =>
    simp only [slcV, Option.some.injEq] at e
    subst e
    have r1' := r1
    simp only [RepV] at r1
    obtain ⟨l1, vs, rfl, ht, hr⟩ := r1
    refine .inr (.inl ⟨l1, vs, rfl, ht.sq, fun hw => ?_, fun hw p hp => ?_⟩)
    · rw [hr.len] at hw
      rw [cut_whole xs l h hw] at q
      exact q _ _ Ext.refl s r1'
    · refine q _ _ (Ext.new s hp) (s.new hp) ?_
      simp only [RepV]
      exact ⟨p, _, rfl, .inl ⟨.inl upd_same, s.fresh hp⟩, RepVs.mono (Ext.new s hp) _ _ (hr.cut l h)⟩
  | lst xs =>
    obtain ⟨xs', e1, e2⟩ := Option.map_eq_some_iff.mp (show (itemsOf μ (.lst xs)).map (fun xs => D.lst (FH.cut xs l h)) = some d from e)
    obtain ⟨l1, vs, h1, h2, h3⟩ := listOf_rep s (d := .lst xs) (xs := xs') (by simpa [itemsOf, listOf] using e1) r1
    exact lst h1 (SqL.of h2) h3 e2.symm
  | rl xs =>
    obtain ⟨xs', e1, e2⟩ := Option.map_eq_some_iff.mp (show (itemsOf μ (.rl xs)).map (fun xs => D.lst (FH.cut xs l h)) = some d from e)
    simp only [itemsOf, Option.some.injEq] at e1
    subst e1
    simp only [RepV] at r1
    obtain ⟨l1, vs, h1, h2, h3⟩ := r1
    exact lst h1 h2.sq h3 e2.symm
  | ptr p =>
    obtain ⟨xs', e1, e2⟩ := Option.map_eq_some_iff.mp (show (itemsOf μ (.ptr p)).map (fun xs => D.lst (FH.cut xs l h)) = some d from e)
    obtain ⟨l1, vs, h1, h2, h3⟩ := listOf_rep s (d := .ptr p) (xs := xs') (by simp only [itemsOf] at e1; simp only [listOf]; exact e1) r1
    exact lst h1 (SqL.of h2) h3 e2.symm
  | _ => simp [slcV, itemsOf] at e
theorem snd_slc {lo hi : Option Expr} {el eh : E} (ha : PE X a (rdE X.prog X.w X.K g ea)) (hl : PPart X g lo el) (hh : PPart X g hi eh) : PE X (.Subscript a (.Slice lo hi none p2) pos) (rdE X.prog X.w X.K g (.slc ea el eh)) := by
  refine PE.imp (pe_slice sl_any ha hl.po hh.po) fun τ H Q h => ?_
  obtain ⟨α, μ, σ, s, re, h⟩ := h
  simp only [ev] at h
  refine rd1 s re h fun α1 H1 μ1 d1 v1 e1 s1 r1 rv1 h1 => ?_
  refine part_read hl s1 r1 h1 fun α2 H2 μ2 l e2 s2 r2 h2 => ?_
  refine part_read hh s2 r2 h2 fun α3 H3 μ3 h e3 s3 r3 h3 => ?_
  obtain ⟨d, e, h3⟩ := Pst.of h3
  exact ok_slc (τ := τ) s3 (RepV.mono (e2.trans e3) d1 v1 rv1) e fun v H' e4 s4 r4 => h3 α3 H' v e4 s4 r4
/-! and, or, not, if -/
theorem if_pass {b : Bool} {A B : Prop} (h : b = true) (x : A) : if b = true then A else B := by rw [if_pos h]; exact x
theorem snd_and {rest : List Expr} (ha : PE X a (rdE X.prog X.w X.K g ea)) (hb : PE X (.BoolOp .And (b :: rest) pos) (rdE X.prog X.w X.K g eb)) : PE X (.BoolOp .And (a :: b :: rest) pos) (rdE X.prog X.w X.K g (.and ea eb)) := by
  refine PE.imp (pe_and ha hb) fun τ H Q h => ?_
  obtain ⟨α, μ, σ, s, re, h⟩ := h
  simp only [ev] at h
  refine rd1 s re h fun α1 H1 μ1 d1 v1 e1 s1 r1 rv1 h1 => ?_
  cases d1 with
  | bl c =>
    simp only [RepV] at rv1
    refine ⟨c, rv1, ?_⟩
    cases c with
    | true => rw [if_pos rfl]; exact ⟨α1, μ1, σ, s1, r1, h1⟩
    | false => rw [if_neg Bool.false_ne_true]; exact Pst.here h1 s1 (by simp only [RepV])
  | _ => exact h1.elim
theorem snd_or {rest : List Expr} (ha : PE X a (rdE X.prog X.w X.K g ea)) (hb : PE X (.BoolOp .Or (b :: rest) pos) (rdE X.prog X.w X.K g eb)) : PE X (.BoolOp .Or (a :: b :: rest) pos) (rdE X.prog X.w X.K g (.or ea eb)) := by
  refine PE.imp (pe_or ha hb) fun τ H Q h => ?_
  obtain ⟨α, μ, σ, s, re, h⟩ := h
  simp only [ev] at h
  refine rd1 s re h fun α1 H1 μ1 d1 v1 e1 s1 r1 rv1 h1 => ?_
  cases d1 with
  | bl c =>
    simp only [RepV] at rv1
    refine ⟨c, rv1, ?_⟩
    cases c with
    | true => rw [if_pos rfl]; exact Pst.here h1 s1 (by simp only [RepV])
    | false => rw [if_neg Bool.false_ne_true]; exact ⟨α1, μ1, σ, s1, r1, h1⟩
  | _ => exact h1.elim
theorem snd_one {op : BoolOp} (ha : PE X a (rdE X.prog X.w X.K g ea)) : PE X (.BoolOp op [a] pos) (rdE X.prog X.w X.K g ea) := pe_one ha
theorem snd_not (ha : PE X a (rdE X.prog X.w X.K g ea)) : PE X (.UnaryOp .Not a pos) (rdE X.prog X.w X.K g (.not ea)) := by
  refine PE.imp (pe_not ha) fun τ H Q h => ?_
  obtain ⟨α, μ, σ, s, re, h⟩ := h
  simp only [ev] at h
  refine rd1 s re h fun α1 H1 μ1 d1 v1 e1 s1 r1 rv1 h1 => ?_
  cases d1 with
  | bl c =>
    simp only [RepV] at rv1
    exact ⟨c, rv1, Pst.here h1 s1 (by simp only [RepV])⟩
  | _ => exact h1.elim
/-- a test of a value: true or false -/
theorem rdT1 {τ : L2.St} {H : Hp} {α : List Addr} {μ : Store} {σ : Env} {A B : Type} {ρ : List Addr → Hp → A → B → Prop} {f : D → Store → Res A} {Q : B → Hp → Prop} (s : Rs X.prog X.w X.K g α H μ) (r : RepE X.K g.ea α H σ τ)
    (h : Pst X.prog X.w X.K g ρ τ α H ((ev g.cl g.cx ea σ μ).bind f) Q) (hf : ∀ d μ, (∀ b, d ≠ .bl b) → f d μ = .bad) {Q' : Bool → Hp → Prop} (k : ∀ α1 H1 μ1 b, Ext α H α1 H1 → Rs X.prog X.w X.K g α1 H1 μ1 → RepE X.K g.ea α1 H1 σ τ → Pst X.prog X.w X.K g ρ τ α1 H1 (f (.bl b) μ1) Q → Q' b H1) :
    rdT X.prog X.w X.K g ea τ H Q' := by
  refine rd1 s r h fun α1 H1 μ1 d v e1 s1 r1 rv h1 => ?_
  cases d with
  | bl c =>
    simp only [RepV] at rv
    exact ⟨c, rv, k α1 H1 μ1 c e1 s1 r1 h1⟩
  | _ => rw [hf _ _ (fun b => by simp)] at h1; exact h1.elim
theorem snd_ife (hc : PT X c (rdT X.prog X.w X.K g ec)) (ha : PE X a (rdE X.prog X.w X.K g ea)) (hb : PE X b (rdE X.prog X.w X.K g eb)) : PE X (.IfExp c a b pos) (rdE X.prog X.w X.K g (.ife ec ea eb)) := by
  refine PE.imp (pe_ifExp hc ha hb) fun τ H Q h => ?_
  obtain ⟨α, μ, σ, s, re, h⟩ := h
  simp only [ev] at h
  refine rdT1 s re h (fun d μ hd => by cases d <;> first | rfl | exact absurd rfl (hd _)) fun α1 H1 μ1 cc e1 s1 r1 h1 => ?_
  cases cc with
  | true => rw [if_pos rfl]; exact ⟨α1, μ1, σ, s1, r1, h1⟩
  | false => rw [if_neg Bool.false_ne_true]; exact ⟨α1, μ1, σ, s1, r1, h1⟩
/-! as tests -/
theorem rdT_end {τ : L2.St} {α : List Addr} {H : Hp} {μ : Store} {Q : Bool → Hp → Prop} {b : Bool} (h : Pst X.prog X.w X.K g (Rv X.K g) τ α H (.ok (.bl b) μ) fun v H' => ∃ b, v = .bl b ∧ Q b H') (s : Rs X.prog X.w X.K g α H μ) : Q b H := by
  obtain ⟨c, e, q⟩ := Pst.here h s (b := .bl b) (by simp only [RepV])
  cases e
  exact q
theorem snt_and {rest : List Expr} (ha : PT X a (rdT X.prog X.w X.K g ea)) (hb : PW X (.BoolOp .And (b :: rest) pos) (rdT X.prog X.w X.K g eb)) : PW X (.BoolOp .And (a :: b :: rest) pos) (rdT X.prog X.w X.K g (.and ea eb)) := by
  refine ⟨fun whole pins st σ' H Q I h => (pw_and ha hb).run whole pins st σ' H Q I ?_⟩
  obtain ⟨α, μ, σ, s, re, h⟩ := h
  simp only [ev] at h
  refine rdT1 s re h (fun d μ hd => by cases d <;> first | rfl | exact absurd rfl (hd _)) fun α1 H1 μ1 cc e1 s1 r1 h1 => ?_
  cases cc with
  | true => rw [if_pos rfl]; exact ⟨α1, μ1, σ, s1, r1, h1⟩
  | false => rw [if_neg Bool.false_ne_true]; exact rdT_end h1 s1
theorem snt_or {rest : List Expr} (ha : PT X a (rdT X.prog X.w X.K g ea)) (hb : PW X (.BoolOp .Or (b :: rest) pos) (rdT X.prog X.w X.K g eb)) : PW X (.BoolOp .Or (a :: b :: rest) pos) (rdT X.prog X.w X.K g (.or ea eb)) := by
  refine ⟨fun whole pins st σ' H Q I h => (pw_or ha hb).run whole pins st σ' H Q I ?_⟩
  obtain ⟨α, μ, σ, s, re, h⟩ := h
  simp only [ev] at h
  refine rdT1 s re h (fun d μ hd => by cases d <;> first | rfl | exact absurd rfl (hd _)) fun α1 H1 μ1 cc e1 s1 r1 h1 => ?_
  cases cc with
  | true => rw [if_pos rfl]; exact rdT_end h1 s1
  | false => rw [if_neg Bool.false_ne_true]; exact ⟨α1, μ1, σ, s1, r1, h1⟩
theorem snt_not (ha : PT X a (rdT X.prog X.w X.K g ea)) : PT X (.UnaryOp .Not a pos) (rdT X.prog X.w X.K g (.not ea)) := by
  refine PT.imp (pt_not ha) fun τ H Q h => ?_
  obtain ⟨α, μ, σ, s, re, h⟩ := h
  simp only [ev] at h
  refine rdT1 s re h (fun d μ hd => by cases d <;> first | rfl | exact absurd rfl (hd _)) fun α1 H1 μ1 cc e1 s1 r1 h1 => ?_
  exact rdT_end h1 s1
/-- a form whose test is its value's truth -/
def plainT : Expr → Bool
  | .UnaryOp .Not _ _ => false
  | .BoolOp _ _ _ => false
  | .IfExp _ _ _ _ => false
  | .Compare _ _ _ _ => false
  | _ => true
theorem snt_val (h : PE X a (rdE X.prog X.w X.K g ea)) (hp : plainT a = true) : PT X a (rdT X.prog X.w X.K g ea) := by
  refine pt_val h fun whole => ?_
  cases a with
  | UnaryOp op x p => cases op <;> first | rfl | exact (Bool.false_ne_true hp).elim
  | _ => first | rfl | exact (Bool.false_ne_true hp).elim
end
end FH

set_option maxHeartbeats 1000000
/-! New lists: by value, or as things of the store. -/
namespace FH
open PySem PySem.Spec PyProof.Rows L2
/-- another way to bear the same values -/
structure Chg (K : PySem.W.Frag) (ea : Rm) (α : List Addr) (H : Hp) (ea' : Rm) (α' : List Addr) (H' : Hp) : Prop where
  e1 : ea.1 = ea'.1
  ptr : ∀ (p : Nat) (a : Addr), α[p]? = some a → α'[p]? = some a
  tup : ∀ a vs, TupAt K α H a vs → TupAt K α' H' a vs
  rol : ∀ a vs, RolAt K α H a vs → RolAt K α' H' a vs
  lst : ∀ a vs, H a = some (.lst vs) → a ∉ α → a ∉ ea.2 → H' a = some (.lst vs) ∧ a ∉ α' ∧ a ∉ ea'.2
  xd : ∀ a fs, H a = some (.xd fs) → a ∉ α → H' a = some (.xd fs) ∧ a ∉ α'
section
variable {P : Program} {w : World} {K : PySem.W.Frag} {ea ea' : Rm} {rc : Addr} {α α' : List Addr} {H H' : Hp} {μ : Store}
mutual
theorem RepV.chg (e : Chg K ea α H ea' α' H') : ∀ (d : D) (v : V), RepV K ea α H d v → RepV K ea' α' H' d v
  | .non, v, h => by simpa only [RepV] using h
  | .bl b, v, h => by simpa only [RepV] using h
  | .int i, v, h => by simpa only [RepV] using h
  | .str s, v, h => by simpa only [RepV] using h
  | .tup xs, v, h => by
    simp only [RepV] at h ⊢
    obtain ⟨a, vs, h1, h2, h3⟩ := h
    exact ⟨a, vs, h1, e.tup _ _ h2, RepVs.chg e xs vs h3⟩
  | .lst xs, v, h => by
    simp only [RepV] at h ⊢
    obtain ⟨a, vs, h1, h2, h3, h5, h4⟩ := h
    obtain ⟨g1, g2, g3⟩ := e.lst _ _ h2 h3 h5
    exact ⟨a, vs, h1, g1, g2, g3, RepVs.chg e xs vs h4⟩
  | .ptr p, v, h => by
    simp only [RepV] at h ⊢
    obtain ⟨a, h1, h2⟩ := h
    exact ⟨a, e.ptr _ _ h1, h2⟩
  | .rl xs, v, h => by
    simp only [RepV] at h ⊢
    obtain ⟨a, vs, h1, h2, h3⟩ := h
    exact ⟨a, vs, h1, e.rol _ _ h2, RepVs.chg e xs vs h3⟩
  | .exn, v, h => by simp only [RepV] at h
  | .clo _ _, v, h => by simp only [RepV] at h
theorem RepVs.chg (e : Chg K ea α H ea' α' H') : ∀ (ds : List D) (vs : List V), RepVs K ea α H ds vs → RepVs K ea' α' H' ds vs
  | [], vs, h => by simpa only [RepVs] using h
  | d :: ds, vs, h => by
    simp only [RepVs] at h ⊢
    obtain ⟨v, r, h1, h2, h3⟩ := h
    exact ⟨v, r, h1, RepV.chg e d v h2, RepVs.chg e ds r h3⟩
end
theorem RepFs.chg (e : Chg K ea α H ea' α' H') : ∀ {fs : List (Fld × D)} {gs : List (Str × V)}, RepFs K ea α H fs gs → RepFs K ea' α' H' fs gs
  | [], gs, h => h
  | (f, d) :: r, gs, h => by
    obtain ⟨v, q, h1, h2, h3⟩ := h
    exact ⟨v, q, h1, RepV.chg e d v h2, RepFs.chg e h3⟩
theorem RepKv.chg (e : Chg K ea α H ea' α' H') : ∀ {kvs : List (D × D)} {xs : List (NestedKey × Addr × Value)}, RepKv K ea α H kvs xs → RepKv K ea' α' H' kvs xs
  | [], xs, h => h
  | (k, d) :: r, xs, h => by
    obtain ⟨n, b, u, v, q, h1, h2, h3, h4, h5, h6⟩ := h
    exact ⟨n, b, u, v, q, h1, h2, RepV.chg e k _ h3, h4, RepV.chg e d v h5, RepKv.chg e h6⟩
theorem RepO.chg {a : Addr} {o : O} (e : Chg K ea α H ea' α' H') (h : RepO P w K ea rc α H a o) (ha : H' a = H a) : RepO P w K ea' rc α' H' a o := by
  cases o with
  | lst ds => obtain ⟨vs, h, r⟩ := h; exact ⟨vs, ha.trans h, RepVs.chg e _ _ r⟩
  | dic kvs => obtain ⟨xs, h, nn, r⟩ := h; exact ⟨xs, ha.trans h, nn, r.chg e⟩
  | ins fs => obtain ⟨dx, gs, h, r⟩ := h; exact ⟨dx, gs, ha.trans h, r.chg e⟩
theorem XOk.chg (e : Chg K ea α H ea' α' H') {σ : Env} {τ : L2.St} (h : XOk K ea α H σ τ) : XOk K ea' α' H' σ τ := by
  unfold XOk at h ⊢
  rw [← e.e1]
  split at h
  · trivial
  · rename_i x q
    refine ⟨h.1, h.2.1, ?_⟩
    have h3 := h.2.2
    split at h3
    · first | trivial | (rename_i hq; rw [hq]; trivial)
    · obtain ⟨v, h4, h5, h6⟩ := h3
      obtain ⟨h7, h8⟩ := e.xd _ _ h4 h5
      exact ⟨v, h7, h8, RepV.chg e _ _ h6⟩
theorem RepE.chg (e : Chg K ea α H ea' α' H') {σ : Env} {τ : L2.St} (h : RepE K ea α H σ τ) : RepE K ea' α' H' σ τ :=
  ⟨h.len, fun i d q => by
    obtain ⟨v, h1, h2⟩ := h.at_ i d q
    exact ⟨v, h1, RepV.chg e d v h2⟩, h.xo.chg e⟩
/-- a list that is being made is told no more -/
theorem Chg.drop {e0 : Option Xc} {p : Addr} {ξ : List Addr} : Chg K (e0, p :: ξ) α H (e0, ξ) α H :=
  ⟨rfl, fun _ _ h => h, fun _ _ h => h, fun _ _ h => h, fun a vs h1 h2 h3 => ⟨h1, h2, fun hm => h3 (List.mem_cons_of_mem _ hm)⟩, fun a fs h n => ⟨h, n⟩⟩
theorem RepS.xdrop {e0 : Option Xc} {p : Addr} {ξ : List Addr} (S : RepS P w K (e0, p :: ξ) rc α H μ) : RepS P w K (e0, ξ) rc α H μ :=
  ⟨S.len, S.nd, fun q a o h1 h2 => (S.at_ q a o h1 h2).chg Chg.drop rfl, fun a ha => S.xi a (List.mem_cons_of_mem _ ha)⟩
/-- a new list that is being made -/
theorem Chg.new {e0 : Option Xc} {p : Addr} {ξ : List Addr} {o : HO} (h : H p = none) : Chg K (e0, ξ) α H (e0, p :: ξ) α (upd H p o) := by
  have hn : ∀ {a u}, H a = some u → a ≠ p := fun e => ne_of_none e h
  refine ⟨rfl, fun _ _ h => h, fun a vs ht => ?_, fun a vs ht => ?_, fun a vs h1 h2 h3 => ⟨by rw [upd_ne (hn h1)]; exact h1, h2, fun hm => ?_⟩, fun a fs h n => ⟨by rw [upd_ne (hn h)]; exact h, n⟩⟩
  · rcases ht with ⟨ht | ⟨ob, ht⟩, n⟩ | ht
    · exact .inl ⟨.inl (by rw [upd_ne (hn ht)]; exact ht), n⟩
    · exact .inl ⟨.inr ⟨ob, by rw [upd_ne (hn ht)]; exact ht⟩, n⟩
    · exact .inr ht
  · rcases ht with ⟨⟨ob, ht⟩, n⟩ | ht
    · exact .inl ⟨⟨ob, by rw [upd_ne (hn ht)]; exact ht⟩, n⟩
    · exact .inr ht
  · rcases List.mem_cons.mp hm with rfl | hm
    · exact hn h1 rfl
    · exact h3 hm
theorem RepS.xnew {e0 : Option Xc} {p : Addr} {ξ : List Addr} {o : HO} (S : RepS P w K (e0, ξ) rc α H μ) (h : H p = none) : RepS P w K (e0, p :: ξ) rc α (upd H p o) μ := by
  refine ⟨S.len, S.nd, fun q a ob h1 h2 => ?_, fun a ha => ?_⟩
  · have r := S.at_ q a ob h1 h2
    obtain ⟨u, e⟩ := r.some_
    exact r.chg (Chg.new h) (upd_ne (ne_of_none e h))
  · rcases List.mem_cons.mp ha with rfl | ha
    · exact ⟨⟨o, upd_same⟩, S.fresh h⟩
    · exact S.xiE (Ext.new S h) a ha
/-- a list that was made becomes a thing of the store -/
theorem Chg.own {e0 : Option Xc} {p : Addr} {ξ : List Addr} {vs : List V} (h : H p = some (.lst vs)) : Chg K (e0, p :: ξ) α H (e0, ξ) (α ++ [p]) H := by
  have app : ∀ {a}, a ∉ α → a ≠ p → a ∉ α ++ [p] := fun n1 n2 hm => by
    rcases List.mem_append.mp hm with hm | hm
    · exact n1 hm
    · exact n2 (List.mem_singleton.mp hm)
  refine ⟨rfl, fun q a e => ?_, fun a vs' ht => ?_, fun a vs' ht => ?_, fun a vs' h1 h2 h3 => ⟨h1, app h2 (fun e => h3 (by rw [e]; exact List.mem_cons_self)), fun hm => h3 (List.mem_cons_of_mem _ hm)⟩, fun a fs h1 n => ⟨h1, app n (ne_of h1 h (by intro z; cases z))⟩⟩
  · rw [List.getElem?_append_left (List.getElem?_eq_some_iff.mp e).1]; exact e
  · rcases ht with ⟨ht | ⟨ob, ht⟩, n⟩ | ht
    · exact .inl ⟨.inl ht, app n (ne_of ht h (by intro z; cases z))⟩
    · exact .inl ⟨.inr ⟨ob, ht⟩, app n (ne_of ht h (by intro z; cases z))⟩
    · exact .inr ht
  · rcases ht with ⟨⟨ob, ht⟩, n⟩ | ht
    · exact .inl ⟨⟨ob, ht⟩, app n (ne_of ht h (by intro z; cases z))⟩
    · exact .inr ht
theorem RepS.xown {e0 : Option Xc} {p : Addr} {ξ : List Addr} {vs : List V} {xs : List D} (S : RepS P w K (e0, p :: ξ) rc α H μ) (h : H p = some (.lst vs)) (hr : RepVs K (e0, p :: ξ) α H xs vs) (hx : p ∉ ξ) : RepS P w K (e0, ξ) rc (α ++ [p]) H (μ ++ [.lst xs]) := by
  have hp : p ∉ α := (S.xi p List.mem_cons_self).2
  refine ⟨by simp [S.len], List.nodup_append.mpr ⟨S.nd, by simp, fun x hx y hy => by rintro rfl; rw [List.mem_singleton.mp hy] at hx; exact hp hx⟩, fun q b ob' h1 h2 => ?_, fun a ha => ?_⟩
  · by_cases e : q < α.length
    · rw [List.getElem?_append_left e] at h1
      rw [List.getElem?_append_left (by rw [← S.len]; exact e)] at h2
      exact (S.at_ q b ob' h1 h2).chg (Chg.own h) rfl
    · rw [List.getElem?_append_right (by omega)] at h1
      rw [List.getElem?_append_right (by rw [← S.len]; omega), ← S.len] at h2
      have e0 : q - α.length = 0 := by
        have := (List.getElem?_eq_some_iff.mp h1).1
        simp at this; omega
      rw [e0] at h1 h2
      simp at h1 h2
      subst h1; subst h2
      exact ⟨vs, h, RepVs.chg (Chg.own h) _ _ hr⟩
  · obtain ⟨h1, h2⟩ := S.xi a (List.mem_cons_of_mem _ ha)
    refine ⟨h1, fun hm => ?_⟩
    rcases List.mem_append.mp hm with hm | hm
    · exact h2 hm
    · rw [List.mem_singleton.mp hm] at ha; exact hx ha
end
section
variable (P : Program) (w : World) (K : PySem.W.Frag) (g : Gx)
/-- what is wanted behind a new list -/
def PstL (τ : L2.St) (α : List Addr) (H : Hp) (r : Res D) (Q : VK) : Prop :=
  match r with
  | .ok (.lst xs) μ' => ∀ α' H' p vs, Ext α H α' H' → RepS P w K (g.ea.1, p :: g.ea.2) g.T.rc α' H' μ' → H p = none → H' p = some (.lst vs) → RepVs K (g.ea.1, p :: g.ea.2) α' H' xs vs → Q (.ref p) H'
  | .ok _ _ => False
  | .exc c d μ' => ∀ α' H' cv dd, Ext α H α' H' → Rs P w K g α' H' μ' → RepX K g.T g.ea α' H' c d cv dd → g.W cv dd τ H'
  | .bad => False
def rdF (e : E) : TE := fun τ H Q => ∃ α μ σ, Rs P w K g α H μ ∧ RepE K g.ea α H σ τ ∧ PstL P w K g τ α H (ev g.cl g.cx e σ μ) Q
end
section
variable {X : Cx} {g : Gx} {pos p2 : Pos} {a b c : Expr} {e ea eb ec : E}
theorem val_read (hl : ∀ σ μ d μ', ev g.cl g.cx e σ μ = .ok d μ' → ∃ xs, d = .lst xs) {τ : L2.St} {H : Hp} {Q : VK} (h : rdE X.prog X.w X.K g e τ H Q) : rdF X.prog X.w X.K g e τ H Q := by
  obtain ⟨α, μ, σ, s, re, h⟩ := h
  refine ⟨α, μ, σ, s, re, ?_⟩
  revert h
  cases q : ev g.cl g.cx e σ μ with
  | ok d μ1 =>
    obtain ⟨xs, rfl⟩ := hl _ _ _ _ q
    intro h α' H' p vs e1 s1 hp hp' hr
    refine h α' H' _ e1 s1.xdrop ?_
    simp only [RepV]
    exact ⟨p, vs, rfl, hp', (s1.xi p List.mem_cons_self).2, s.freshX hp, RepVs.chg Chg.drop _ _ hr⟩
  | exc c d μ1 => exact fun h => h
  | bad => exact fun h => h
theorem fresh_val (hl : ∀ σ μ d μ', ev g.cl g.cx e σ μ = .ok d μ' → ∃ xs, d = .lst xs) (h : PE X a (rdF X.prog X.w X.K g e)) : PE X a (rdE X.prog X.w X.K g e) := PE.imp h fun τ H Q h => val_read hl h
theorem ref_read {τ : L2.St} {H : Hp} {Q : VK} (h : rdE X.prog X.w X.K g (.ref e) τ H Q) : rdF X.prog X.w X.K g e τ H Q := by
  obtain ⟨α, μ, σ, s, re, h⟩ := h
  refine ⟨α, μ, σ, s, re, ?_⟩
  simp only [ev] at h
  revert h
  cases q : ev g.cl g.cx e σ μ with
  | ok d μ1 =>
    cases d with
    | lst xs =>
      intro h α' H' p vs e1 s1 hp hp' hr
      have hx : p ∉ g.ea.2 := s.freshX hp
      have hnp : p ∉ α' := (s1.xi p List.mem_cons_self).2
      refine h (α' ++ [p]) H' _ ?_ (s1.xown hp' hr hx) ?_
      · obtain ⟨more, em⟩ := e1.pre
        refine ⟨⟨more ++ [p], by rw [em, List.append_assoc]⟩, fun b o hb nb => ?_⟩
        obtain ⟨g1, g2⟩ := e1.frame b o hb nb
        refine ⟨g1, fun hm => ?_⟩
        rcases List.mem_append.mp hm with hm | hm
        · exact g2 hm
        · rw [List.mem_singleton.mp hm, hp] at hb; cases hb
      · simp only [RepV]
        refine ⟨p, ?_, rfl⟩
        rw [← s1.len, List.getElem?_append_right (Nat.le_refl _)]
        simp
    | _ => exact fun h => h
  | exc c d μ1 => exact fun h => h
  | bad => exact fun h => h
theorem fresh_ref (h : PE X a (rdF X.prog X.w X.K g e)) : PE X a (rdE X.prog X.w X.K g (.ref e)) := PE.imp h fun τ H Q h => ref_read h
/-- a list of written items -/
theorem snd_lstF {es : Es} {elts : List Expr} (h : PA X elts (rdA X.prog X.w X.K g es)) (hn : elts.length ≤ 1000) (hl : ∀ σ μ ds μ', evs g.cl g.cx es σ μ = .ok ds μ' → ds.length = elts.length) : PE X (.List elts pos) (rdF X.prog X.w X.K g (.lst es)) := by
  refine PE.imp (pe_lst h) fun τ H Q h => ?_
  obtain ⟨α, μ, σ, s, r, h⟩ := h
  refine ⟨α, μ, σ, s, r, ?_⟩
  simp only [ev] at h
  revert h
  cases q : evs g.cl g.cx es σ μ with
  | ok ds μ1 =>
    intro h α1 H1 vs e1 s1 r1
    have hlen : vs.length ≤ 1000 := by rw [r1.len, hl _ _ _ _ q]; exact hn
    refine ⟨Nat.le_of_lt (small1000 hlen), fun p hp => ?_⟩
    have hp0 : H p = none := by
      cases hq : H p with
      | none => rfl
      | some u =>
        by_cases hm : p ∈ α
        · obtain ⟨more, em⟩ := e1.pre
          exact absurd (show p ∈ α1 by rw [em]; exact List.mem_append_left _ hm) (s1.fresh hp)
        · rw [(e1.frame p u hq hm).1] at hp; cases hp
    exact h α1 _ p vs (e1.trans (Ext.new s1 hp)) (s1.xnew hp) hp0 upd_same (RepVs.chg (Chg.new hp) _ _ r1)
  | exc c d μ1 => exact fun h => h
  | bad => exact fun h => h
theorem Ext.none_back {P : Program} {w : World} {K : PySem.W.Frag} {ea : Rm} {rc : Addr} {α α' : List Addr} {H H' : Hp} {μ : Store} (e : Ext α H α' H') (s : RepS P w K ea rc α' H' μ) {p : Addr} (hp : H' p = none) : H p = none := by
  cases hq : H p with
  | none => rfl
  | some u =>
    by_cases hm : p ∈ α
    · obtain ⟨more, em⟩ := e.pre
      exact absurd (show p ∈ α' by rw [em]; exact List.mem_append_left _ hm) (s.fresh hp)
    · rw [(e.frame p u hq hm).1] at hp; cases hp
theorem snd_dnew : PE X (.Dict [] [] pos) (rdE X.prog X.w X.K g .dnew) := by
  refine PE.imp pe_dnewD fun τ H Q h => ?_
  obtain ⟨α, μ, σ, s, r, h⟩ := h
  simp only [ev] at h
  intro p hp
  refine h (α ++ [p]) _ _ (Ext.alloc s hp) (s.alloc hp ⟨[], upd_same, List.nodup_nil, rfl⟩) ?_
  simp only [RepV]
  refine ⟨p, ?_, rfl⟩
  rw [← s.len, List.getElem?_append_right (Nat.le_refl _)]
  simp
end
end FH

set_option maxHeartbeats 1000000
/-! Built-in functions. -/
namespace FH
open PySem PySem.Spec PyProof.Rows L2
theorem star_any : ∀ {es : List Expr} (h : es.all plainE = true) (pos : Pos) (env : PySem.Env), (backTo pos (starEach es env)).any (·.1) = false
  | [], _, _, _ => rfl
  | e :: es, h, pos, env => by
    rw [List.all_cons, Bool.and_eq_true] at h
    rw [star_of h.1]
    show ((backTo pos ((false, eval e env) :: starEach es env)).any (·.1)) = false
    have ih := star_any h.2 pos env
    unfold backTo at ih ⊢
    rw [List.map_cons, List.any_cons, ih]
    rfl
/-! ### order of texts -/
theorem leCodes_refl : ∀ a : List Nat, leCodes a a = true
  | [] => rfl
  | x :: a => by simp [leCodes, leCodes_refl a]
theorem leCodes_anti : ∀ a b : List Nat, leCodes a b = true → leCodes b a = true → a = b
  | [], [], _, _ => rfl
  | [], _ :: _, _, h => by simp [leCodes] at h
  | _ :: _, [], h, _ => by simp [leCodes] at h
  | x :: a, y :: b, h, h' => by
    unfold leCodes at h h'
    by_cases e : x = y
    · subst e
      rw [if_pos rfl] at h h'
      rw [leCodes_anti a b h h']
    · rw [if_neg e] at h
      rw [if_neg (Ne.symm e)] at h'
      have := of_decide_eq_true h
      have := of_decide_eq_true h'
      omega
theorem leCodes_total : ∀ a b : List Nat, leCodes a b = true ∨ leCodes b a = true
  | [], _ => .inl rfl
  | _ :: _, [] => .inr rfl
  | x :: a, y :: b => by
    unfold leCodes
    by_cases e : x = y
    · subst e
      rw [if_pos rfl, if_pos rfl]
      exact leCodes_total a b
    · rw [if_neg e, if_neg (Ne.symm e)]
      by_cases h : x < y
      · exact .inl (decide_eq_true h)
      · exact .inr (decide_eq_true (by omega))
theorem leCodes_trans : ∀ a b c : List Nat, leCodes a b = true → leCodes b c = true → leCodes a c = true
  | [], _, _, _, _ => by simp [leCodes]
  | _ :: _, [], _, h, _ => by simp [leCodes] at h
  | _ :: _, _ :: _, [], _, h => by simp [leCodes] at h
  | x :: a, y :: b, z :: c, h, h' => by
    unfold leCodes at h h' ⊢
    by_cases e : x = y
    · subst e
      rw [if_pos rfl] at h
      by_cases e2 : x = z
      · subst e2
        rw [if_pos rfl] at h' ⊢
        exact leCodes_trans a b c h h'
      · rw [if_neg e2] at h' ⊢
        exact h'
    · rw [if_neg e] at h
      have h1 := of_decide_eq_true h
      by_cases e2 : y = z
      · subst e2
        rw [if_neg e]
        exact h
      · rw [if_neg e2] at h'
        have h2 := of_decide_eq_true h'
        rw [if_neg (by omega)]
        exact decide_eq_true (by omega)
/-- not y < x -/
theorem ltCps_le (x y : List Nat) : ltCps y x = false ↔ leCodes x y = true := by
  rw [ltCps_eq]
  have key : ∀ x y : List Nat, decide (y < x) = !leCodes x y := by
    intro x
    induction x with
    | nil => intro y; simp [leCodes]
    | cons a x ih =>
      intro y
      cases y with
      | nil => simp [leCodes]
      | cons b y =>
        unfold leCodes
        by_cases e : a = b
        · subst e
          rw [if_pos rfl, ← ih y]
          congr 1
          rw [List.cons_lt_cons_iff]
          simp
        · rw [if_neg e]
          have : (b :: y < a :: x) ↔ ¬ a < b := by
            rw [List.cons_lt_cons_iff]
            constructor
            · rintro (h | ⟨h, _⟩) <;> omega
            · intro h; left; omega
          by_cases h : a < b
          · rw [decide_eq_false (fun q => this.mp q h), decide_eq_true h]; rfl
          · rw [decide_eq_true (this.mpr h), decide_eq_false h]; rfl
  rw [key]
  simp
theorem insBy_perm {A : Type} (le : A → A → Bool) (x : A) : ∀ l : List A, (insBy le x l).Perm (x :: l)
  | [] => List.Perm.refl _
  | y :: r => by
    unfold insBy
    split
    · exact List.Perm.refl _
    · exact ((insBy_perm le x r).cons y).trans (List.Perm.swap x y r)
theorem sortBy_perm {A : Type} (le : A → A → Bool) : ∀ l : List A, (sortBy le l).Perm l
  | [] => List.Perm.refl _
  | x :: r => (insBy_perm le x _).trans ((sortBy_perm le r).cons x)
theorem insBy_sorted {A : Type} {le : A → A → Bool} (tot : ∀ a b, le a b = true ∨ le b a = true) (tr : ∀ a b c, le a b = true → le b c = true → le a c = true) (x : A) : ∀ l : List A, l.Pairwise (fun a b => le a b = true) → (insBy le x l).Pairwise (fun a b => le a b = true)
  | [], _ => by simp [insBy]
  | y :: r, h => by
    unfold insBy
    split
    · rename_i hx
      refine List.pairwise_cons.mpr ⟨fun z hz => ?_, h⟩
      rcases List.mem_cons.mp hz with rfl | hz
      · exact hx
      · exact tr _ _ _ hx ((List.pairwise_cons.mp h).1 z hz)
    · rename_i hx
      refine List.pairwise_cons.mpr ⟨fun z hz => ?_, insBy_sorted tot tr x r (List.pairwise_cons.mp h).2⟩
      rcases List.mem_cons.mp ((insBy_perm le x r).mem_iff.mp hz) with rfl | hz
      · rcases tot z y with h1 | h1
        · exact absurd h1 hx
        · exact h1
      · exact (List.pairwise_cons.mp h).1 z hz
theorem sortBy_sorted {A : Type} {le : A → A → Bool} (tot : ∀ a b, le a b = true ∨ le b a = true) (tr : ∀ a b c, le a b = true → le b c = true → le a c = true) : ∀ l : List A, (sortBy le l).Pairwise (fun a b => le a b = true)
  | [] => List.Pairwise.nil
  | x :: r => insBy_sorted tot tr x _ (sortBy_sorted tot tr r)
theorem sorted_unique {A : Type} {le : A → A → Bool} (anti : ∀ a b, le a b = true → le b a = true → a = b) : ∀ {l m : List A}, l.Perm m → l.Pairwise (fun a b => le a b = true) → m.Pairwise (fun a b => le a b = true) → l = m
  | [], m, p, _, _ => (List.nil_perm.mp p).symm
  | x :: l, [], p, _, _ => (List.perm_nil.mp p)
  | x :: l, y :: m, p, h, h' => by
    have e : x = y := by
      by_cases e : x = y
      · exact e
      · have h1 : x ∈ m := by
          rcases List.mem_cons.mp (p.mem_iff.mp List.mem_cons_self) with h | h
          · exact absurd h e
          · exact h
        have h2 : y ∈ l := by
          rcases List.mem_cons.mp (p.mem_iff.mpr List.mem_cons_self) with h | h
          · exact absurd h.symm e
          · exact h
        exact anti _ _ ((List.pairwise_cons.mp h).1 y h2) ((List.pairwise_cons.mp h').1 x h1)
    subst e
    rw [sorted_unique anti (List.perm_cons x |>.mp p) (List.pairwise_cons.mp h).2 (List.pairwise_cons.mp h').2]
theorem risingS_pairwise : ∀ (p : Str) (l : List Str), risingS p l = true → (p :: l).Pairwise (fun a b => leCodes a.cps.toList b.cps.toList = true)
  | p, [], _ => by simp
  | p, x :: r, h => by
    have h' : (!ltCps x.cps.toList p.cps.toList && risingS x r) = true := h
    rw [Bool.and_eq_true] at h'
    have ih := risingS_pairwise x r h'.2
    have hpx : leCodes p.cps.toList x.cps.toList = true := (ltCps_le _ _).mp (by simpa using h'.1)
    refine List.pairwise_cons.mpr ⟨fun z hz => ?_, ih⟩
    rcases List.mem_cons.mp hz with rfl | hz
    · exact hpx
    · exact leCodes_trans _ _ _ hpx ((List.pairwise_cons.mp ih).1 z hz)
theorem sortedS_pairwise : ∀ (l : List Str), sortedS l = true → l.Pairwise (fun a b => leCodes a.cps.toList b.cps.toList = true)
  | [], _ => List.Pairwise.nil
  | p :: l, h => risingS_pairwise p l h
theorem sorted_is {ss : List (List Nat)} {ys : List Str} (hp : ys.Perm (ss.map fun s => (⟨s.toArray⟩ : Str))) (hs : sortedS ys = true) : ys = (sortBy leCodes ss).map fun s => (⟨s.toArray⟩ : Str) := by
  have h1 : (ys.map fun y => y.cps.toList).Perm ss := by
    have := hp.map (fun y : Str => y.cps.toList)
    rw [List.map_map] at this
    have e : ss.map ((fun y : Str => y.cps.toList) ∘ fun s => (⟨s.toArray⟩ : Str)) = ss := by
      have : ((fun y : Str => y.cps.toList) ∘ fun s => (⟨s.toArray⟩ : Str)) = id := by funext s; simp
      rw [this, List.map_id]
    rwa [e] at this
  have h2 : (ys.map fun y => y.cps.toList).Pairwise (fun a b => leCodes a b = true) := List.pairwise_map.mpr (sortedS_pairwise ys hs)
  have h3 := sorted_unique leCodes_anti (h1.trans (sortBy_perm leCodes ss).symm) h2 (sortBy_sorted leCodes_total leCodes_trans ss)
  rw [← h3, List.map_map]
  have : ((fun s : List Nat => (⟨s.toArray⟩ : Str)) ∘ fun y : Str => y.cps.toList) = id := by funext s; simp
  rw [this, List.map_id]
/-! ### rules at tuples -/
theorem sorted_strsT {prog : Program} {w : World} {A : Around} {E : Value → Shared → Prop} {s : Shared} {l : Addr} {vs : List Value} {ss : List Str} {Q : Value → Shared → Prop} (hl : IsTup s.heap l vs.toArray) (hS : StrsAre vs ss) (h64 : vs.length < 64)
    (h : ∀ (h1 h' : Heap) (out : Array Value) (ss' : List Str) (ep : Nat), (∀ b o, s.heap.get? b = some o → h1.get? b = some o) → (∀ b o, h1.get? b = some o → h'.get? b = some o) → h'.get? h1.objs.size = some (seqObj "list" out ep) → StrsAre out.toList ss' → ss'.Perm ss → sortedS ss' = true → Q (.ref h1.objs.size) { s with heap := h' }) :
    wpAny (model prog w) A (call (.builtin "sorted") [.ref l]) Q E s := by
  obtain ⟨o, ho, hc, n, hd⟩ := hl
  have hsz0 : vs.length ≤ sizeLine := Nat.le_trans (Nat.le_of_lt h64) (by decide)
  refine Calls.call_function_entry kind_sorted plain_sorted entry_sorted (args_sorted1 _) ?_
  unfold Builtin.«sorted»
  refine wpAny_bind (m := checkCount "sorted" 1 1 _) (wpAny_pure ?_)
  refine wpAny_bind (wpAny_collect_seq l (.inr rfl) ho hc hd (fun h1 k1 => ?_) (by simpa using hsz0))
  refine wpAny_bind (wpAny_newList ?_)
  have e0 : (vs.toArray.toList) = vs := by simp
  rw [e0]
  have hoL : (h1.push (seqObj "list" vs.toArray 0)).get? h1.objs.size = some (seqObj "list" vs.toArray 0) := Heap.get?_push_size _ rfl
  show wpAny _ _ _ _ _ { s with heap := h1.push (seqObj "list" vs.toArray 0) }
  refine wpAny_bind (wpAny_holding (wpAny_call_entry slot_list_sort ⟨_, hoL, rfl⟩ entry_list_sort (list_sort_treeK strKind_oneLt hoL hS.keysOf (fun v₁ v₂ rest e => keyKind_strs (by rw [← e]; exact hS)) h64 fun st' a1 a2 => ⟨_, rfl, ?_⟩) (args_list_sort _)))
  obtain ⟨ss', b1, b2, b3⟩ := sorted_out_str hS a1 a2
  obtain ⟨ep, he⟩ := sortedHeap_at (out := ((arrOf st').map (·.2))) hoL
  refine wpAny_pure ⟨_, rfl, h h1 _ _ ss' ep k1 (fun b ob e => ?_) he b1 b2 b3⟩
  have hb : b < h1.objs.size := Heap.lt_size e
  rw [sortedHeap_old (Nat.ne_of_lt hb) (by rw [size_push']; exact Nat.lt_succ_of_lt hb), Heap.get?_push_ne _ _ _ (Nat.ne_of_lt hb)]
  exact e
/-- sorted(t), a tuple of texts -/
def rSortedST (K : PySem.W.Frag) : List V → Hp → VK → Prop := fun vs H Q => ∃ (a : Addr) (xs : List Str), vs = [V.ref a] ∧ SqT K H a (xs.map V.str) ∧ xs.length < 64 ∧
  ∀ (ys : List Str) (p : Addr), ys.Perm xs → sortedS ys = true → H p = none → Q (.ref p) (upd H p (.lst (ys.map V.str)))
theorem strs_of : ∀ {xs : List Str} {us : List Value}, Vals (xs.map V.str) us → StrsAre us xs
  | [], us, h => by rw [List.map_nil] at h; cases h; exact StrsAre.nil
  | x :: xs, us, h => by
    rw [List.map_cons] at h
    cases h with
    | cons r t =>
      obtain ⟨k, rfl⟩ := r
      exact StrsAre.cons _ _ (strs_of t)
theorem cr_sortedST {X : Cx} : CallR X (.builtin "sorted") (rSortedST X.K) := by
  intro pins s σ H vs us Q I r h
  obtain ⟨a, xs, rfl, hs, h64, q⟩ := h
  obtain ⟨its, rv, hl, _⟩ := I.tuple hs
  rw [Vals.ref1 r]
  have hlen0 := rv.length
  rw [List.length_map] at hlen0
  refine sorted_strsT hl (strs_of rv) (by rw [← hlen0]; exact h64) fun h1 h' out ys ep k1 k2 he b1 b2 b3 => ?_
  have I1 : Inv X pins σ H { s with heap := h1 } := I.kept (t' := s.toks) k1
  have hlen : (ys.map V.str).length ≤ sizeLine := by rw [List.length_map, b2.length_eq]; exact small64 h64
  exact ⟨.ref _, upd H h1.objs.size (.lst (ys.map V.str)), I1.laid (t' := s.toks) k2 (Nat.le_refl _) ⟨hlen, out.toList, ep, vals_of_strs b1, he⟩, rfl, q ys _ b2 b3 (I1.hok.fresh (Nat.le_refl _))⟩
/-- min(t), a tuple of two ints -/
theorem min_tup2 {prog : Program} {w : World} {A : Around} {E : Value → Shared → Prop} {s : Shared} {l : Addr} {a b : Int} {t u : Tok} {Q : Value → Shared → Prop} (hh : A.handled = none) (hl : IsTup s.heap l #[.int a t, .int b u])
    (h : ∀ h' tk tk', (∀ c o, s.heap.get? c = some o → h'.get? c = some o) → Q (.int (if b < a then b else a) tk') { s with heap := h', toks := tk }) :
    wpAny (model prog w) A (call (.builtin "min") [.ref l]) Q E s := by
  have hT : s.heap.IsTuple l (intItems #[(a, t), (b, u)]) := by
    obtain ⟨o, h1, h2, n, h3⟩ := hl
    exact ⟨o, h1, h2, n, by simpa [intItems] using h3⟩
  have hlt : l < s.heap.objs.size := by obtain ⟨_, e, _⟩ := hl; exact Heap.lt_size e
  refine call_min_walk (wpAny_pyIter_tuple hT ?_)
  refine ⟨_, [_, l], [_], _, _, _, _, rfl, Walks.tuple (A := A.in1) hh _ l (Nat.ne_of_lt hlt) (intItems #[(a, t), (b, u)]),
    ⟨⟨_, Heap.get?_push_size _ rfl, rfl, rfl⟩, hT.push _⟩, fun c hc => ?_, by simp [intItems], CmpOf.ints_lt (numAt #[(a, t), (b, u)]) (fun _ _ => intItems_at), fun v h' tk hP hk => ?_⟩
  · show c < (s.heap.push _).objs.size
    rw [Heap.size_push]
    rcases List.mem_cons.mp hc with rfl | hc
    · exact Nat.lt_succ_self _
    · rcases List.mem_cons.mp hc with rfl | hc
      · exact Nat.lt_succ_of_lt hlt
      · cases hc
  · have hold : ∀ c o, s.heap.get? c = some o → h'.get? c = some o := fun c o e => by
      refine hk c o (fun hm => ?_) (Heap.get?_push_of_some _ e)
      rcases List.mem_cons.mp hm with e1 | hm
      · have := Heap.lt_size e; rw [e1] at this; exact Nat.lt_irrefl _ this
      · cases hm
    have hP' : (intItems #[(a, t), (b, u)])[argBest (fun i j => decide (numAt #[(a, t), (b, u)] i < numAt #[(a, t), (b, u)] j)) 1]? = some v := by
      have hsz2 : (intItems #[(a, t), (b, u)]).size - 1 = 1 := by simp [intItems]
      rw [← hsz2]; exact hP
    by_cases hba : b < a
    · have e1 : argBest (fun i j => decide (numAt #[(a, t), (b, u)] i < numAt #[(a, t), (b, u)] j)) 1 = 1 := by simp [argBest, numAt, hba]
      rw [e1] at hP'
      have : v = .int b u := by simpa [intItems] using hP'.symm
      subst this
      have := h h' tk u hold
      rw [if_pos hba] at this
      exact this
    · have e1 : argBest (fun i j => decide (numAt #[(a, t), (b, u)] i < numAt #[(a, t), (b, u)] j)) 1 = 0 := by simp [argBest, numAt, hba]
      rw [e1] at hP'
      have : v = .int a t := by simpa [intItems] using hP'.symm
      subst this
      have := h h' tk t hold
      rw [if_neg hba] at this
      exact this
theorem cr_minT {X : Cx} (hc : X.calm = true) : CallR X (.builtin "min") (fun vs H Q => ∃ (p : Addr) (a b : Int), vs = [V.ref p] ∧ SqT X.K H p [.int a, .int b] ∧ Q (.int (if b < a then b else a)) H) := by
  intro pins s σ H vs us Q I r h
  obtain ⟨p, a, b, rfl, hs, q⟩ := h
  obtain ⟨its, rv, hl, _⟩ := I.tuple hs
  rw [Vals.ref1 r]
  obtain ⟨t, u, rfl⟩ := Vals.int2 rv
  refine min_tup2 (I.ok.hd hc) hl fun h' tk tk' k => ?_
  exact ⟨.int _, H, I.kept (t' := tk) k, ⟨tk', rfl⟩, q⟩
end FH

set_option maxHeartbeats 1000000
/-! Built-in functions and methods by values. -/
namespace FH
open PySem PySem.Spec PyProof.Rows L2
/-- what a rule for a call by values must give -/
def BltOk (X : Cx) (g : Gx) (b : B) (r : List V → Hp → VK → Prop) : Prop :=
  ∀ (α : List Addr) (H : Hp) (μ : Store) (ds : List D) (d : D) (vs : List V) (Q : VK), Rs X.prog X.w X.K g α H μ → Rvs X.K g α H ds vs → bltD b ds μ = some d →
    (∀ v H', Ext α H α H' → Rs X.prog X.w X.K g α H' μ → Rv X.K g α H' d v → Q v H') → r vs H Q
section
variable {K : PySem.W.Frag} {ea : Rm} {α : List Addr} {H : Hp}
theorem RepVs.one_of {d : D} {vs : List V} (h : RepVs K ea α H [d] vs) : ∃ v, vs = [v] ∧ RepV K ea α H d v := by
  simp only [RepVs] at h
  obtain ⟨v, r, rfl, h1, rfl⟩ := h
  exact ⟨v, rfl, h1⟩
theorem RepVs.two_of {d d' : D} {vs : List V} (h : RepVs K ea α H [d, d'] vs) : ∃ v v', vs = [v, v'] ∧ RepV K ea α H d v ∧ RepV K ea α H d' v' := by
  simp only [RepVs] at h
  obtain ⟨v, r, rfl, h1, v', r', rfl, h2, rfl⟩ := h
  exact ⟨v, v', rfl, h1, h2⟩
theorem ints_rep : ∀ {xs : List D} {ns : List Int} {vs : List V}, intsOf xs = some ns → RepVs K ea α H xs vs → vs = ns.map V.int
  | [], ns, vs, e, r => by
    simp only [intsOf, Option.some.injEq] at e; subst e
    simp only [RepVs] at r; subst r; rfl
  | .int i :: xs, ns, vs, e, r => by
    simp only [intsOf] at e
    obtain ⟨ms, e1, rfl⟩ := Option.map_eq_some_iff.mp e
    simp only [RepVs] at r
    obtain ⟨v, q, rfl, h1, h2⟩ := r
    simp only [RepV] at h1
    rw [h1, ints_rep e1 h2]; rfl
  | .non :: _, _, _, e, _ => by simp [intsOf] at e
  | .bl _ :: _, _, _, e, _ => by simp [intsOf] at e
  | .str _ :: _, _, _, e, _ => by simp [intsOf] at e
  | .tup _ :: _, _, _, e, _ => by simp [intsOf] at e
  | .lst _ :: _, _, _, e, _ => by simp [intsOf] at e
  | .ptr _ :: _, _, _, e, _ => by simp [intsOf] at e
  | .rl _ :: _, _, _, e, _ => by simp [intsOf] at e
  | .exn :: _, _, _, e, _ => by simp [intsOf] at e
  | .clo _ _ :: _, _, _, e, _ => by simp [intsOf] at e
theorem strs_rep : ∀ {xs : List D} {ss : List (List Nat)} {vs : List V}, strsOf xs = some ss → RepVs K ea α H xs vs → vs = (ss.map fun s => (⟨s.toArray⟩ : Str)).map V.str
  | [], ns, vs, e, r => by
    simp only [strsOf, Option.some.injEq] at e; subst e
    simp only [RepVs] at r; subst r; rfl
  | .str i :: xs, ns, vs, e, r => by
    simp only [strsOf] at e
    obtain ⟨ms, e1, rfl⟩ := Option.map_eq_some_iff.mp e
    simp only [RepVs] at r
    obtain ⟨v, q, rfl, h1, h2⟩ := r
    simp only [RepV] at h1
    rw [h1, strs_rep e1 h2]; rfl
  | .non :: _, _, _, e, _ => by simp [strsOf] at e
  | .bl _ :: _, _, _, e, _ => by simp [strsOf] at e
  | .int _ :: _, _, _, e, _ => by simp [strsOf] at e
  | .tup _ :: _, _, _, e, _ => by simp [strsOf] at e
  | .lst _ :: _, _, _, e, _ => by simp [strsOf] at e
  | .ptr _ :: _, _, _, e, _ => by simp [strsOf] at e
  | .rl _ :: _, _, _, e, _ => by simp [strsOf] at e
  | .exn :: _, _, _, e, _ => by simp [strsOf] at e
  | .clo _ _ :: _, _, _, e, _ => by simp [strsOf] at e
theorem rep_strs : ∀ ss : List (List Nat), RepVs K ea α H (ss.map D.str) ((ss.map fun s => (⟨s.toArray⟩ : Str)).map V.str)
  | [] => by simp only [List.map_nil, RepVs]
  | s :: ss => by
    simp only [List.map_cons, RepVs]
    exact ⟨_, _, rfl, by simp only [RepV], rep_strs ss⟩
end
section
variable {X : Cx} {g : Gx} {pos p apos : Pos} {a b c : Expr} {ea eb ec : E} {es : Es}
theorem oneD_some {f : D → Option D} {ds : List D} {d : D} (e : oneD f ds = some d) : ∃ x, ds = [x] ∧ f x = some d := by
  unfold oneD at e
  split at e
  · exact ⟨_, rfl, e⟩
  · cases e
theorem lenD_some {μ : Store} {ds : List D} {d : D} (e : lenD μ ds = some d) : (∃ z, ds = [.str z] ∧ z.length ≤ lineMax ∧ d = .int z.length) ∨ ∃ x xs, ds = [x] ∧ itemsOf μ x = some xs ∧ d = .int xs.length := by
  unfold lenD at e
  split at e
  · split at e
    · rename_i h; cases e; exact .inl ⟨_, rfl, h, rfl⟩
    · cases e
  · obtain ⟨xs, e1, e2⟩ := Option.map_eq_some_iff.mp e
    exact .inr ⟨_, xs, rfl, e1, e2.symm⟩
  · cases e
theorem bl_len : BltOk X g .len (fun xs H Q => ∃ x n, xs = [x] ∧ LenV X.K x H n ∧ Q (.int n) H) := by
  intro α H μ ds d vs Q s r e q
  rcases lenD_some (show lenD μ ds = some d from e) with ⟨z, rfl, hl, rfl⟩ | ⟨x, xs, rfl, e1, rfl⟩
  · obtain ⟨v, rfl, rv⟩ := r.one_of
    simp only [RepV] at rv
    refine ⟨_, z.length, rfl, ?_, q _ _ Ext.refl s (by simp only [RepV])⟩
    subst rv
    exact ⟨by rw [len_mk]; exact hl, by rw [len_mk]⟩
  · obtain ⟨v, rfl, rv⟩ := r.one_of
    obtain ⟨l, vs, rfl, h1, h2⟩ := itemsOf_rep s e1 rv
    refine ⟨_, vs.length, rfl, ?_, ?_⟩
    · rcases h1 with h1 | h1
      · exact .inl ⟨vs, h1, rfl⟩
      · exact .inr ⟨vs, h1, rfl⟩
    · rw [h2.len]; exact q _ _ Ext.refl s (by simp only [RepV])
theorem bl_tuple : BltOk X g .tuple (fun xs H Q => ∃ p ys, xs = [.ref p] ∧ ((SqL X.K H p ys ∧ ∀ l, H l = none → Q (.ref l) (upd H l (.tup ys))) ∨ (SqT X.K H p ys ∧ Q (.ref p) H))) := by
  intro α H μ ds d vs Q s r e q
  obtain ⟨x, rfl, e0⟩ := oneD_some (show oneD (fun d => (itemsOf μ d).map .tup) ds = some d from e)
  clear e
  have e := e0
  clear e0
  obtain ⟨v, rfl, rv⟩ := r.one_of
  have lst : ∀ {l : Addr} {vs : List V} {xs : List D}, v = .ref l → SqL X.K H l vs → RepVs X.K g.ea α H xs vs → d = .tup xs → ∃ p ys, [v] = [V.ref p] ∧ ((SqL X.K H p ys ∧ ∀ l, H l = none → Q (.ref l) (upd H l (.tup ys))) ∨ (SqT X.K H p ys ∧ Q (.ref p) H)) := fun {l vs xs} h0 h1 h2 e2 => by
    subst e2
    refine ⟨l, vs, by rw [h0], .inl ⟨h1, fun p hp => q _ _ (Ext.new s hp) (s.new hp) ?_⟩⟩
    simp only [RepV]
    exact ⟨p, vs, rfl, .inl ⟨.inl upd_same, s.fresh hp⟩, RepVs.mono (Ext.new s hp) _ _ h2⟩
  obtain ⟨xs, e1, e2⟩ := Option.map_eq_some_iff.mp e
  cases x with
  | tup z =>
    simp only [itemsOf, Option.some.injEq] at e1
    subst e1; subst e2
    have rv' := rv
    simp only [RepV] at rv
    obtain ⟨l, vs, rfl, ht, _⟩ := rv
    exact ⟨l, vs, rfl, .inr ⟨ht.sq, q _ _ Ext.refl s rv'⟩⟩
  | rl z =>
    simp only [itemsOf, Option.some.injEq] at e1
    subst e1
    simp only [RepV] at rv
    obtain ⟨l, vs, h0, ht, h2⟩ := rv
    exact lst h0 ht.sq h2 e2.symm
  | lst z =>
    obtain ⟨l, vs, h0, h1, h2⟩ := listOf_rep s (d := .lst z) (xs := xs) (by simpa [itemsOf, listOf] using e1) rv
    exact lst h0 (SqL.of h1) h2 e2.symm
  | ptr z =>
    obtain ⟨l, vs, h0, h1, h2⟩ := listOf_rep s (d := .ptr z) (xs := xs) (by simp only [itemsOf] at e1; simp only [listOf]; exact e1) rv
    exact lst h0 (SqL.of h1) h2 e2.symm
  | _ => simp [itemsOf] at e1
theorem bl_list : BltOk X g .list (fun xs H Q => ∃ p ys, xs = [.ref p] ∧ (SqL X.K H p ys ∨ SqT X.K H p ys) ∧ ∀ l, H l = none → Q (.ref l) (upd H l (.lst ys))) := by
  intro α H μ ds d vs Q s r e q
  obtain ⟨x, rfl, e0⟩ := oneD_some (show oneD (fun d => (itemsOf μ d).map .lst) ds = some d from e)
  clear e
  have e := e0
  clear e0
  obtain ⟨v, rfl, rv⟩ := r.one_of
  obtain ⟨xs, e1, rfl⟩ := Option.map_eq_some_iff.mp e
  obtain ⟨l, vs, rfl, h1, h2⟩ := itemsOf_rep s e1 rv
  refine ⟨l, vs, rfl, h1, fun p hp => q _ _ (Ext.new s hp) (s.new hp) ?_⟩
  simp only [RepV]
  exact ⟨p, vs, rfl, upd_same, s.fresh hp, s.freshX hp, RepVs.mono (Ext.new s hp) _ _ h2⟩
theorem bl_int : BltOk X g .int (fun xs H Q => (∃ i, xs = [.int i] ∧ Q (.int i) H) ∨ ∃ k, xs = [.bl k] ∧ Q (.int (if k then 1 else 0)) H) := by
  intro α H μ ds d vs Q s r e q
  obtain ⟨x, rfl, e0⟩ := oneD_some (show oneD intD ds = some d from e)
  clear e
  have e := e0
  clear e0
  obtain ⟨v, rfl, rv⟩ := r.one_of
  unfold intD at e
  split at e
  · cases e
    simp only [RepV] at rv; subst rv
    exact .inr ⟨_, rfl, q _ _ Ext.refl s (by simp only [RepV])⟩
  · cases e
    simp only [RepV] at rv; subst rv
    exact .inl ⟨_, rfl, q _ _ Ext.refl s (by simp only [RepV])⟩
  · cases e
theorem twoI_some {f : Int → Int → Int} {ds : List D} {d : D} (e : twoI f ds = some d) : ∃ i j, ds = [.int i, .int j] ∧ d = .int (f i j) := by
  unfold twoI at e
  split at e
  · cases e; exact ⟨_, _, rfl, rfl⟩
  · cases e
theorem bl_2 {b : B} {f : Int → Int → Int} (h : ∀ ds μ, bltD b ds μ = twoI f ds) : BltOk X g b (fun xs H Q => ∃ i j, xs = [.int i, .int j] ∧ Q (.int (f i j)) H) := by
  intro α H μ ds d vs Q s r e q
  rw [h] at e
  obtain ⟨i, j, rfl, rfl⟩ := twoI_some e
  obtain ⟨v, v', rfl, r1, r2⟩ := r.two_of
  simp only [RepV] at r1 r2
  exact ⟨i, j, by rw [r1, r2], q _ _ Ext.refl s (by simp only [RepV])⟩
theorem bl_min2 : BltOk X g .min2 (fun xs H Q => ∃ i j, xs = [.int i, .int j] ∧ Q (.int (if j < i then j else i)) H) := bl_2 (f := fun i j => if j < i then j else i) fun _ _ => rfl
theorem bl_max2 : BltOk X g .max2 (fun xs H Q => ∃ i j, xs = [.int i, .int j] ∧ Q (.int (if j > i then j else i)) H) := bl_2 (f := fun i j => if j > i then j else i) fun _ _ => rfl
theorem bl_min1 : BltOk X g .min1 (fun vs H Q => ∃ (p : Addr) (a b : Int), vs = [V.ref p] ∧ SqT X.K H p [.int a, .int b] ∧ Q (.int (if b < a then b else a)) H) := by
  intro α H μ ds d vs Q s r e q
  obtain ⟨x, rfl, e0⟩ := oneD_some (show oneD minT ds = some d from e)
  clear e
  have e := e0
  clear e0
  obtain ⟨v, rfl, rv⟩ := r.one_of
  unfold minT at e
  split at e
  · cases e
    simp only [RepV] at rv
    obtain ⟨p, vs, rfl, ht, hr⟩ := rv
    obtain ⟨v1, v2, rfl, r1, r2⟩ := RepVs.two_of hr
    simp only [RepV] at r1 r2
    subst r1; subst r2
    exact ⟨p, _, _, rfl, ht.sq, q _ _ Ext.refl s (by simp only [RepV])⟩
  · cases e
theorem bl_sum : BltOk X g .sum (rSum X.K) := by
  intro α H μ ds d vs Q s r e q
  obtain ⟨x, rfl, e0⟩ := oneD_some (show oneD (sumD μ) ds = some d from e)
  clear e
  have e := e0
  clear e0
  obtain ⟨v, rfl, rv⟩ := r.one_of
  unfold sumD at e
  obtain ⟨xs, e1, e⟩ := Option.bind_eq_some_iff.mp e
  obtain ⟨ns, e2, rfl⟩ := Option.map_eq_some_iff.mp e
  obtain ⟨l, vs, rfl, h1, h2⟩ := listOf_rep s e1 rv
  rw [ints_rep e2 h2] at h1
  exact ⟨l, ns, rfl, SqL.of h1, q _ _ Ext.refl s (by simp only [RepV])⟩
theorem bl_sorted : BltOk X g .sorted (rSortedST X.K) := by
  intro α H μ ds d vs Q s r e q
  obtain ⟨x, rfl, e0⟩ := oneD_some (show oneD sortedD ds = some d from e)
  clear e
  have e := e0
  clear e0
  obtain ⟨v, rfl, rv⟩ := r.one_of
  unfold sortedD at e
  split at e
  · obtain ⟨ss, e1, e⟩ := Option.bind_eq_some_iff.mp e
    split at e
    · rename_i h64
      cases e
      simp only [RepV] at rv
      obtain ⟨p, vs, rfl, ht, hr⟩ := rv
      rw [strs_rep e1 hr] at ht
      refine ⟨p, _, rfl, ht.sq, by rw [List.length_map]; exact h64, fun ys p' hp hs hp' => ?_⟩
      rw [sorted_is hp hs]
      refine q _ _ (Ext.new s hp') (s.new hp') ?_
      simp only [RepV]
      exact ⟨p', _, rfl, upd_same, s.fresh hp', s.freshX hp', rep_strs _⟩
    · cases e
  · cases e
/-- what is called -/
def callee : B → Value
  | .len => .builtin "len"
  | .tuple => .type "tuple"
  | .list => .type "list"
  | .int => .type "int"
  | .min2 => .builtin "min"
  | .max2 => .builtin "max"
  | .min1 => .builtin "min"
  | .sum => .builtin "sum"
  | .sorted => .builtin "sorted"
  | .lenSet => .none
def bname : B → Str
  | .len => "len"
  | .tuple => "tuple"
  | .list => "list"
  | .int => "int"
  | .min2 => "min"
  | .max2 => "max"
  | .min1 => "min"
  | .sum => "sum"
  | .sorted => "sorted"
  | .lenSet => "len"
theorem blt_rule (hc : X.calm = true) (b : B) (hb : b ≠ .lenSet) : ∃ r, CallR X (callee b) r ∧ BltOk X g b r := by
  cases b with
  | len => exact ⟨_, call_len, bl_len⟩
  | tuple => exact ⟨_, call_tuple_of, bl_tuple⟩
  | list => exact ⟨_, call_list_of, bl_list⟩
  | int => exact ⟨_, call_int1, bl_int⟩
  | min2 => exact ⟨_, call_min2 hc, bl_min2⟩
  | max2 => exact ⟨_, call_max2 hc, bl_max2⟩
  | min1 => exact ⟨_, cr_minT hc, bl_min1⟩
  | sum => exact ⟨_, cr_sum hc, bl_sum⟩
  | sorted => exact ⟨_, cr_sortedST, bl_sorted⟩
  | lenSet => exact absurd rfl hb
theorem boot_b (b : B) (hb : b ≠ .lenSet) : bootBuiltins (bname b) = some (callee b) := by
  cases b <;> first | exact absurd rfl hb | decide +kernel
theorem bname_ok (b : B) : bname b ≠ "__name__" ∧ (bname b == ("__debug__" : Str)) = false := by
  cases b <;> exact ⟨by decide +kernel, by decide +kernel⟩
theorem blt_read {b : B} {r : List V → Hp → VK → Prop} (hk : BltOk X g b r) {τ : L2.St} {H : Hp} {Q : VK} (h : rdE X.prog X.w X.K g (.blt b es) τ H Q) : tCB r (rdA X.prog X.w X.K g es) τ H Q := by
  obtain ⟨α, μ, σ, s, re, h⟩ := h
  simp only [ev] at h
  refine rdA1 s re h fun α1 H1 μ1 ds vs e1 s1 r1 rvs h1 => ?_
  obtain ⟨d, e, h1⟩ := Pst.of h1
  exact hk α1 H1 μ1 ds d vs Q s1 rvs e fun v H' e2 s2 r2 => h1 α1 H' v e2 s2 r2
theorem snd_blt {b : B} {rest : List Expr} (hc : X.calm = true) (hb : b ≠ .lenSet) (hg : Gl X (bname b)) (hm : X.mg (bname b) = none) (ha : PA X (a :: rest) (rdA X.prog X.w X.K g es)) (hp : plainE a = true) (hps : rest.all plainE = true) :
    PE X (.Call (.Name (bname b) p) (a :: rest) [] pos) (rdE X.prog X.w X.K g (.blt b es)) := by
  obtain ⟨r, h1, h2⟩ := blt_rule (g := g) hc b hb
  have hv := boot_b b hb
  obtain ⟨hn, hd⟩ := bname_ok b
  cases e : callee b with
  | builtin id => rw [e] at h1 hv; exact PE.imp (pe_callB h1 hg hm hv ha hn hd (star_of hp _ _) (star_any hps _ _)) fun τ H Q h => blt_read h2 h
  | type T => rw [e] at h1 hv; exact PE.imp (pe_callTy h1 hg hm hv ha hn hd (star_of hp _ _) (star_any hps _ _)) fun τ H Q h => blt_read h2 h
  | _ => cases b <;> first | exact absurd rfl hb | cases e
end
end FH

set_option maxHeartbeats 1000000
/-! Methods of lists and texts, isinstance, fields, the table of the module. -/
namespace FH
open PySem PySem.Spec PyProof.Rows L2
/-- what a rule for a method by values must give -/
def MthOk (X : Cx) (g : Gx) (m : Mt) (r : V → List V → Hp → VK → Prop) : Prop :=
  ∀ (τ : L2.St) (α : List Addr) (H : Hp) (μ : Store) (d : D) (ds : List D) (v : V) (vs : List V) (Q : VK), Rs X.prog X.w X.K g α H μ → Rv X.K g α H d v → Rvs X.K g α H ds vs → Pst X.prog X.w X.K g (Rv X.K g) τ α H (mthD m d ds μ) Q → r v vs H Q
section
variable {X : Cx} {g : Gx} {pos p apos : Pos} {a b c : Expr} {ea eb ec : E} {es : Es} {α : List Addr} {H : Hp} {μ : Store}
theorem lst_at (s : Rs X.prog X.w X.K g α H μ) {d : D} {q : Nat} {xs : List D} (h : lstAt μ d = some (q, xs)) {v : V} (r : Rv X.K g α H d v) : ∃ l vs, α[q]? = some l ∧ v = .ref l ∧ H l = some (.lst vs) ∧ RepVs X.K g.ea α H xs vs := by
  unfold lstAt at h
  split at h
  · split at h
    · rename_i hx
      cases h
      simp only [RepV] at r
      obtain ⟨l, h1, h2⟩ := r
      obtain ⟨vs, h3, h4⟩ := s.at_ q l _ h1 hx
      exact ⟨l, vs, h1, h2, h3, h4⟩
    · cases h
  · cases h
/-- a list of the store written over -/
theorem lst_put (s : Rs X.prog X.w X.K g α H μ) {q : Nat} {l : Addr} {ys : List D} {ws : List V} (h : α[q]? = some l) (r : RepVs X.K g.ea α H ys ws) : Rs X.prog X.w X.K g α (upd H l (.lst ws)) (μ.set q (.lst ys)) :=
  s.write h ⟨ws, upd_same, RepVs.mono (Ext.write h) _ _ r⟩
theorem mo_append : MthOk X g .append rAppend := by
  intro τ α H μ d ds v vs Q s r rs h
  replace h : Pst X.prog X.w X.K g (Rv X.K g) τ α H (appendD μ d ds) Q := h
  unfold appendD at h
  split at h
  · split at h
    · rename_i xs hx
      split at h
      · rename_i hl
        obtain ⟨l, ws, h1, rfl, h3, h4⟩ := lst_at s hx r
        obtain ⟨y, rfl, ry⟩ := RepVs.one_of rs
        exact ⟨l, ws, y, rfl, rfl, h3, by rw [h4.len]; exact hl, h α _ _ (Ext.write h1) (lst_put s h1 (h4.append (RepVs.one ry))) (by simp only [RepV])⟩
      · exact h.elim
    · exact h.elim
  · exact h.elim
theorem mo_extend : MthOk X g .extend rExtend := by
  intro τ α H μ d ds v vs Q s r rs h
  replace h : Pst X.prog X.w X.K g (Rv X.K g) τ α H (extendD μ d ds) Q := h
  unfold extendD at h
  split at h
  · split at h
    · rename_i xs ys hx hy
      split at h
      · rename_i hl
        obtain ⟨l, ws, h1, rfl, h3, h4⟩ := lst_at s hx r
        obtain ⟨y, rfl, ry⟩ := RepVs.one_of rs
        obtain ⟨b, zs, rfl, h5, h6⟩ := listOf_rep s hy ry
        exact ⟨l, b, ws, zs, rfl, rfl, h3, h5, by rw [h4.len, h6.len]; exact hl, h α _ _ (Ext.write h1) (lst_put s h1 (h4.append h6)) (by simp only [RepV])⟩
      · exact h.elim
    · exact h.elim
  · exact h.elim
theorem mo_reverse : MthOk X g .reverse rReverse := by
  intro τ α H μ d ds v vs Q s r rs h
  replace h : Pst X.prog X.w X.K g (Rv X.K g) τ α H (reverseD μ d ds) Q := h
  unfold reverseD at h
  split at h
  · split at h
    · rename_i xs hx
      obtain ⟨l, ws, h1, rfl, h3, h4⟩ := lst_at s hx r
      simp only [RepVs] at rs
      exact ⟨l, ws, rfl, rs, h3, h α _ _ (Ext.write h1) (lst_put s h1 h4.reverse) (by simp only [RepV])⟩
    · exact h.elim
  · exact h.elim
theorem mo_clear : MthOk X g .clear rClear := by
  intro τ α H μ d ds v vs Q s r rs h
  replace h : Pst X.prog X.w X.K g (Rv X.K g) τ α H (clearD μ d ds) Q := h
  unfold clearD at h
  split at h
  · split at h
    · rename_i xs hx
      obtain ⟨l, ws, h1, rfl, h3, h4⟩ := lst_at s hx r
      simp only [RepVs] at rs
      exact ⟨l, ws, rfl, rs, h3, h α _ _ (Ext.write h1) (lst_put s h1 (by simp only [RepVs])) (by simp only [RepV])⟩
    · exact h.elim
  · exact h.elim
theorem mo_pop : MthOk X g .pop (fun x xs H Q => rPop x xs H Q ∨ rPopAt x xs H Q) := by
  intro τ α H μ d ds v vs Q s r rs h
  replace h : Pst X.prog X.w X.K g (Rv X.K g) τ α H (popD μ d ds) Q := h
  unfold popD at h
  split at h
  · split at h
    · rename_i xs hx
      split at h
      · rename_i y hy
        obtain ⟨l, ws, h1, rfl, h3, h4⟩ := lst_at s hx r
        simp only [RepVs] at rs
        obtain ⟨z, hz, rz⟩ := h4.get hy
        exact .inl ⟨l, ws, z, rfl, rs, h3, by rw [h4.len]; exact hz, h α _ _ (Ext.write h1) (lst_put s h1 h4.dropLast) (RepV.mono (Ext.write h1) _ _ rz)⟩
      · exact h.elim
    · exact h.elim
  · split at h
    · rename_i xs hx
      split at h
      · rename_i hw
        split at h
        · rename_i k hk
          split at h
          · rename_i y hy
            obtain ⟨l, ws, h1, rfl, h3, h4⟩ := lst_at s hx r
            obtain ⟨w1, rfl, rw1⟩ := RepVs.one_of rs
            simp only [RepV] at rw1
            subst rw1
            obtain ⟨z, hz, rz⟩ := h4.get hy
            rw [ixN_eq, ← h4.len] at hk
            obtain ⟨k1, k2, k3, k4⟩ := ixN_seq hk
            have hw' : ws.length ≤ 16777216 := by rw [h4.len]; exact hw
            exact .inr ⟨l, ws, _, k, z, rfl, rfl, h3, by omega, by omega, k1, hz, h α _ _ (Ext.write h1) (lst_put s h1 (h4.eraseIdx k)) (RepV.mono (Ext.write h1) _ _ rz)⟩
          · exact h.elim
        · exact h.elim
      · exact h.elim
    · exact h.elim
  · exact h.elim
/-! texts -/
theorem joinC_eq (S : List Nat) : ∀ l : List (List Nat), joinC S l = TL.joinL S l
  | [] => rfl
  | [_] => rfl
  | p :: q :: r => by
    show p ++ (S ++ joinC S (q :: r)) = p ++ (S ++ TL.joinL S (q :: r))
    rw [joinC_eq S (q :: r)]
theorem map_mk_tl (ss : List (List Nat)) : (ss.map fun s => (⟨s.toArray⟩ : Str)).map TL.tl = ss := by
  rw [List.map_map]
  have : (TL.tl ∘ fun s : List Nat => (⟨s.toArray⟩ : Str)) = id := by funext s; simp [TL.tl]
  rw [this, List.map_id]
theorem join_mk (s : List Nat) (ss : List (List Nat)) : Txt.join ⟨s.toArray⟩ (ss.map fun s => (⟨s.toArray⟩ : Str)) = ⟨(joinC s ss).toArray⟩ := by
  apply TL.ext_tl
  rw [TL.join_eq, TL.tl_join, map_mk_tl, joinC_eq]
def rJoin (K : PySem.W.Frag) : V → List V → Hp → VK → Prop := fun x xs H Q => ∃ a p, ∃ ys : List Str, x = .str a ∧ xs = [.ref p] ∧ (SqL K H p (ys.map V.str) ∨ SqT K H p (ys.map V.str)) ∧
    (ys.map (·.length)).sum + ys.length * a.length ≤ 16777216 ∧ Q (.str (Txt.join a ys)) H
theorem mo_join : MthOk X g .join (rJoin X.K) := by
  intro τ α H μ d ds v vs Q s r rs h
  replace h : Pst X.prog X.w X.K g (Rv X.K g) τ α H (joinD μ d ds) Q := h
  unfold joinD at h
  split at h
  · split at h
    · rename_i z
      split at h
      · rename_i ss hss
        split at h
        · rename_i hl
          obtain ⟨y, rfl, ry⟩ := RepVs.one_of rs
          obtain ⟨xs, e1, e2⟩ := Option.bind_eq_some_iff.mp hss
          obtain ⟨l, ws, rfl, h1, h2⟩ := itemsOf_rep s e1 ry
          rw [strs_rep e2 h2] at h1
          simp only [RepV] at r
          subst r
          refine ⟨_, l, _, rfl, rfl, h1, ?_, ?_⟩
          · rw [List.map_map, List.length_map, len_mk]
            have : ((fun x : Str => x.length) ∘ fun s : List Nat => (⟨s.toArray⟩ : Str)) = List.length := by funext s; simp [Str.length]
            rw [this]; exact hl
          · rw [join_mk]
            exact Pst.here h s (by simp only [RepV])
        · exact h.elim
      · exact h.elim
    · exact h.elim
  · exact h.elim
theorem pre_one (c x : Nat) (r : List Nat) : TL.pre [c] (x :: r) = decide (x = c) := by
  by_cases e : x = c <;> simp [TL.pre, e]
theorem splitC_ne (c : Nat) : ∀ l : List Nat, splitC c l ≠ []
  | [] => by simp [splitC]
  | x :: r => by
    by_cases e : x = c
    · simp [splitC, e]
    · cases h : splitC c r <;> simp [splitC, e, h]
theorem spl_one (c : Nat) : ∀ (l acc : List Nat), TL.spl [c] 0 acc l = match splitC c l with | p :: q => (acc ++ p) :: q | [] => [acc]
  | [], acc => by simp [TL.spl, splitC]
  | x :: r, acc => by
    by_cases e : x = c
    · have hp : TL.pre [c] (x :: r) = true := by rw [pre_one]; exact decide_eq_true e
      rw [TL.spl_hit hp]
      show acc :: TL.spl [c] 0 [] r = _
      rw [spl_one c r []]
      have e2 : splitC c (x :: r) = [] :: splitC c r := by simp [splitC, e]
      rw [e2]
      cases hq : splitC c r with
      | nil => exact absurd hq (splitC_ne c r)
      | cons p q => simp
    · have hp : TL.pre [c] (x :: r) = false := by rw [pre_one]; exact decide_eq_false e
      rw [TL.spl_miss hp, spl_one c r (acc ++ [x])]
      cases hq : splitC c r with
      | nil => simp [splitC, e, hq]
      | cons p q => simp [splitC, e, hq]
theorem split_mk (s : List Nat) (c : Nat) (hc : c < 128) : Txt.split ⟨s.toArray⟩ ⟨[c].toArray⟩ = (splitC c s).map fun s => (⟨s.toArray⟩ : Str) := by
  apply TL.map_tl_inj
  have hk : ¬ Builtin.Str.strKind (⟨s.toArray⟩ : Str) < Builtin.Str.strKind (⟨[c].toArray⟩ : Str) := TL.kind_ok (by simp; omega)
  rw [TL.split_spl _ _ (by simp [TL.tl]) hk, map_mk_tl]
  have e1 : TL.tl (⟨[c].toArray⟩ : Str) = [c] := by simp [TL.tl]
  have e2 : TL.tl (⟨s.toArray⟩ : Str) = s := by simp [TL.tl]
  rw [e1, e2, spl_one]
  cases hq : splitC c s with
  | nil => exact absurd hq (splitC_ne c s)
  | cons p q => simp
def rSplit : V → List V → Hp → VK → Prop := fun x xs H Q => ∃ a b, x = .str a ∧ xs = [.str b] ∧ (b.length == 0) = false ∧ a.length + 2 ≤ sizeLine ∧ rNewStrs (Txt.split a b) H Q
theorem mo_split : MthOk X g .split rSplit := by
  intro τ α H μ d ds v vs Q s r rs h
  replace h : Pst X.prog X.w X.K g (Rv X.K g) τ α H (splitD μ d ds) Q := h
  unfold splitD at h
  split at h
  · rename_i c
    split at h
    · rename_i z
      split at h
      · rename_i hl
        obtain ⟨y, rfl, ry⟩ := RepVs.one_of rs
        simp only [RepV] at r ry
        subst r; subst ry
        refine ⟨_, _, rfl, rfl, rfl, by rw [len_mk]; exact hl.1, fun p hp => ?_⟩
        rw [split_mk z c hl.2]
        refine h α _ _ (Ext.new s hp) (s.new hp) ?_
        simp only [RepV]
        exact ⟨p, _, rfl, upd_same, s.fresh hp, s.freshX hp, rep_strs _⟩
      · exact h.elim
    · exact h.elim
  · exact h.elim
/-! the calls -/
def mtT : Mt → String
  | .join | .split | .sindex => "str"
  | _ => "list"
def mtName : Mt → Str
  | .append => "append" | .extend => "extend" | .pop => "pop" | .reverse => "reverse" | .clear => "clear" | .join => "join" | .split => "split" | .count => "count" | .index => "index" | .sindex => "index"
def mtDone : Mt → Bool
  | .count | .index | .sindex => false
  | _ => true
theorem mth_rule (m : Mt) (hm : mtDone m = true) : ∃ id r, PlainAttrs (mtT m) ∧ Slot (mtT m) (mtName m) id ∧ typeOf (.builtin id) = pure (.type "method_descriptor") ∧ MtR X id r ∧ MthOk X g m r := by
  cases m with
  | append => exact ⟨_, _, PySem.F.plainAttrs_list, PySem.F.slot_list_append, PySem.F.type_list_append, mt_append, mo_append⟩
  | extend => exact ⟨_, _, PySem.F.plainAttrs_list, PySem.F.slot_list_extend, PySem.F.type_list_extend, mt_extend, mo_extend⟩
  | pop => exact ⟨_, _, PySem.F.plainAttrs_list, PySem.F.slot_list_pop, PySem.F.type_list_pop, MtR.or mt_pop mt_popAt, mo_pop⟩
  | reverse => exact ⟨_, _, PySem.F.plainAttrs_list, PySem.F.slot_list_reverse, PySem.F.type_list_reverse, mt_reverse, mo_reverse⟩
  | clear => exact ⟨_, _, PySem.F.plainAttrs_list, PySem.F.slot_list_clear, PySem.F.type_list_clear, mt_clear, mo_clear⟩
  | join => exact ⟨_, _, PySem.F.plainAttrs_str, PySem.F.slot_str_join, PySem.F.type_str_join, mt_join, mo_join⟩
  | split => exact ⟨_, _, PySem.F.plainAttrs_str, PySem.F.slot_str_split, PySem.F.type_str_split, mt_split, mo_split⟩
  | _ => cases hm
theorem recv_ty {m : Mt} {d : D} {v : V} (s : Rs X.prog X.w X.K g α H μ) (r : Rv X.K g α H d v) (h : recvOk m d μ = true) : tyV X.K (mtT m) v H := by
  have lst : (listOf μ d).isSome = true → tyV X.K "list" v H := fun h => by
    obtain ⟨xs, hx⟩ := Option.isSome_iff_exists.mp h
    obtain ⟨l, vs, rfl, h1, _⟩ := listOf_rep s hx r
    exact .inl ⟨rfl, vs, SqL.of h1⟩
  cases m <;> first | exact lst h | (cases d <;> first | (simp only [RepV] at r; subst r; rfl) | exact (Bool.false_ne_true h).elim)
theorem mth_read {m : Mt} {r : V → List V → Hp → VK → Prop} (hk : MthOk X g m r) {τ : L2.St} {H : Hp} {Q : VK} (h : rdE X.prog X.w X.K g (.mth m ea es) τ H Q) : tBM X.K (mtT m) r (rdE X.prog X.w X.K g ea) (rdA X.prog X.w X.K g es) τ H Q := by
  obtain ⟨α, μ, σ, s, re, h⟩ := h
  simp only [ev] at h
  refine rd1 s re h fun α1 H1 μ1 d v e1 s1 r1 rv h1 => ?_
  split at h1
  · rename_i hok
    refine ⟨recv_ty s1 rv hok, ?_⟩
    refine rdA1 s1 r1 h1 fun α2 H2 μ2 ds vs e2 s2 r2 rvs h2 => ?_
    exact hk τ α2 H2 μ2 d ds v vs Q s2 (RepV.mono e2 d v rv) rvs h2
  · exact h1.elim
theorem few_of {rest : List Expr} (hp : plainE a = true) (hps : rest.all plainE = true) (hn : rest.length < 20) (pos : Pos) (env : PySem.Env) : ((backTo pos (starEach (a :: rest) env)).all (fun x => !x.1) && (backToKw pos (keywordEach [] env)).all (fun x => x.1.isSome)
      && decide ((a :: rest).length + ([] : List Keyword).length + (if ([] : List Keyword).isEmpty then 0 else 1) < 30)) = true := by
  have h1 : (backTo pos (starEach (a :: rest) env)).any (·.1) = false := star_any (es := a :: rest) (by rw [List.all_cons, hp, hps]; rfl) pos env
  have h2 : (backTo pos (starEach (a :: rest) env)).all (fun x => !x.1) = true := by
    rw [List.any_eq_false] at h1
    rw [List.all_eq_true]
    intro x hx
    have := h1 x hx
    simpa using this
  rw [h2]
  have h3 : decide ((a :: rest).length + ([] : List Keyword).length + (if ([] : List Keyword).isEmpty then 0 else 1) < 30) = true := decide_eq_true (by simp; omega)
  rw [h3]
  rfl
theorem snd_mth {m : Mt} {o : Expr} {rest : List Expr} (hm : mtDone m = true) (ho : PE X o (rdE X.prog X.w X.K g ea)) (hpo : plainE o = true) (ha : PA X (a :: rest) (rdA X.prog X.w X.K g es)) (hp : plainE a = true) (hps : rest.all plainE = true) (hn : rest.length < 20) (hline : (apos.endLine == pos.line) = true) :
    PE X (.Call (.Attribute o (mtName m) apos) (a :: rest) [] pos) (rdE X.prog X.w X.K g (.mth m ea es)) := by
  obtain ⟨id, r, h1, h2, h3, h4, h5⟩ := mth_rule (X := X) (g := g) m hm
  exact PE.imp (pe_bm h1 h2 h3 h4 ho ha (plain_base hpo _ _) (few_of hp hps hn _ _) hline (star_of hp _ _) (star_any hps _ _)) fun τ H Q h => mth_read h5 h
theorem snd_mth0 {m : Mt} {o : Expr} (hm : mtDone m = true) (ho : PE X o (rdE X.prog X.w X.K g ea)) (hpo : plainE o = true) (hline : (apos.endLine == pos.line) = true) :
    PE X (.Call (.Attribute o (mtName m) apos) [] [] pos) (rdE X.prog X.w X.K g (.mth m ea .nil)) := by
  obtain ⟨id, r, h1, h2, h3, h4, h5⟩ := mth_rule (X := X) (g := g) m hm
  refine PE.imp (pe_bm0 h1 h2 h3 h4 ho (plain_base hpo _ _) hline) fun τ H Q h => ?_
  have h := mth_read h5 h
  obtain ⟨α, μ, σ, s, re, h⟩ := h
  refine ⟨α, μ, σ, s, re, Pst.imp h fun v H1 q => ⟨q.1, ?_⟩⟩
  obtain ⟨α1, μ1, σ1, s1, re1, h1⟩ := q.2
  simp only [evs] at h1
  exact Pst.here h1 s1 (by simp only [RepVs])
end
end FH

set_option maxHeartbeats 1000000
/-! isinstance, fields, the table of the module, calls. -/
namespace FH
open PySem PySem.Spec PyProof.Rows L2
def tyStr : Ty → String
  | .tuple => "tuple" | .list => "list" | .bool => "bool" | .str => "str" | .int => "int"
theorem kit_of2 (t u : Ty) : kitB (tyStr t) (tyStr u) = some (tyIs t u) := by cases t <;> cases u <;> decide +kernel
theorem kit_non (u : Ty) : kitB "NoneType" (tyStr u) = some false := by cases u <;> decide +kernel
theorem boot_ty (u : Ty) : bootBuiltins (tname u) = some (.type (tyStr u)) := by cases u <;> decide +kernel
theorem tname_ok (u : Ty) : tname u ≠ "__name__" ∧ (tname u == ("__debug__" : Str)) = false := by cases u <;> exact ⟨by decide +kernel, by decide +kernel⟩
section
variable {X : Cx} {g : Gx} {pos p p1 p2 p3 apos : Pos} {a b c : Expr} {ea eb ec : E} {es : Es} {α : List Addr} {H : Hp} {μ : Store}
/-- the type's name of a value -/
def tyS (μ : Store) (d : D) : Option String := match d with | .non => some "NoneType" | d => (tyD μ d).map tyStr
theorem tyx_of (s : Rs X.prog X.w X.K g α H μ) {d : D} {v : V} {n : String} (r : Rv X.K g α H d v) (h : tyS μ d = some n) : TyX X.K H v (.type n) := by
  cases d with
  | non => simp only [tyS, Option.some.injEq] at h; subst h; simp only [RepV] at r; subst r; exact .base .non
  | bl b => simp only [tyS, tyD, Option.map_some, Option.some.injEq] at h; subst h; simp only [RepV] at r; subst r; exact .base (.bl b)
  | int b => simp only [tyS, tyD, Option.map_some, Option.some.injEq] at h; subst h; simp only [RepV] at r; subst r; exact .base (.int b)
  | str b => simp only [tyS, tyD, Option.map_some, Option.some.injEq] at h; subst h; simp only [RepV] at r; subst r; exact .base (.str _)
  | tup xs =>
    simp only [tyS, tyD, Option.map_some, Option.some.injEq] at h; subst h
    simp only [RepV] at r
    obtain ⟨a, vs, rfl, ht, _⟩ := r
    rcases ht with ⟨ht | ⟨o, ht⟩, _⟩ | ⟨o, its, n, h1, h2, _⟩
    · exact .base (.tup ht)
    · exact .fTuple ht
    · exact .kTuple h1 h2
  | lst xs =>
    simp only [tyS, tyD, Option.map_some, Option.some.injEq] at h; subst h
    obtain ⟨l, vs, rfl, h1, _⟩ := listOf_rep s (d := .lst xs) (xs := xs) rfl r
    exact .base (.lst h1)
  | ptr q =>
    simp only [tyS, tyD] at h
    obtain ⟨t, e1, e2⟩ := Option.map_eq_some_iff.mp h
    split at e1
    · rename_i xs hx
      cases e1
      subst e2
      obtain ⟨l, vs, rfl, h1, _⟩ := listOf_rep s (d := .ptr q) (xs := xs) (by simp only [listOf, hx]) r
      exact .base (.lst h1)
    · cases e1
  | _ => simp [tyS, tyD] at h
theorem isi_ty {d : D} {ts : List Ty} {r : Bool} (h : isiD μ d ts = some r) : ∃ n, tyS μ d = some n ∧ r = ts.any (fun u => decide (kitB n (tyStr u) = some true)) ∧ ∀ u, ∃ b, kitB n (tyStr u) = some b := by
  have gen : ∀ t : Ty, ts.any (tyIs t) = ts.any (fun u => decide (kitB (tyStr t) (tyStr u) = some true)) := fun t => by
    congr 1
    funext u
    rw [kit_of2]
    cases tyIs t u <;> rfl
  have tot : ∀ t u : Ty, ∃ b, kitB (tyStr t) (tyStr u) = some b := fun t u => ⟨_, kit_of2 t u⟩
  cases d with
  | non =>
    simp only [isiD, Option.some.injEq] at h
    refine ⟨_, rfl, ?_, fun u => ⟨_, kit_non u⟩⟩
    rw [← h]
    symm
    rw [List.any_eq_false]
    intro u _
    rw [kit_non]; decide
  | _ =>
    simp only [isiD] at h
    obtain ⟨t, e1, rfl⟩ := Option.map_eq_some_iff.mp h
    exact ⟨tyStr t, by simp only [tyS]; rw [e1]; rfl, gen t, tot t⟩
theorem boot_isi : bootBuiltins "isinstance" = some (.builtin "isinstance") := by decide +kernel
theorem snd_isi1 {T : Ty} (ha : PE X a (rdE X.prog X.w X.K g ea)) (hp : plainE a = true) (hg : Gl X "isinstance") (hm : X.mg "isinstance" = none) (hg2 : Gl X (tname T)) (hm2 : X.mg (tname T) = none) :
    PE X (.Call (.Name "isinstance" p) [a, .Name (tname T) p1] [] pos) (rdE X.prog X.w X.K g (.isi ea [T])) := by
  have hT : PE X (.Name (tname T) p1) (tC (.ty (tyStr T))) := pe_bltn hg2 hm2 (boot_ty T) rfl (tname_ok T).1 (tname_ok T).2
  refine PE.imp (pe_callB call_isi hg hm boot_isi (pa_cons ha (pa_cons hT pa_nil rfl) (star_of hp _ _)) (by decide +kernel) (by decide +kernel) (star_of hp _ _) (star_any (es := [.Name (tname T) p1]) rfl _ _)) fun τ H Q h => ?_
  obtain ⟨α, μ, σ, s, re, h⟩ := h
  simp only [ev] at h
  refine rd1 s re h fun α1 H1 μ1 d v e1 s1 r1 rv h1 => ?_
  cases hi : isiD μ1 d [T] with
  | none => rw [hi] at h1; exact h1.elim
  | some r =>
    rw [hi] at h1
    obtain ⟨n, h2, h3, h4⟩ := isi_ty hi
    obtain ⟨b, hb⟩ := h4 T
    have hr : r = b := by
      rw [h3]
      simp only [List.any_cons, List.any_nil, Bool.or_false, hb]
      cases b <;> rfl
    subst hr
    exact ⟨v, .ty (tyStr T), .type n, .type (tyStr T), r, rfl, .ty _, tyx_of s1 rv h2, kit_ty hb, Pst.here h1 s1 (by simp only [RepV])⟩
theorem snd_isi2 {T U : Ty} {x1 : Nat} (ha : PE X a (rdE X.prog X.w X.K g ea)) (hp : plainE a = true) (hg : Gl X "isinstance") (hm : X.mg "isinstance" = none) (hg2 : Gl X (tname T)) (hm2 : X.mg (tname T) = none) (hg3 : Gl X (tname U)) (hm3 : X.mg (tname U) = none) :
    PE X (.Call (.Name "isinstance" p) [a, .Tuple [.Name (tname T) p1, .Name (tname U) p2] x1 p3] [] pos) (rdE X.prog X.w X.K g (.isi ea [T, U])) := by
  have hT : PE X (.Name (tname T) p1) (tC (.ty (tyStr T))) := pe_bltn hg2 hm2 (boot_ty T) rfl (tname_ok T).1 (tname_ok T).2
  have hU : PE X (.Name (tname U) p2) (tC (.ty (tyStr U))) := pe_bltn hg3 hm3 (boot_ty U) rfl (tname_ok U).1 (tname_ok U).2
  refine PE.imp (pe_callB call_isiT hg hm boot_isi (pa_cons ha (pa_cons (pe_tup (pa_cons hT (pa_cons hU pa_nil rfl) rfl)) pa_nil rfl) (star_of hp _ _)) (by decide +kernel) (by decide +kernel) (star_of hp _ _) (star_any (es := [.Tuple [.Name (tname T) p1, .Name (tname U) p2] x1 p3]) rfl _ _)) fun τ H Q h => ?_
  obtain ⟨α, μ, σ, s, re, h⟩ := h
  simp only [ev] at h
  refine rd1 s re h fun α1 H1 μ1 d v e1 s1 r1 rv h1 => ?_
  refine ⟨by show 2 ≤ sizeLine; decide, fun tp htp => ?_⟩
  have s2 := s1.new (o := .tup [.ty (tyStr T), .ty (tyStr U)]) htp
  have e2 := Ext.new (o := .tup [.ty (tyStr T), .ty (tyStr U)]) s1 htp
  cases hi : isiD μ1 d [T, U] with
  | none => rw [hi] at h1; exact h1.elim
  | some r =>
    rw [hi] at h1
    obtain ⟨n, h2, h3, h4⟩ := isi_ty hi
    obtain ⟨b, hb⟩ := h4 T
    obtain ⟨c, hc⟩ := h4 U
    have hr : r = (b || c) := by
      rw [h3]
      simp only [List.any_cons, List.any_nil, Bool.or_false, hb, hc]
      cases b <;> cases c <;> rfl
    refine ⟨v, tp, _, .type n, [.type (tyStr T), .type (tyStr U)], r, rfl, upd_same, .cons (.ty _) (.cons (.ty _) .nil), tyx_of s2 (RepV.mono e2 d v rv) h2, ?_, h1 α1 _ _ e2 s2 (by simp only [RepV])⟩
    refine kitAny_cons (kit_ty hb) (fun hbf => kitAny_cons (kit_ty hc) (fun hcf => ?_) fun hct => ?_) fun hbt => ?_
    · rw [hr, hbf, hcf]; exact kitAny_nil
    · rw [hr, hct]; simp
    · rw [hr, hbt]; rfl
/-! fields -/
theorem fname_inj : ∀ f f' : Fld, fname f = fname f' → f = f' := by
  intro f f' h
  cases f <;> cases f' <;> first | rfl | exact absurd h (by decide +kernel)
theorem RepFs.get {K : PySem.W.Frag} {ea : Rm} {α : List Addr} {H : Hp} {f : Fld} : ∀ {fs : List (Fld × D)} {gs : List (Str × V)} {d : D}, RepFs K ea α H fs gs → getF f fs = some d → ∃ v, gs.lookup (fname f) = some v ∧ RepV K ea α H d v
  | [], gs, d, h, e => by simp [getF] at e
  | (f', d') :: r, gs, d, h, e => by
    obtain ⟨v, q, rfl, h1, h2⟩ := h
    unfold getF at e
    by_cases hf : f = f'
    · subst hf
      rw [if_pos rfl] at e; cases e
      exact ⟨v, by simp [List.lookup], h1⟩
    · rw [if_neg hf] at e
      obtain ⟨w, h3, h4⟩ := RepFs.get h2 e
      refine ⟨w, ?_, h4⟩
      rw [List.lookup_cons]
      have hne : (fname f == fname f') = false := beq_eq_false_iff_ne.mpr fun z => hf (fname_inj _ _ z)
      rw [hne]; exact h3
theorem RepFs.put {K : PySem.W.Frag} {ea : Rm} {α : List Addr} {H : Hp} {f : Fld} {d : D} {v : V} (rv : RepV K ea α H d v) : ∀ {fs : List (Fld × D)} {gs : List (Str × V)}, RepFs K ea α H fs gs → RepFs K ea α H (FH.putF f d fs) (L2.putF (fname f) v gs)
  | [], gs, h => by cases (show gs = [] from h); exact ⟨v, [], rfl, rv, rfl⟩
  | (f', d') :: r, gs, h => by
    obtain ⟨v', q, rfl, h1, h2⟩ := h
    unfold FH.putF L2.putF
    by_cases hf : f' = f
    · subst hf
      rw [if_pos rfl, if_pos rfl]
      exact ⟨v, q, rfl, rv, h2⟩
    · rw [if_neg hf, if_neg (fun z => hf (fname_inj _ _ z))]
      exact ⟨v', _, rfl, h1, RepFs.put rv h2⟩
theorem RepFs.len {K : PySem.W.Frag} {ea : Rm} {α : List Addr} {H : Hp} : ∀ {fs : List (Fld × D)} {gs : List (Str × V)}, RepFs K ea α H fs gs → gs.length = fs.length
  | [], gs, h => by cases (show gs = [] from h); rfl
  | (f', d') :: r, gs, h => by
    obtain ⟨v', q, rfl, h1, h2⟩ := h
    rw [List.length_cons, List.length_cons, RepFs.len h2]
theorem snd_fld {f : Fld} (ha : PE X a (rdE X.prog X.w X.K g ea)) (hp : plainE a = true) (hc : Cls X.K g.T.rc) (hn : NoAttr X.K g.T.rc (fname f)) : PE X (.Attribute a (fname f) pos) (rdE X.prog X.w X.K g (.fld ea f)) := by
  refine PE.imp (pe_fld ha (plain_base hp _ _)) fun τ H Q h => ?_
  obtain ⟨α, μ, σ, s, re, h⟩ := h
  simp only [ev] at h
  refine rd1 s re h fun α1 H1 μ1 d v e1 s1 r1 rv h1 => ?_
  cases d with
  | ptr q =>
    simp only at h1
    cases hq : μ1[q]? with
    | none => rw [hq] at h1; exact h1.elim
    | some o =>
      rw [hq] at h1
      cases o with
      | ins fs =>
        obtain ⟨d, e, h1⟩ := Pst.of h1
        simp only [RepV] at rv
        obtain ⟨l, hl, rfl⟩ := rv
        obtain ⟨dx, gs, h3, h4⟩ := s1.at_ q l _ hl hq
        obtain ⟨v', h5, h6⟩ := h4.get e
        exact ⟨l, g.T.rc, dx, gs, v', rfl, h3, hc, hn, h5, Pst.here h1 s1 h6⟩
      | _ => exact h1.elim
  | _ => exact h1.elim
/-! the table of the module -/
structure LenTab (X : Cx) where
  L : Addr
  es : Array DictEntry
  n : Nat
  mg : X.mg "LENGTHS" = some (.ref L)
  kd : KDict X.K X.w L es n
  at_ : ∀ s : List Nat, match lengths.lookup s with | some i => ∃ t, PySem.W.nsIn X.K L ⟨s.toArray⟩ = some (some (.int i t)) | none => PySem.W.nsIn X.K L ⟨s.toArray⟩ = some none
theorem lk_ok (T : LenTab X) (s : List Nat) : ∃ r, PySem.W.nsIn X.K T.L ⟨s.toArray⟩ = some r ∧ r.isSome = (lengths.lookup s).isSome := by
  have := T.at_ s
  cases h : lengths.lookup s with
  | none => rw [h] at this; exact ⟨none, this, rfl⟩
  | some i => rw [h] at this; obtain ⟨t, e⟩ := this; exact ⟨_, e, rfl⟩
theorem snd_inG (T : LenTab X) (hg : Gl X "LENGTHS") (ha : PE X a (rdE X.prog X.w X.K g ea)) : PE X (.Compare a [.In] [.Name "LENGTHS" p] pos) (rdE X.prog X.w X.K g (.inG true ea)) := by
  refine PE.imp (pe_cmpR (op_in_kd T.kd) ha (pe_glob (v := .ref T.L) hg T.mg rfl) rfl) fun τ H Q h => ?_
  obtain ⟨α, μ, σ, s, re, h⟩ := h
  simp only [ev] at h
  refine rd1 s re h fun α1 H1 μ1 d v e1 s1 r1 rv h1 => ?_
  cases d with
  | str z =>
    simp only [RepV] at rv
    obtain ⟨r, h2, h3⟩ := lk_ok T z
    refine ⟨_, r, rv, rfl, h2, ?_⟩
    rw [h3]
    exact Pst.here h1 s1 (by simp only [RepV]; rfl)
  | _ => exact h1.elim
theorem snt_inG (T : LenTab X) (hg : Gl X "LENGTHS") (ha : PE X a (rdE X.prog X.w X.K g ea)) : PT X (.Compare a [.In] [.Name "LENGTHS" p] pos) (rdT X.prog X.w X.K g (.inG true ea)) := by
  refine PT.imp (pt_cmpR (op_in_kd T.kd) ha (pe_glob (v := .ref T.L) hg T.mg rfl) rfl) fun τ H Q h => ?_
  obtain ⟨α, μ, σ, s, re, h⟩ := h
  simp only [ev] at h
  refine rd1 s re h fun α1 H1 μ1 d v e1 s1 r1 rv h1 => ?_
  cases d with
  | str z =>
    simp only [RepV] at rv
    obtain ⟨r, h2, h3⟩ := lk_ok T z
    refine ⟨_, r, rv, rfl, h2, ?_⟩
    rw [h3]
    exact Pst.here h1 s1 (by simp only [RepV]; rfl)
  | _ => exact h1.elim
theorem snd_notInG (T : LenTab X) (hg : Gl X "LENGTHS") (ha : PE X a (rdE X.prog X.w X.K g ea)) : PE X (.Compare a [.NotIn] [.Name "LENGTHS" p] pos) (rdE X.prog X.w X.K g (.inG false ea)) := by
  refine PE.imp (pe_cmpR (op_notIn_kd T.kd) ha (pe_glob (v := .ref T.L) hg T.mg rfl) rfl) fun τ H Q h => ?_
  obtain ⟨α, μ, σ, s, re, h⟩ := h
  simp only [ev] at h
  refine rd1 s re h fun α1 H1 μ1 d v e1 s1 r1 rv h1 => ?_
  cases d with
  | str z =>
    simp only [RepV] at rv
    obtain ⟨r, h2, h3⟩ := lk_ok T z
    refine ⟨_, r, rv, rfl, h2, ?_⟩
    rw [h3]
    exact Pst.here h1 s1 (by simp only [RepV]; rfl)
  | _ => exact h1.elim
theorem snt_notInG (T : LenTab X) (hg : Gl X "LENGTHS") (ha : PE X a (rdE X.prog X.w X.K g ea)) : PT X (.Compare a [.NotIn] [.Name "LENGTHS" p] pos) (rdT X.prog X.w X.K g (.inG false ea)) := by
  refine PT.imp (pt_cmpR (op_notIn_kd T.kd) ha (pe_glob (v := .ref T.L) hg T.mg rfl) rfl) fun τ H Q h => ?_
  obtain ⟨α, μ, σ, s, re, h⟩ := h
  simp only [ev] at h
  refine rd1 s re h fun α1 H1 μ1 d v e1 s1 r1 rv h1 => ?_
  cases d with
  | str z =>
    simp only [RepV] at rv
    obtain ⟨r, h2, h3⟩ := lk_ok T z
    refine ⟨_, r, rv, rfl, h2, ?_⟩
    rw [h3]
    exact Pst.here h1 s1 (by simp only [RepV]; rfl)
  | _ => exact h1.elim
theorem snd_getG (T : LenTab X) (hg : Gl X "LENGTHS") (ha : PE X a (rdE X.prog X.w X.K g ea)) (hp : plainE a = true) : PE X (.Subscript (.Name "LENGTHS" p) a pos) (rdE X.prog X.w X.K g (.getG ea)) := by
  refine PE.imp (pe_ix ix_kdict (pe_glob (v := .ref T.L) hg T.mg rfl) ha (plain_ix hp)) fun τ H Q h => ?_
  obtain ⟨α, μ, σ, s, re, h⟩ := h
  simp only [ev] at h
  refine rd1 s re h fun α1 H1 μ1 d v e1 s1 r1 rv h1 => ?_
  cases d with
  | str z =>
    simp only [RepV] at rv
    simp only at h1
    have hat := T.at_ z
    cases hl : lengths.lookup z with
    | none => rw [hl] at h1; exact h1.elim
    | some i =>
      rw [hl] at h1 hat
      obtain ⟨t, e⟩ := hat
      exact ⟨T.L, _, .int i, rfl, rv, ⟨T.es, T.n, _, T.kd.at_, T.kd.lit, e, ⟨t, rfl⟩⟩, Pst.here h1 s1 (by simp only [RepV])⟩
  | _ => exact h1.elim
end
end FH

set_option maxHeartbeats 1000000
/-! Calls of defs, of methods; objects made. -/
namespace FH
open PySem PySem.Spec PyProof.Rows L2
/-- the promise of a def: as the interpreter does -/
def spF (P : Program) (w : World) (K : PySem.W.Frag) (g : Gx) (f : F) : Sp := fun vs H Q E => ∃ ea α μ ds, RepS P w K ea g.T.rc α H μ ∧ RepVs K ea α H ds vs ∧ ds.length = (g.T.ps f).length ∧
  Pst P w K { g with ea := ea, cx := none, W := fun cv dd _ H' => E cv dd H' } (fun α H d v => RepV K ea α H d v) [] α H (callK g.Gam g.fu g.k f ds μ) Q
theorem callK_np {Gam : F → Fn} {fu : Nat} : ∀ {k : Nat} {f : F} {ds : List D} {μ : Store}, callK Gam fu k f ds μ ≠ .bad → ds.length = (Gam f).np
  | 0, f, ds, μ, h => absurd rfl h
  | k + 1, f, ds, μ, h => by
    by_cases e : ds.length = (Gam f).np
    · exact e
    · refine absurd ?_ h
      show runFn _ _ _ _ _ = _
      unfold runFn
      rw [if_neg e]
section
variable {X : Cx} {g : Gx} {pos p apos : Pos} {a b c o : Expr} {ea eb ec : E} {es : Es} {kk : Nat} {f : F}
theorem Pst.ne {P : Program} {w : World} {K : PySem.W.Frag} {A B : Type} {ρ : List Addr → Hp → A → B → Prop} {τ : L2.St} {α : List Addr} {H : Hp} {r : Res A} {Q : B → Hp → Prop} (h : Pst P w K g ρ τ α H r Q) : r ≠ .bad := by
  intro e; subst e; exact h
theorem sp_of {α : List Addr} {H : Hp} {μ : Store} {ds : List D} {vs : List V} {τ : L2.St} {Q : VK} (hnp : (g.T.ps f).length = (g.Gam f).np) (s : Rs X.prog X.w X.K g α H μ) (r : Rvs X.K g α H ds vs)
    (h : Pst X.prog X.w X.K g (Rv X.K g) τ α H (g.cl f ds μ) Q) : spF X.prog X.w X.K g f vs H Q (WE g.W τ) := by
  refine ⟨g.ea, α, μ, ds, s, r, ?_, ?_⟩
  · rw [hnp]; exact callK_np (Pst.ne h)
  · revert h
    show Pst X.prog X.w X.K g (Rv X.K g) τ α H (callK g.Gam g.fu g.k f ds μ) Q → _
    cases callK g.Gam g.fu g.k f ds μ with
    | ok d μ' => exact fun h => h
    | exc c d μ' => exact fun h => h
    | bad => exact fun h => h
theorem snd_call {x : Str} {rest : List Expr} (FF : FnOk X.prog X.w X.K X.mg X.base (L2.CX X.prog X.w) kk (g.T.fa f) (g.T.fd f) (g.T.ps f) (spF X.prog X.w X.K g f)) (hnp : (g.T.ps f).length = (g.Gam f).np) (hr : Room kk X.A) (hg : Gl X x) (hm : X.mg x = some (.ref (g.T.fa f)))
    (hk : PySem.W.keepIn X.K (.ref (g.T.fa f)) = true) (hb : Binds X.K (g.T.fd f) (g.T.ps f) []) (tk : Takes X g.W) (ha : PA X (a :: rest) (rdA X.prog X.w X.K g es)) (hp : plainE a = true) (hps : rest.all plainE = true) (hdb : (x == ("__debug__" : Str)) = false) :
    PE X (.Call (.Name x p) (a :: rest) [] pos) (rdE X.prog X.w X.K g (.call f es)) := by
  refine PE.imp (pe_callS FF hr hg hm hk hb (fun σ => passAt tk σ) ha hdb (star_of hp _ _) (star_any hps _ _)) fun τ H Q h => ?_
  obtain ⟨α, μ, σ, s, re, h⟩ := h
  simp only [ev] at h
  exact rdA1 s re h fun α1 H1 μ1 ds vs e1 s1 r1 rvs h1 => sp_of hnp s1 rvs h1
theorem pe_callS0 {CX : CXT} {k : Nat} {ff : Addr} {fd : FuncData} {ps : List Str} {sp : Sp} {E : L2.St → XK} {x : Str} (F : FnOk X.prog X.w X.K X.mg X.base CX k ff fd ps sp) (hr : Room k X.A) (hg : Gl X x) (hm : X.mg x = some (.ref ff)) (hk : PySem.W.keepIn X.K (.ref ff) = true) (hb : Binds X.K fd ps []) (hx : ∀ σ, PassesAt CX X σ (E σ))
    (hdb : (x == ("__debug__" : Str)) = false) : PE X (.Call (.Name x p) [] [] pos) (tCallS sp E tNil) := by
  refine ⟨fun pins s σ H Q I h => ?_⟩
  refine wpAny_Call_Name_kw (ld_glob I hg hm ?_ hdb)
  exact PySem.W.callWith_K0 I.kIn hk (run_fnS (us := []) F hr hb (hx σ) I .nil h)
theorem snd_call0 {x : Str} (FF : FnOk X.prog X.w X.K X.mg X.base (L2.CX X.prog X.w) kk (g.T.fa f) (g.T.fd f) (g.T.ps f) (spF X.prog X.w X.K g f)) (hnp : (g.T.ps f).length = (g.Gam f).np) (hr : Room kk X.A) (hg : Gl X x) (hm : X.mg x = some (.ref (g.T.fa f)))
    (hk : PySem.W.keepIn X.K (.ref (g.T.fa f)) = true) (hb : Binds X.K (g.T.fd f) (g.T.ps f) []) (tk : Takes X g.W) (hdb : (x == ("__debug__" : Str)) = false) :
    PE X (.Call (.Name x p) [] [] pos) (rdE X.prog X.w X.K g (.call f .nil)) := by
  refine PE.imp (pe_callS0 FF hr hg hm hk hb (fun σ => passAt tk σ) hdb) fun τ H Q h => ?_
  obtain ⟨α, μ, σ, s, re, h⟩ := h
  simp only [ev, evs, Res.bind_ok] at h
  exact sp_of hnp s (by simp only [RepVs]) h
theorem noX_ok {A : Type} {r : Res A} (h : r.noX ≠ .bad) : ∃ a μ, r = .ok a μ ∧ r.noX = .ok a μ := by
  cases r with
  | ok a μ => exact ⟨a, μ, rfl, rfl⟩
  | _ => exact absurd rfl h
theorem sp_ofN {α : List Addr} {H : Hp} {μ : Store} {ds : List D} {vs : List V} {τ : L2.St} {Q : VK} (hnp : (g.T.ps f).length = (g.Gam f).np) (s : Rs X.prog X.w X.K g α H μ) (r : Rvs X.K g α H ds vs)
    (h : Pst X.prog X.w X.K g (Rv X.K g) τ α H ((g.cl f ds μ).noX) Q) : spF X.prog X.w X.K g f vs H Q E0 := by
  obtain ⟨d, μ', e1, e2⟩ := noX_ok (Pst.ne h)
  rw [e2] at h
  have e1' : callK g.Gam g.fu g.k f ds μ = .ok d μ' := e1
  refine ⟨g.ea, α, μ, ds, s, r, ?_, ?_⟩
  · rw [hnp]; exact callK_np (by rw [e1']; exact fun z => by cases z)
  · rw [e1']; exact h
theorem meth_tree {x m : Str} {env : PySem.Env} (hline : (apos.endLine == pos.line) = true) : eval (.Call (.Attribute (.Name x p) m apos) [] [] pos) env = (do
      let ov ← eval (.Name x p) env
      standAt apos.atName
      let (f, first) ← holding [ov] (getMethod ov m (do return (← importBound (.Name x p) env).getD true))
      callWith pos f first (backTo pos (starEach [] env)) (backToKw pos (keywordEach [] env))) := by
  have h : ∀ ov, methodCall (.Name x p) m apos pos env ov 0 (backTo pos (starEach [] env)) (backToKw pos (keywordEach [] env)) = (do
      let (f, first) ← holding [ov] (getMethod ov m (do return (← importBound (.Name x p) env).getD true))
      callWith pos f first (backTo pos (starEach [] env)) (backToKw pos (keywordEach [] env))) := by
    intro ov
    unfold methodCall methodCallPos
    rw [hline]
    rfl
  show (do
      let ov ← eval (.Name x p) env
      standAt apos.atName
      methodCall (.Name x p) m apos pos env ov 0 (backTo pos (starEach [] env)) (backToKw pos (keywordEach [] env))) = _
  simp only [h]
theorem snd_meth {x m : Str} (ho : PE X (.Name x p) (rdE X.prog X.w X.K g ea)) (hc : Cls X.K g.T.rc) (hmt : Meth X.K g.T.rc m (g.T.fa f)) (FF : FnOk X.prog X.w X.K X.mg X.base (L2.CX X.prog X.w) kk (g.T.fa f) (g.T.fd f) (g.T.ps f) (spF X.prog X.w X.K g f)) (hnp : (g.T.ps f).length = (g.Gam f).np) (hr : Room kk X.A)
    (hb : Binds X.K (g.T.fd f) (g.T.ps f) []) (hnf : ∀ f' : Fld, fname f' ≠ m) (hline : (apos.endLine == pos.line) = true) : PE X (.Call (.Attribute (.Name x p) m apos) [] [] pos) (rdE X.prog X.w X.K g (.meth f ea)) := by
  refine PE.imp (pe_meth0 ho hc hmt FF hr hb .nil passL (meth_tree hline)) fun τ H Q h => ?_
  obtain ⟨α, μ, σ, s, re, h⟩ := h
  simp only [ev] at h
  refine rd1 s re h fun α1 H1 μ1 d v e1 s1 r1 rv h1 => ?_
  cases d with
  | ptr q =>
    simp only at h1
    cases hq : μ1[q]? with
    | none => rw [hq] at h1; exact h1.elim
    | some o =>
      rw [hq] at h1
      cases o with
      | ins fs =>
        have rv' := rv
        simp only [RepV] at rv
        obtain ⟨l, hl, rfl⟩ := rv
        obtain ⟨dx, gs, h3, h4⟩ := s1.at_ q l _ hl hq
        refine ⟨l, dx, gs, rfl, h3, ?_, ?_⟩
        · have : ∀ {fs : List (Fld × D)} {gs : List (Str × V)}, RepFs X.K g.ea α1 H1 fs gs → gs.lookup m = none := by
            intro fs
            induction fs with
            | nil => intro gs h; cases (show gs = [] from h); rfl
            | cons fd r ih =>
              intro gs h
              obtain ⟨f', d'⟩ := fd
              obtain ⟨v', q', rfl, _, h2⟩ := h
              rw [List.lookup_cons]
              have hne : (m == fname f') = false := beq_eq_false_iff_ne.mpr fun z => hnf f' z.symm
              rw [hne]; exact ih h2
          exact this h4
        · show spF X.prog X.w X.K g f (.ref l :: ([] ++ [])) H1 Q E0
          exact sp_ofN hnp s1 (RepVs.one rv') h1
      | _ => exact h1.elim
  | _ => exact h1.elim
theorem snd_make {x : Str} {rest : List Expr} (M : Mk X.K g.T.rc (g.T.fa f)) (FF : FnOk X.prog X.w X.K X.mg X.base (L2.CX X.prog X.w) kk (g.T.fa f) (g.T.fd f) (g.T.ps f) (spF X.prog X.w X.K g f)) (hnp : (g.T.ps f).length = (g.Gam f).np) (hr : Room (kk + 1) X.A) (hg : Gl X x) (hm : X.mg x = some (.ref g.T.rc))
    (hb : Binds X.K (g.T.fd f) (g.T.ps f) []) (ha : PA X (a :: rest) (rdA X.prog X.w X.K g es)) (hp : plainE a = true) (hps : rest.all plainE = true) (hdb : (x == ("__debug__" : Str)) = false) :
    PE X (.Call (.Name x p) (a :: rest) [] pos) (rdE X.prog X.w X.K g (.make f es)) := by
  refine PE.imp (pe_make M FF hr hg hm hb .nil passL ha hdb (star_of hp _ _) (star_any hps _ _)) fun τ H Q h => ?_
  obtain ⟨α, μ, σ, s, re, h⟩ := h
  simp only [ev] at h
  refine rdA1 s re h fun α1 H1 μ1 ds vs e1 s1 r1 rvs h1 => ?_
  intro l dx hl hdx hne
  have hl2 : (upd H1 dx (.own l)) l = none := by rw [upd_ne (Ne.symm hne)]; exact hl
  have s2 := s1.new (o := .own l) hdx
  have e2 := Ext.new (o := .own l) s1 hdx
  have s3 : Rs X.prog X.w X.K g (α1 ++ [l]) (upd (upd H1 dx (.own l)) l (.ins g.T.rc dx [])) (μ1 ++ [.ins []]) := s2.alloc hl2 ⟨dx, [], upd_same, rfl⟩
  have e3 := Ext.alloc (o := .ins g.T.rc dx []) s2 hl2
  have rp : RepV X.K g.ea (α1 ++ [l]) (upd (upd H1 dx (.own l)) l (.ins g.T.rc dx [])) (.ptr μ1.length) (.ref l) := by
    simp only [RepV]
    refine ⟨l, ?_, rfl⟩
    rw [← s1.len, List.getElem?_append_right (Nat.le_refl _)]
    simp
  rw [List.append_nil]
  refine sp_ofN (τ := τ) hnp s3 (ds := .ptr μ1.length :: ds) ?_ ?_
  · simp only [RepVs]
    exact ⟨_, _, rfl, rp, RepVs.mono (e2.trans e3) _ _ rvs⟩
  · have h2 := Pst.ext (e2.trans e3) h1
    revert h2
    show Pst X.prog X.w X.K g (Rv X.K g) τ _ _ ((g.cl f (.ptr μ1.length :: ds) (μ1 ++ [.ins []])).noX.bind _) Q → _
    cases (g.cl f (.ptr μ1.length :: ds) (μ1 ++ [.ins []])).noX with
    | ok d μ' =>
      intro h2 α' H' v e4 s4 r4
      cases d with
      | non =>
        simp only [RepV] at r4
        exact ⟨r4, h2 α' H' _ e4 s4 (RepV.mono e4 _ _ rp)⟩
      | _ => exact h2.elim
    | exc c d μ' => exact fun h2 => h2
    | bad => exact fun h2 => h2
end
end FH

set_option maxHeartbeats 1000000
/-! What is walked; comprehensions. -/
namespace FH
open PySem PySem.Spec PyProof.Rows L2
/-- the walk J gives the values vs, one after another -/
def Wk (J : It) (vs : List V) (H : Hp) : Prop := ∀ i : Nat, (∀ v, vs[i]? = some v → J.go i H ∧ ∀ x H2, J.yld i H x H2 → H2 = H ∧ x = v) ∧ (vs.length ≤ i → J.stop i H)
def Walks (K : PySem.W.Frag) (ea : Rm) (α : List Addr) (H : Hp) (src : Src) (J : It) : Prop :=
  match src with
  | .vals xs => ∃ vs, RepVs K ea α H xs vs ∧ ∀ α1 H1, Ext α H α1 H1 → Wk J vs H1
  | .at_ p => ∃ l, α[p]? = some l ∧ ∀ H1 vs, H1 l = some (.lst vs) → Wk J vs H1
def rdI (P : Program) (w : World) (K : PySem.W.Frag) (g : Gx) (it : I) : TI := fun τ H R => ∃ α μ σ, Rs P w K g α H μ ∧ RepE K g.ea α H σ τ ∧ Pst P w K g (Walks K g.ea) τ α H (evI g.cl g.cx it σ μ) R
section
variable {X : Cx} {g : Gx} {pos p p1 apos : Pos} {tg a b c o : Expr} {ea eb ec : E} {es : Es} {kk : Nat} {f : F} {α : List Addr} {H : Hp} {μ : Store}
theorem wk_list {K : PySem.W.Frag} {l : Addr} {vs : List V} {H : Hp} (h : SqL K H l vs) : Wk (Itl K l) vs H := fun i =>
  ⟨fun v e => ⟨⟨vs, v, h, e⟩, fun x H2 y => ⟨y.1, by have := y.2 vs h; rw [e] at this; exact (Option.some.inj this).symm⟩⟩, fun hl => ⟨vs, h, hl⟩⟩
theorem wk_tup {K : PySem.W.Frag} {l : Addr} {vs : List V} {H : Hp} (h : SqT K H l vs) : Wk (Itt K l) vs H := fun i =>
  ⟨fun v e => ⟨⟨vs, v, h, e⟩, fun x H2 y => ⟨y.1, by have := y.2 vs h; rw [e] at this; exact (Option.some.inj this).symm⟩⟩, fun hl => ⟨vs, h, hl⟩⟩
theorem wk_rev {K : PySem.W.Frag} {l : Addr} {vs : List V} {H : Hp} (h : SqT K H l vs) : Wk (RT.ItvT K l vs.length) vs.reverse H := fun i => by
  refine ⟨fun v e => ?_, fun hl => by rw [List.length_reverse] at hl; exact hl⟩
  have hi : i < vs.length := by
    have := (List.getElem?_eq_some_iff.mp e).1
    rwa [List.length_reverse] at this
  rw [List.getElem?_reverse hi] at e
  have e' : vs[vs.length - 1 - i]? = some v := e
  exact ⟨⟨hi, vs, v, h, e'⟩, fun x H2 y => ⟨y.1, by have := y.2 vs h; rw [e'] at this; exact (Option.some.inj this).symm⟩⟩
theorem wk_str {s : List Nat} {H : Hp} : Wk (Its ⟨s.toArray⟩) (s.map fun c => V.str ⟨#[c]⟩) H := fun i => by
  refine ⟨fun v e => ?_, fun hl => by simpa [Its] using hl⟩
  rw [List.getElem?_map] at e
  obtain ⟨c, e1, rfl⟩ := Option.map_eq_some_iff.mp e
  have hi : i < s.length := (List.getElem?_eq_some_iff.mp e1).1
  refine ⟨by simpa [Its] using hi, fun x H2 y => ⟨y.1, ?_⟩⟩
  obtain ⟨c', h1, h2⟩ := y.2
  have h1' : s[i]? = some c' := by simpa using h1
  rw [e1] at h1'
  cases h1'
  exact h2
theorem rep_signs {K : PySem.W.Frag} {ea : Rm} : ∀ s : List Nat, RepVs K ea α H (s.map fun c => D.str [c]) (s.map fun c => V.str ⟨#[c]⟩)
  | [] => by simp only [List.map_nil, RepVs]
  | c :: s => by
    simp only [List.map_cons, RepVs]
    exact ⟨_, _, rfl, by simp only [RepV], rep_signs s⟩
theorem snd_seq (ha : PE X a (rdE X.prog X.w X.K g ea)) : PI X tg a (rdI X.prog X.w X.K g (.seq ea)) := by
  refine PI.imp (PI.or (pi_list ha) (PI.or (pi_tup ha) (pi_str ha))) fun τ H R h => ?_
  obtain ⟨α, μ, σ, s, re, h⟩ := h
  simp only [evI] at h
  have key := Pst.bind (ρ := Rv X.K g) h
  -- which kind of thing it is
  cases q : ev g.cl g.cx ea σ μ with
  | bad => rw [q] at key; exact key.elim
  | exc c d μ1 =>
    rw [q] at key
    exact .inl ⟨α, μ, σ, s, re, by rw [q]; exact key⟩
  | ok d μ1 =>
    rw [q] at h
    simp only [Res.bind_ok] at h
    obtain ⟨src, e, h⟩ := Pst.of h
    cases d with
    | str z =>
      simp only [srcD, Option.some.injEq] at e; subst e
      refine .inr (.inr ⟨α, μ, σ, s, re, ?_⟩)
      rw [q]
      intro α1 H1 v e1 s1 r1
      simp only [RepV] at r1
      exact ⟨_, r1, h α1 H1 _ e1 s1 ⟨_, rep_signs z, fun _ _ _ => wk_str⟩⟩
    | tup xs =>
      simp only [srcD, Option.some.injEq] at e; subst e
      refine .inr (.inl ⟨α, μ, σ, s, re, ?_⟩)
      rw [q]
      intro α1 H1 v e1 s1 r1
      simp only [RepV] at r1
      obtain ⟨l, vs, rfl, ht, hr⟩ := r1
      exact ⟨l, rfl, ⟨vs, ht.sq⟩, h α1 H1 _ e1 s1 ⟨vs, hr, fun _ _ e2 => wk_tup (e2.tupAt ht).sq⟩⟩
    | lst xs =>
      simp only [srcD, Option.some.injEq] at e; subst e
      refine .inl ⟨α, μ, σ, s, re, ?_⟩
      rw [q]
      intro α1 H1 v e1 s1 r1
      simp only [RepV] at r1
      obtain ⟨l, vs, rfl, ht, hn, _, hr⟩ := r1
      exact ⟨l, rfl, ⟨vs, SqL.of ht⟩, h α1 H1 _ e1 s1 ⟨vs, hr, fun _ _ e2 => wk_list (SqL.of (e2.frame _ _ ht hn).1)⟩⟩
    | ptr pp =>
      simp only [srcD] at e
      split at e
      · rename_i xs hx
        cases e
        refine .inl ⟨α, μ, σ, s, re, ?_⟩
        rw [q]
        intro α1 H1 v e1 s1 r1
        have r1' := r1
        simp only [RepV] at r1
        obtain ⟨l, hl, rfl⟩ := r1
        obtain ⟨vs, h3, _⟩ := s1.at_ pp l _ hl hx
        exact ⟨l, rfl, ⟨vs, SqL.of h3⟩, h α1 H1 _ e1 s1 ⟨l, hl, fun _ _ h4 => wk_list (SqL.of h4)⟩⟩
      · cases e
    | _ => simp [srcD] at e
theorem snd_rev (ha : PE X a (rdE X.prog X.w X.K g ea)) (hp : plainE a = true) (hg : Gl X "reversed") (hm : X.mg "reversed" = none) : PI X tg (.Call (.Name "reversed" p) [a] [] pos) (rdI X.prog X.w X.K g (.rev ea)) := by
  refine PI.imp (RT.pi_revA hg hm ha (star_of hp _ _)) fun τ H R h => ?_
  obtain ⟨α, μ, σ, s, re, h⟩ := h
  simp only [evI] at h
  refine rd1 s re h fun α1 H1 μ1 d v e1 s1 r1 rv h1 => ?_
  cases d with
  | tup xs =>
    simp only [RepV] at rv
    obtain ⟨l, vs, rfl, ht, hr⟩ := rv
    exact ⟨l, vs, rfl, .inr ⟨ht.sq, h1 α1 H1 _ Ext.refl s1 ⟨vs.reverse, hr.reverse, fun _ _ e2 => wk_rev (e2.tupAt ht).sq⟩⟩⟩
  | _ => exact h1.elim
/-! ranges -/
theorem range_get (lo st : Int) : ∀ (n i : Nat), i < n → (rangeFrom lo st n)[i]? = some (.int (lo + i * st))
  | 0, i, h => absurd h (Nat.not_lt_zero _)
  | n + 1, 0, _ => by simp [rangeFrom]
  | n + 1, i + 1, h => by
    show (rangeFrom (lo + st) st n)[i]? = _
    rw [range_get (lo + st) st n i (by omega)]
    congr 2
    rw [Int.natCast_succ, Int.add_mul]
    omega
theorem range_len (lo st : Int) : ∀ n : Nat, (rangeFrom lo st n).length = n
  | 0 => rfl
  | n + 1 => by show (rangeFrom (lo + st) st n).length + 1 = _; rw [range_len]
def vrange (lo st : Int) : Nat → List V
  | 0 => []
  | n + 1 => .int lo :: vrange (lo + st) st n
theorem vrange_len (lo st : Int) : ∀ n : Nat, (vrange lo st n).length = n
  | 0 => rfl
  | n + 1 => by show (vrange (lo + st) st n).length + 1 = _; rw [vrange_len]
theorem vrange_get (lo st : Int) : ∀ (n i : Nat), i < n → (vrange lo st n)[i]? = some (.int (lo + i * st))
  | 0, i, h => absurd h (Nat.not_lt_zero _)
  | n + 1, 0, _ => by simp [vrange]
  | n + 1, i + 1, h => by
    show (vrange (lo + st) st n)[i]? = _
    rw [vrange_get (lo + st) st n i (by omega)]
    congr 2
    rw [Int.natCast_succ, Int.add_mul]
    omega
theorem rep_range {K : PySem.W.Frag} {ea : Rm} : ∀ (lo st : Int) (n : Nat), RepVs K ea α H (rangeFrom lo st n) (vrange lo st n)
  | _, _, 0 => by simp only [rangeFrom, vrange, RepVs]
  | lo, st, n + 1 => by
    simp only [rangeFrom, vrange, RepVs]
    exact ⟨_, _, rfl, by simp only [RepV], rep_range _ _ n⟩
theorem wk_range {lo : Int} {n : Nat} {H : Hp} : Wk (Itr lo n) (vrange lo 1 n) H := fun i => by
  refine ⟨fun v e => ?_, fun hl => by rw [vrange_len] at hl; exact hl⟩
  have hi : i < n := by have := (List.getElem?_eq_some_iff.mp e).1; rwa [vrange_len] at this
  rw [vrange_get _ _ _ _ hi] at e
  cases e
  exact ⟨hi, fun x H2 y => ⟨y.1, by rw [y.2]; congr 1; omega⟩⟩
theorem wk_rangeC {lo c : Int} {n : Nat} {H : Hp} : Wk (Itc lo c n) (vrange lo c n) H := fun i => by
  refine ⟨fun v e => ?_, fun hl => by rw [vrange_len] at hl; exact hl⟩
  have hi : i < n := by have := (List.getElem?_eq_some_iff.mp e).1; rwa [vrange_len] at this
  rw [vrange_get _ _ _ _ hi] at e
  cases e
  exact ⟨hi, fun x H2 y => ⟨y.1, y.2⟩⟩
theorem big_ok {i : Int} (h : big i = true) : -(2 ^ 40) < i ∧ i < 2 ^ 40 := by
  have h := Nat.le_of_ble_eq_true h
  omega
theorem rng_read {τ : L2.St} {R : It → Hp → Prop} (h : rdI X.prog X.w X.K g (.rng es) τ H R) : rdA X.prog X.w X.K g es τ H fun vs H1 =>
    (∃ j : Int, vs = [.int j] ∧ -(2 ^ 62) ≤ j ∧ j < 2 ^ 62 ∧ R (Itr 0 j.toNat) H1) ∨ (∃ i j : Int, vs = [.int i, .int j] ∧ (-(2 ^ 62) ≤ i ∧ i < 2 ^ 62 ∧ -(2 ^ 62) ≤ j ∧ j < 2 ^ 62) ∧ R (Itr i (j - i).toNat) H1) ∨
    (∃ i j c : Int, vs = [.int i, .int j, .int c] ∧ (big i = true ∧ big j = true ∧ 0 < c ∧ c < 1000) ∧ R (Itc i c ((j - i + c - 1) / c).toNat) H1) := by
  obtain ⟨α, μ, σ, s, re, h⟩ := h
  simp only [evI] at h
  refine rdA1 s re h fun α1 H1 μ1 ds vs e1 s1 r1 rvs h1 => ?_
  cases hr : rngD ds with
  | none => rw [hr] at h1; exact h1.elim
  | some xs =>
    rw [hr] at h1
    simp only [Res.of_some, Res.bind_ok] at h1
    unfold rngD at hr
    split at hr
    · split at hr
      · rename_i j hb
        cases hr
        obtain ⟨v, rfl, rv⟩ := RepVs.one_of rvs
        simp only [RepV] at rv; subst rv
        obtain ⟨b1, b2⟩ := big_ok hb
        exact .inl ⟨j, rfl, by omega, by omega, h1 α1 H1 _ Ext.refl s1 ⟨_, rep_range 0 1 j.toNat, fun _ _ _ => wk_range⟩⟩
      · cases hr
    · split at hr
      · rename_i i j hb
        cases hr
        rw [Bool.and_eq_true] at hb
        obtain ⟨v, v', rfl, rv, rv'⟩ := RepVs.two_of rvs
        simp only [RepV] at rv rv'; subst rv; subst rv'
        obtain ⟨b1, b2⟩ := big_ok hb.1
        obtain ⟨b3, b4⟩ := big_ok hb.2
        exact .inr (.inl ⟨i, j, rfl, ⟨by omega, by omega, by omega, by omega⟩, h1 α1 H1 _ Ext.refl s1 ⟨_, rep_range i 1 _, fun _ _ _ => wk_range⟩⟩)
      · cases hr
    · split at hr
      · rename_i i j c hb
        cases hr
        simp only [Bool.and_eq_true, decide_eq_true_eq] at hb
        simp only [RepVs] at rvs
        obtain ⟨v, r, rfl, rv, v', r', rfl, rv', v'', r'', rfl, rv'', rfl⟩ := rvs
        simp only [RepV] at rv rv' rv''; subst rv; subst rv'; subst rv''
        exact .inr (.inr ⟨i, j, c, rfl, ⟨hb.1.1.1, hb.1.1.2, hb.1.2, hb.2⟩, h1 α1 H1 _ Ext.refl s1 ⟨_, rep_range i c _, fun _ _ _ => wk_rangeC⟩⟩)
      · cases hr
    · cases hr
end
end FH

set_option maxHeartbeats 1000000
/-! Ranges; comprehensions. -/
namespace FH
open PySem PySem.Spec PyProof.Rows L2
def Es.len : Es → Nat
  | .nil => 0
  | .cons _ es => es.len + 1
theorem evs_len {cl : Calls} {cx : Option (Cl × D)} : ∀ {es : Es} {σ : Env} {μ μ' : Store} {ds : List D}, evs cl cx es σ μ = .ok ds μ' → ds.length = es.len
  | .nil, σ, μ, μ', ds, h => by simp only [evs] at h; cases h; rfl
  | .cons e es, σ, μ, μ', ds, h => by
    simp only [evs] at h
    cases h1 : ev cl cx e σ μ with
    | ok d μ1 =>
      rw [h1] at h
      simp only [Res.bind_ok] at h
      cases h2 : evs cl cx es σ μ1 with
      | ok ds2 μ2 =>
        rw [h2] at h
        simp only [Res.bind_ok] at h
        cases h
        rw [List.length_cons, evs_len h2]; rfl
      | exc c d μ => rw [h2] at h; cases h
      | bad => rw [h2] at h; cases h
    | exc c d μ => rw [h1] at h; cases h
    | bad => rw [h1] at h; cases h
section
variable {X : Cx} {g : Gx} {pos p p1 apos : Pos} {tg a b c o : Expr} {ea eb ec : E} {es : Es} {kk : Nat} {f : F} {α : List Addr} {H : Hp} {μ : Store}
theorem rdA_len {τ : L2.St} {Q : List V → Hp → Prop} (h : rdA X.prog X.w X.K g es τ H Q) : rdA X.prog X.w X.K g es τ H fun vs H' => vs.length = es.len ∧ Q vs H' := by
  obtain ⟨α, μ, σ, s, re, h⟩ := h
  refine ⟨α, μ, σ, s, re, ?_⟩
  revert h
  cases q : evs g.cl g.cx es σ μ with
  | ok ds μ1 => exact fun h α1 H1 vs e1 s1 r1 => ⟨by rw [r1.len, evs_len q], h α1 H1 vs e1 s1 r1⟩
  | exc c d μ1 => exact fun h => h
  | bad => exact fun h => h
theorem rdA_imp {τ : L2.St} {Q Q' : List V → Hp → Prop} (h : rdA X.prog X.w X.K g es τ H Q) (hq : ∀ vs H', Q vs H' → Q' vs H') : rdA X.prog X.w X.K g es τ H Q' := by
  obtain ⟨α, μ, σ, s, re, h⟩ := h
  exact ⟨α, μ, σ, s, re, Pst.imp h hq⟩
theorem snd_rng1 (ha : PA X [a] (rdA X.prog X.w X.K g es)) (hn : es.len = 1) (hp : plainE a = true) (hg : Gl X "range") (hm : X.mg "range" = none) : PI X tg (.Call (.Name "range" p) [a] [] pos) (rdI X.prog X.w X.K g (.rng es)) := by
  refine PI.imp (pi_range1 hg hm ha (star_of hp _ _)) fun τ H R h => ?_
  refine rdA_imp (rdA_len (rng_read h)) fun vs H' ⟨hl, q⟩ => ?_
  rw [hn] at hl
  rcases q with q | ⟨i, j, rfl, _⟩ | ⟨i, j, c, rfl, _⟩
  · exact q
  · simp at hl
  · simp at hl
theorem snd_rng2 (ha : PA X [a, b] (rdA X.prog X.w X.K g es)) (hn : es.len = 2) (hp : plainE a = true) (hp2 : plainE b = true) (hg : Gl X "range") (hm : X.mg "range" = none) : PI X tg (.Call (.Name "range" p) [a, b] [] pos) (rdI X.prog X.w X.K g (.rng es)) := by
  refine PI.imp (pi_range2 hg hm ha (by rw [star_of hp, star_of hp2]; rfl) (by rw [star_of hp2]; rfl)) fun τ H R h => ?_
  refine rdA_imp (rdA_len (rng_read h)) fun vs H' ⟨hl, q⟩ => ?_
  rw [hn] at hl
  rcases q with ⟨j, rfl, _⟩ | q | ⟨i, j, c, rfl, _⟩
  · simp at hl
  · exact q
  · simp at hl
theorem range_c {i j c : Int} (h1 : big i = true) (h2 : big j = true) (h3 : 0 < c) (h4 : c < 1000) : RgC i j c ((j - i + c - 1) / c).toNat := by
  obtain ⟨a1, a2⟩ := big_ok h1
  obtain ⟨b1, b2⟩ := big_ok h2
  have e1 : (j - i + c - 1) / c = (j - i - 1) / c + 1 := by
    have e : j - i + c - 1 = (j - i - 1) + 1 * c := by omega
    rw [e, Int.add_mul_ediv_right _ _ (by omega)]
  have e2 : Builtin.Range.rangeSize i j c = ((j - i + c - 1) / c).toNat := by
    unfold Builtin.Range.rangeSize
    rw [if_pos h3, e1]
    split
    · have : 0 ≤ (j - i - 1) / c := Int.ediv_nonneg (by omega) (by omega)
      omega
    · have : (j - i - 1) / c < 0 := Int.ediv_neg_of_neg_of_pos (by omega) h3
      omega
  have e3 : (((j - i + c - 1) / c).toNat : Int) ≤ 2 ^ 41 + 1 := by
    rw [e1]
    by_cases hij : i < j
    · have : (j - i - 1) / c ≤ j - i - 1 := Int.ediv_le_self _ (by omega)
      omega
    · have : (j - i - 1) / c < 0 := Int.ediv_neg_of_neg_of_pos (by omega) h3
      omega
  refine ⟨by omega, by omega, ?_, e2⟩
  unfold Builtin.Range.small
  rw [e2]
  simp only [Builtin.Range.rangeFitsLong, Bool.and_eq_true, Bool.or_eq_true, decide_eq_true_eq, beq_iff_eq, gt_iff_lt, h3, if_true]
  omega
theorem snd_rng3 (ha : PA X [a, b, c] (rdA X.prog X.w X.K g es)) (hn : es.len = 3) (hp : plainE a = true) (hp2 : plainE b = true) (hp3 : plainE c = true) (hg : Gl X "range") (hm : X.mg "range" = none) : PI X tg (.Call (.Name "range" p) [a, b, c] [] pos) (rdI X.prog X.w X.K g (.rng es)) := by
  refine PI.imp (pi_range3 hg hm ha (star_of hp _ _) (star_any (es := [b, c]) (by simp [hp2, hp3]) _ _)) fun τ H R h => ?_
  refine rdA_imp (rdA_len (rng_read h)) fun vs H' ⟨hl, q⟩ => ?_
  rw [hn] at hl
  rcases q with ⟨j, rfl, _⟩ | ⟨i, j, rfl, _⟩ | ⟨i, j, c, rfl, ⟨h1, h2, h3, h4⟩, q⟩
  · simp at hl
  · simp at hl
  · exact ⟨i, j, c, _, rfl, range_c h1 h2 h3 h4, q⟩
/-! comprehensions -/
theorem PE.ex {A : Type} {t : A → TE} (h : ∀ x, PE X a (t x)) : PE X a (fun σ H Q => ∃ x, t x σ H Q) := ⟨fun pins s σ H Q I ⟨x, q⟩ => (h x).run pins s σ H Q I q⟩
theorem PT.ex {A : Type} {t : A → TT} (h : ∀ x, PT X a (t x)) : PT X a (fun σ H Q => ∃ x, t x σ H Q) := ⟨fun pins s σ H Q I ⟨x, q⟩ => (h x).run pins s σ H Q I q⟩
/-- the wish within a comprehension: nothing is raised; the lists that are being made -/
abbrev Gx.inn (g : Gx) (ξ : List Addr) : Gx := { g with ea := (g.ea.1, ξ), W := fun _ _ _ _ => False }
theorem Chg.grow {K : PySem.W.Frag} {e0 : Option Xc} {d : Addr} {ξ : List Addr} {α α' : List Addr} {H H' : Hp} (e : Ext α H α' H') (hd : H d = none) : Chg K (e0, ξ) α H (e0, d :: ξ) α' H' := by
  refine ⟨rfl, fun p a h => e.get h, fun a vs h => e.tupAt h, fun a vs h => e.rolAt h, fun a vs h1 h2 h3 => ?_, fun a fs h n => e.frame _ _ h n⟩
  obtain ⟨g1, g2⟩ := e.frame _ _ h1 h2
  refine ⟨g1, g2, fun hm => ?_⟩
  rcases List.mem_cons.mp hm with rfl | hm
  · rw [hd] at h1; cases h1
  · exact h3 hm
/-- the list that is being made is written over -/
theorem Chg.put {K : PySem.W.Frag} {e0 : Option Xc} {d : Addr} {ξ : List Addr} {α : List Addr} {H : Hp} {vs : List V} {o : HO} (hd : H d = some (.lst vs)) : Chg K (e0, d :: ξ) α H (e0, d :: ξ) α (upd H d o) := by
  refine ⟨rfl, fun p a h => h, fun a ws h => ?_, fun a ws h => ?_, fun a ws h1 h2 h3 => ⟨?_, h2, h3⟩, fun a fs h n => ⟨by rw [upd_ne (ne_of h hd (by intro z; cases z))]; exact h, n⟩⟩
  · rcases h with ⟨h | ⟨ob, h⟩, n⟩ | h
    · exact .inl ⟨.inl (by rw [upd_ne (ne_of h hd (by intro z; cases z))]; exact h), n⟩
    · exact .inl ⟨.inr ⟨ob, by rw [upd_ne (ne_of h hd (by intro z; cases z))]; exact h⟩, n⟩
    · exact .inr h
  · rcases h with ⟨⟨ob, h⟩, n⟩ | h
    · exact .inl ⟨⟨ob, by rw [upd_ne (ne_of h hd (by intro z; cases z))]; exact h⟩, n⟩
    · exact .inr h
  · rw [upd_ne (fun z => h3 (by rw [z]; exact List.mem_cons_self))]; exact h1
theorem RepS.put {P : Program} {w : World} {K : PySem.W.Frag} {rc : Addr} {e0 : Option Xc} {d : Addr} {ξ : List Addr} {α : List Addr} {H : Hp} {μ : Store} {vs : List V} {o : HO} (S : RepS P w K (e0, d :: ξ) rc α H μ) (hd : H d = some (.lst vs)) : RepS P w K (e0, d :: ξ) rc α (upd H d o) μ := by
  have hn : d ∉ α := (S.xi d List.mem_cons_self).2
  refine ⟨S.len, S.nd, fun q a ob h1 h2 => (S.at_ q a ob h1 h2).chg (Chg.put hd) (upd_ne ?_), fun a ha => ?_⟩
  · rintro rfl; exact hn (List.mem_of_getElem? h1)
  · obtain ⟨⟨u, h⟩, n⟩ := S.xi a ha
    by_cases e : a = d
    · subst e; exact ⟨⟨o, upd_same⟩, n⟩
    · exact ⟨⟨u, by rw [upd_ne e]; exact h⟩, n⟩
theorem lc_wipe {τ : L2.St} {i : Nat} {v : V} : wipe ((wipe τ [i]).set i (some v)) [i] = wipe τ [i] := by simp [wipe, List.set_set]
theorem lc_slot {τ : L2.St} {i : Nat} {v : V} : (wipe τ [i]).set i (some v) = τ.set i (some v) := by simp [wipe, List.set_set]
theorem src_get {K : PySem.W.Frag} {P : Program} {w : World} {rc : Addr} {ea ea' : Rm} {α α' : List Addr} {H H' : Hp} {μ : Store} {src : Src} {J : It} (hw : Walks K ea α H src J) (e : Ext α H α' H') (c : Chg K ea α H ea' α' H') (s : RepS P w K ea' rc α' H' μ) {i : Nat} {d : D} (h : src.get i μ = some d) :
    ∃ v, J.go i H' ∧ (∀ x H2, J.yld i H' x H2 → H2 = H' ∧ x = v) ∧ RepV K ea' α' H' d v := by
  cases src with
  | vals xs =>
    obtain ⟨vs, hr, hk⟩ := hw
    obtain ⟨v, h1, h2⟩ := (RepVs.chg c _ _ hr).get h
    obtain ⟨k1, k2⟩ := (hk α' H' e i).1 v h1
    exact ⟨v, k1, k2, h2⟩
  | at_ q =>
    obtain ⟨l, hl, hk⟩ := hw
    have h : (match μ[q]? with | some (.lst xs) => xs[i]? | _ => none) = some d := h
    obtain ⟨ob, h1, h2⟩ := s.look (e.get hl)
    rw [h1] at h
    cases ob with
    | lst xs =>
      obtain ⟨vs, h3, h4⟩ := h2
      obtain ⟨v, h5, h6⟩ := h4.get h
      obtain ⟨k1, k2⟩ := (hk H' vs h3 i).1 v h5
      exact ⟨v, k1, k2, h6⟩
    | dic kvs => cases h
    | ins fs => cases h
theorem src_stop {K : PySem.W.Frag} {P : Program} {w : World} {rc : Addr} {ea ea' : Rm} {α α' : List Addr} {H H' : Hp} {μ : Store} {src : Src} {J : It} (hw : Walks K ea α H src J) (e : Ext α H α' H') (s : RepS P w K ea' rc α' H' μ) {i : Nat} (h : src.len μ = some i) : J.stop i H' := by
  cases src with
  | vals xs =>
    obtain ⟨vs, hr, hk⟩ := hw
    have h : some xs.length = some i := h
    cases h
    exact (hk α' H' e _).2 (by rw [hr.len]; exact Nat.le_refl _)
  | at_ q =>
    obtain ⟨l, hl, hk⟩ := hw
    have h : (match μ[q]? with | some (.lst xs) => some xs.length | _ => none) = some i := h
    obtain ⟨ob, h1, h2⟩ := s.look (e.get hl)
    rw [h1] at h
    cases ob with
    | lst xs =>
      obtain ⟨vs, h3, h4⟩ := h2
      cases h
      exact (hk H' vs h3 _).2 (by rw [h4.len]; exact Nat.le_refl _)
    | dic kvs => cases h
    | ins fs => cases h
theorem lcLoop_ok {src : Src} {f : D → Store → Res (Option D)} : ∀ {n i : Nat} {acc : List D} {μ : Store}, lcLoop src f n i acc μ ≠ .bad → ∃ xs μ', lcLoop src f n i acc μ = .ok xs μ'
  | 0, i, acc, μ, h => by
    unfold lcLoop at h ⊢
    split
    · exact ⟨_, _, rfl⟩
    · rename_i q; rw [if_neg q] at h; exact absurd rfl h
  | n + 1, i, acc, μ, h => by
    unfold lcLoop at h ⊢
    cases hg : src.get i μ with
    | none => rw [hg] at h; exact absurd rfl h
    | some d =>
      rw [hg] at h
      simp only at h ⊢
      cases hf : f d μ with
      | ok o μ' =>
        rw [hf] at h
        cases o with
        | some y =>
          simp only at h ⊢
          by_cases hl : acc.length < lineMax
          · rw [if_pos hl] at h ⊢; exact lcLoop_ok h
          · rw [if_neg hl] at h; exact absurd rfl h
        | none => exact lcLoop_ok h
      | exc c d μ' => rw [hf] at h; exact absurd rfl h
      | bad => rw [hf] at h; exact absurd rfl h
/-- what a turn of a comprehension must give -/
def TurnOk (P : Program) (w : World) (K : PySem.W.Frag) (g : Gx) (tt : TT) (te : TE) (fx : D → Store → Res (Option D)) (σ : Env) (i : Nat) : Prop :=
  ∀ (ξ : List Addr) (α : List Addr) (H : Hp) (μ : Store) (τ : L2.St) (d : D) (o : Option D) (μ1 : Store) (A : VK) (B : Hp → Prop), RepS P w K (g.ea.1, ξ) g.T.rc α H μ → RepE K (g.ea.1, ξ) α H (σ.set i (some d)) τ → fx d μ = .ok o μ1 →
    (∀ α1 H1, Ext α H α1 H1 → RepS P w K (g.ea.1, ξ) g.T.rc α1 H1 μ1 → match o with | some dy => ∀ y, RepV K (g.ea.1, ξ) α1 H1 dy y → A y H1 | none => B H1) → tt τ H fun b H3 => if b = true then te τ H3 A else B H3
theorem Ext.put {α α' : List Addr} {H H' : Hp} {d : Addr} {o : HO} (e : Ext α H α' H') (hd : H d = none) : Ext α H α' (upd H' d o) :=
  ⟨e.pre, fun a u h n => ⟨by rw [upd_ne (ne_of_none h hd)]; exact (e.frame a u h n).1, (e.frame a u h n).2⟩⟩
theorem lc_read {it : I} {i : Nat} {fx : D → Store → Res (Option D)} {tt : TT} {te : TE} {σ : Env} {τ : L2.St} {Q : VK} (ho : g.ea.off i) (ht : TurnOk X.prog X.w X.K g tt te fx σ i) (s : Rs X.prog X.w X.K g α H μ) (re : RepE X.K g.ea α H σ τ)
    (h : PstL X.prog X.w X.K g τ α H ((evI g.cl g.cx it σ μ).bind fun src μ => lcRun src fx μ) Q) : tLc (rdI X.prog X.w X.K g it) (gName i) tt te [i] τ H Q := by
  refine ⟨α, μ, σ, s, re, ?_⟩
  revert h
  cases q : evI g.cl g.cx it σ μ with
  | exc c d μ1 => exact fun h => h
  | bad => exact fun h => h
  | ok src μ1 =>
    simp only [Res.bind_ok]
    intro h α1 H1 J e1 s1 w1 dd hD
    unfold lcRun at h
    cases hn : src.len μ1 with
    | none => rw [hn] at h; exact h.elim
    | some n =>
      rw [hn] at h
      simp only at h
      have hne : lcLoop src fx n 0 [] μ1 ≠ .bad := fun z => by rw [z] at h; exact h
      obtain ⟨xs, μf, hl⟩ := lcLoop_ok hne
      rw [hl] at h
      simp only [Res.bind_ok] at h
      refine ⟨fun j m H' => ∃ acc α' μ' vs, lcLoop src fx m j acc μ' = .ok xs μf ∧ Ext α1 H1 α' H' ∧ RepS X.prog X.w X.K (g.ea.1, dd :: g.ea.2) g.T.rc α' H' μ' ∧ H' dd = some (.lst vs) ∧ RepVs X.K (g.ea.1, dd :: g.ea.2) α' H' acc vs,
        ⟨n, [], α1, μ1, [], hl, Ext.new s1 hD, RepS.xnew s1 hD, upd_same, by simp only [RepVs]⟩, ?_⟩
      rintro j m H' ⟨acc, α', μ', vs, hlp, e2, s2, hdd, hacc⟩
      cases m with
      | zero =>
        unfold lcLoop at hlp
        split at hlp
        · rename_i hlen
          cases hlp
          exact .inl ⟨src_stop w1 e2 s2 hlen, h α' H' dd vs (e1.trans e2) s2 (Ext.none_back e1 s1 hD) hdd hacc⟩
        · cases hlp
      | succ m =>
        unfold lcLoop at hlp
        cases hg : src.get j μ' with
        | none => rw [hg] at hlp; cases hlp
        | some d =>
          rw [hg] at hlp
          simp only at hlp
          have hch : Chg X.K g.ea α1 H1 (g.ea.1, dd :: g.ea.2) α' H' := Chg.grow (K := X.K) (e0 := g.ea.1) (ξ := g.ea.2) e2 hD
          obtain ⟨v, k1, k2, rv⟩ := src_get w1 e2 hch s2 hg
          refine .inr ⟨k1, fun H'' => ∃ acc α' μ' vs, lcLoop src fx m (j + 1) acc μ' = .ok xs μf ∧ Ext α1 H1 α' H'' ∧ RepS X.prog X.w X.K (g.ea.1, dd :: g.ea.2) g.T.rc α' H'' μ' ∧ H'' dd = some (.lst vs) ∧ RepVs X.K (g.ea.1, dd :: g.ea.2) α' H'' acc vs, fun H'' w => ⟨m, Nat.lt_succ_self _, w⟩, fun x H2 hy => ?_⟩
          obtain ⟨rfl, rfl⟩ := k2 x H2 hy
          refine ⟨lc_wipe, ?_⟩
          rw [lc_slot]
          cases hf : fx d μ' with
          | exc c d' μ2 => rw [hf] at hlp; cases hlp
          | bad => rw [hf] at hlp; cases hlp
          | ok o μ2 =>
            rw [hf] at hlp
            have re2 : RepE X.K (g.ea.1, dd :: g.ea.2) α' H2 (σ.set i (some d)) (τ.set i (some x)) := RepE.set (RepE.chg hch (RepE.mono e1 re)) (show Rm.off (g.ea.1, dd :: g.ea.2) i from ho) rv
            refine ht (dd :: g.ea.2) α' H2 μ' _ d o μ2 _ _ s2 re2 hf fun α4 H4 e4 s4 => ?_
            have hdn : dd ∉ α' := (s2.xi dd List.mem_cons_self).2
            have hd4 : H4 dd = some (.lst vs) := (e4.frame dd _ hdd hdn).1
            cases o with
            | none =>
              exact ⟨acc, α4, μ2, vs, hlp, e2.trans e4, s4, hd4, RepVs.mono e4 _ _ hacc⟩
            | some dy =>
              intro y ry
              simp only at hlp
              split at hlp
              · rename_i hlt
                refine ⟨vs, hd4, by rw [hacc.len]; exact hlt, acc ++ [dy], α4, μ2, vs ++ [y], hlp, Ext.put (e2.trans e4) hD, RepS.put s4 hd4, upd_same, ?_⟩
                exact RepVs.chg (Chg.put hd4) _ _ (RepVs.append (RepVs.mono e4 _ _ hacc) (RepVs.one ry))
              · cases hlp
/-- the element of a turn -/
def teC (P : Program) (w : World) (K : PySem.W.Frag) (g : Gx) (e : E) : TE := fun τ H Q => ∃ ξ, rdE P w K (g.inn ξ) e τ H Q
def ttC (P : Program) (w : World) (K : PySem.W.Frag) (g : Gx) (e : E) : TT := fun τ H Q => ∃ ξ, rdT P w K (g.inn ξ) e τ H Q
theorem turn0 {i : Nat} {e : E} {σ : Env} : TurnOk X.prog X.w X.K g tYes (teC X.prog X.w X.K g e) (fun d μ => (ev g.cl g.cx e (σ.set i (some d)) μ).bind fun y μ => .ok (some y) μ) σ i := by
  intro ξ α H μ τ d o μ1 A B s re hf k
  dsimp only at hf
  show (if true = true then teC X.prog X.w X.K g e τ H A else B H)
  rw [if_pos rfl]
  refine ⟨ξ, α, μ, σ.set i (some d), s, re, ?_⟩
  show Pst X.prog X.w X.K (g.inn ξ) (Rv X.K (g.inn ξ)) τ α H (ev g.cl g.cx e (σ.set i (some d)) μ) A
  cases q : ev g.cl g.cx e (σ.set i (some d)) μ with
  | ok y μ2 =>
    rw [q] at hf
    simp only [Res.bind_ok] at hf
    cases hf
    exact fun α1 H1 v e1 s1 r1 => k α1 H1 e1 s1 v r1
  | exc c d' μ2 => rw [q] at hf; cases hf
  | bad => rw [q] at hf; cases hf
theorem turn1 {i : Nat} {c e : E} {σ : Env} : TurnOk X.prog X.w X.K g (ttC X.prog X.w X.K g c) (teC X.prog X.w X.K g e) (fun d μ => (ev g.cl g.cx c (σ.set i (some d)) μ).bind fun b μ => match b with
      | .bl true => (ev g.cl g.cx e (σ.set i (some d)) μ).bind fun y μ => .ok (some y) μ
      | .bl false => .ok none μ
      | _ => .bad) σ i := by
  intro ξ α H μ τ d o μ1 A B s re hf k
  dsimp only at hf
  refine ⟨ξ, α, μ, σ.set i (some d), s, re, ?_⟩
  show Pst X.prog X.w X.K (g.inn ξ) (Rv X.K (g.inn ξ)) τ α H (ev g.cl g.cx c (σ.set i (some d)) μ) _
  cases q : ev g.cl g.cx c (σ.set i (some d)) μ with
  | exc c d' μ2 => rw [q] at hf; cases hf
  | bad => rw [q] at hf; cases hf
  | ok b μ2 =>
    rw [q] at hf
    simp only [Res.bind_ok] at hf
    intro α1 H1 v e1 s1 r1
    cases b with
    | bl b =>
      simp only [RepV] at r1
      refine ⟨b, r1, ?_⟩
      cases b with
      | true =>
        rw [if_pos rfl]
        have re1 := RepE.mono e1 re
        refine ⟨ξ, α1, μ2, σ.set i (some d), s1, re1, ?_⟩
        show Pst X.prog X.w X.K (g.inn ξ) (Rv X.K (g.inn ξ)) τ α1 H1 (ev g.cl g.cx e (σ.set i (some d)) μ2) A
        cases q2 : ev g.cl g.cx e (σ.set i (some d)) μ2 with
        | ok y μ3 =>
          rw [q2] at hf
          simp only [Res.bind_ok] at hf
          cases hf
          exact fun α2 H2 v e2 s2 r2 => k α2 H2 (e1.trans e2) s2 v r2
        | exc c d' μ3 => rw [q2] at hf; cases hf
        | bad => rw [q2] at hf; cases hf
      | false =>
        rw [if_neg Bool.false_ne_true]
        cases hf
        exact k α1 H1 e1 s1
    | _ => cases hf
theorem comp0_read {i : Nat} {it : I} {e : E} {τ : L2.St} {Q : VK} (ho : g.ea.off i) (h : rdF X.prog X.w X.K g (.comp0 i it e) τ H Q) : tLc (rdI X.prog X.w X.K g it) (gName i) tYes (teC X.prog X.w X.K g e) [i] τ H Q := by
  obtain ⟨α, μ, σ, s, re, h⟩ := h
  simp only [ev] at h
  exact lc_read ho turn0 s re h
theorem comp1_read {i : Nat} {it : I} {c e : E} {τ : L2.St} {Q : VK} (ho : g.ea.off i) (h : rdF X.prog X.w X.K g (.comp1 i it c e) τ H Q) : tLc (rdI X.prog X.w X.K g it) (gName i) (ttC X.prog X.w X.K g c) (teC X.prog X.w X.K g e) [i] τ H Q := by
  obtain ⟨α, μ, σ, s, re, h⟩ := h
  simp only [ev] at h
  exact lc_read ho turn1 s re h
theorem comp0_lst {i : Nat} {it : I} {e : E} (σ : Env) (μ : Store) (d : D) (μ' : Store) (h : ev g.cl g.cx (.comp0 i it e) σ μ = .ok d μ') : ∃ xs, d = .lst xs := by
  simp only [ev] at h
  revert h
  cases evI g.cl g.cx it σ μ with
  | ok src μ1 =>
    simp only [Res.bind_ok]
    unfold lcRun
    cases src.len μ1 with
    | none => intro h; cases h
    | some n =>
      simp only
      cases lcLoop src _ n 0 [] μ1 with
      | ok xs μ2 => intro h; cases h; exact ⟨xs, rfl⟩
      | exc c d μ2 => intro h; cases h
      | bad => intro h; cases h
  | exc c d μ1 => intro h; cases h
  | bad => intro h; cases h
theorem comp1_lst {i : Nat} {it : I} {c e : E} (σ : Env) (μ : Store) (d : D) (μ' : Store) (h : ev g.cl g.cx (.comp1 i it c e) σ μ = .ok d μ') : ∃ xs, d = .lst xs := by
  simp only [ev] at h
  revert h
  cases evI g.cl g.cx it σ μ with
  | ok src μ1 =>
    simp only [Res.bind_ok]
    unfold lcRun
    cases src.len μ1 with
    | none => intro h; cases h
    | some n =>
      simp only
      cases lcLoop src _ n 0 [] μ1 with
      | ok xs μ2 => intro h; cases h; exact ⟨xs, rfl⟩
      | exc c d μ2 => intro h; cases h
      | bad => intro h; cases h
  | exc c d μ1 => intro h; cases h
  | bad => intro h; cases h
end
end FH

set_option maxHeartbeats 1000000
/-! Statements. -/
namespace FH
open PySem PySem.Spec PyProof.Rows L2
section
variable (P : Program) (w : World) (K : PySem.W.Frag) (g : Gx)
/-- what is wanted behind a statement -/
def PstS (α : List Addr) (H : Hp) (o : Out) (D : Ends) : Prop :=
  match o with
  | .nx σ' μ' => ∀ α' H' τ', Ext α H α' H' → Rs P w K g α' H' μ' → RepE K g.ea α' H' σ' τ' → D.nx τ' H'
  | .rt d μ' => ∀ α' H' v, Ext α H α' H' → Rs P w K g α' H' μ' → Rv K g α' H' d v → D.rt v H'
  | .xc c d σ' μ' => ∀ α' H' τ' cv dd, Ext α H α' H' → Rs P w K g α' H' μ' → RepE K g.ea α' H' σ' τ' → RepX K g.T g.ea α' H' c d cv dd → g.W cv dd τ' H'
  | .bad => False
def rdS (s : S) : TS := fun D τ H => ∃ α μ σ, Rs P w K g α H μ ∧ RepE K g.ea α H σ τ ∧ PstS P w K g α H (ex1 g.cl g.fu s g.cx σ μ) D
def rdSs (s : Ss) : TS := fun D τ H => ∃ α μ σ, Rs P w K g α H μ ∧ RepE K g.ea α H σ τ ∧ PstS P w K g α H (exs g.cl g.fu s g.cx σ μ) D
end
section
variable {X : Cx} {g : Gx} {pos p p1 p2 apos : Pos} {tg a b c o : Expr} {ea eb ec : E} {es : Es} {α : List Addr} {H : Hp} {μ : Store} {τ : L2.St} {σ : Env} {D : Ends} {i : Nat} {x : Str}
theorem PstS.ext {P : Program} {w : World} {K : PySem.W.Frag} {α α' : List Addr} {H H' : Hp} {o : Out} (e : Ext α H α' H') (h : PstS P w K g α H o D) : PstS P w K g α' H' o D := by
  cases o with
  | nx σ μ => exact fun α2 H2 τ e2 s2 r2 => h α2 H2 τ (e.trans e2) s2 r2
  | rt d μ => exact fun α2 H2 v e2 s2 r2 => h α2 H2 v (e.trans e2) s2 r2
  | xc c d σ μ => exact fun α2 H2 τ cv dd e2 s2 r2 x2 => h α2 H2 τ cv dd (e.trans e2) s2 r2 x2
  | bad => exact h
/-- an expression in a statement -/
theorem rdo {A B : Type} {ρ : List Addr → Hp → A → B → Prop} {r : Res A} {f : A → Store → Out} (re : RepE X.K g.ea α H σ τ) (h : PstS X.prog X.w X.K g α H (r.out σ f) D) :
    Pst X.prog X.w X.K g ρ τ α H r fun b H1 => ∃ α1 μ1 a, Ext α H α1 H1 ∧ Rs X.prog X.w X.K g α1 H1 μ1 ∧ ρ α1 H1 a b ∧ PstS X.prog X.w X.K g α1 H1 (f a μ1) D := by
  cases r with
  | ok a μ => exact fun α1 H1 b e1 s1 r1 => ⟨α1, μ, a, e1, s1, r1, PstS.ext e1 h⟩
  | exc c d μ => exact fun α1 H1 cv dd e1 s1 x1 => h α1 H1 τ cv dd e1 s1 (re.mono e1) x1
  | bad => exact h
theorem rdo1 {f : FH.D → Store → Out} (s : Rs X.prog X.w X.K g α H μ) (re : RepE X.K g.ea α H σ τ) (h : PstS X.prog X.w X.K g α H ((ev g.cl g.cx ea σ μ).out σ f) D) {Q' : VK}
    (k : ∀ α1 H1 μ1 d v, Ext α H α1 H1 → Rs X.prog X.w X.K g α1 H1 μ1 → RepE X.K g.ea α1 H1 σ τ → Rv X.K g α1 H1 d v → PstS X.prog X.w X.K g α1 H1 (f d μ1) D → Q' v H1) : rdE X.prog X.w X.K g ea τ H Q' := by
  refine ⟨α, μ, σ, s, re, Pst.imp (rdo re h) fun v H1 q => ?_⟩
  obtain ⟨α1, μ1, d, e1, s1, r1, h1⟩ := q
  exact k α1 H1 μ1 d v e1 s1 (re.mono e1) r1 h1
theorem PstS.seq {o : Out} {f : Env → Store → Out} {bk ct : L2.St → Hp → Prop} (h : PstS X.prog X.w X.K g α H (o.seq f) D) : PstS X.prog X.w X.K g α H o ⟨fun τ1 H1 => ∃ α1 μ1 σ1, Ext α H α1 H1 ∧ Rs X.prog X.w X.K g α1 H1 μ1 ∧ RepE X.K g.ea α1 H1 σ1 τ1 ∧ PstS X.prog X.w X.K g α1 H1 (f σ1 μ1) D, D.rt, bk, ct⟩ := by
  cases o with
  | nx σ μ => exact fun α1 H1 τ1 e1 s1 r1 => ⟨α1, μ, σ, e1, s1, r1, PstS.ext e1 h⟩
  | rt d μ => exact h
  | xc c d σ μ => exact h
  | bad => exact h
theorem PstS.ends {o : Out} {D D' : Ends} (h : PstS X.prog X.w X.K g α H o D) (h1 : ∀ τ H, D.nx τ H → D'.nx τ H) (h2 : ∀ v H, D.rt v H → D'.rt v H) : PstS X.prog X.w X.K g α H o D' := by
  cases o with
  | nx σ μ => exact fun α1 H1 τ1 e1 s1 r1 => h1 _ _ (h α1 H1 τ1 e1 s1 r1)
  | rt d μ => exact fun α1 H1 τ1 e1 s1 r1 => h2 _ _ (h α1 H1 τ1 e1 s1 r1)
  | xc c d σ μ => exact h
  | bad => exact h
/-! ### one statement behind another -/
theorem snd_snil : PSs X [] (rdSs X.prog X.w X.K g .nil) := by
  refine PSs.imp pss_nil fun D τ H h => ?_
  obtain ⟨α, μ, σ, s, re, h⟩ := h
  simp only [exs] at h
  exact h α H τ Ext.refl s re
theorem snd_scons {st : Stmt} {rest : List Stmt} {s : S} {ss : Ss} (h1 : PS X st (rdS X.prog X.w X.K g s)) (h2 : PSs X rest (rdSs X.prog X.w X.K g ss)) : PSs X (st :: rest) (rdSs X.prog X.w X.K g (.cons s ss)) := by
  refine PSs.imp (pss_cons h1 h2) fun D τ H h => ?_
  obtain ⟨α, μ, σ, s, re, h⟩ := h
  simp only [exs] at h
  refine ⟨α, μ, σ, s, re, PstS.ends (PstS.seq (bk := D.bk) (ct := D.ct) h) (fun τ1 H1 q => ?_) fun v H1 q => q⟩
  obtain ⟨α1, μ1, σ1, e1, s1, r1, h1⟩ := q
  exact ⟨α1, μ1, σ1, s1, r1, h1⟩
theorem snd_pass : PS X (.Pass pos) (rdS X.prog X.w X.K g .pass) := by
  refine PS.imp ps_pass fun D τ H h => ?_
  obtain ⟨α, μ, σ, s, re, h⟩ := h
  simp only [ex1] at h
  exact h α H τ Ext.refl s re
/-- no comprehension -/
def noComp : Expr → Bool
  | .ListComp _ _ _ _ => false
  | .SetComp _ _ _ _ => false
  | .DictComp _ _ _ _ _ => false
  | _ => true
theorem swaps_not {e : Expr} (h : noComp e = true) (t : Option Expr) (l : Nat) (env : PySem.Env) : swapsWith e t l env = pure false := by
  cases e <;> first | rfl | (exact absurd h (by simp [noComp]))
theorem snd_ex (ha : PE X a (rdE X.prog X.w X.K g ea)) (hn : noComp a = true) : PS X (.Expr a pos) (rdS X.prog X.w X.K g (.ex ea)) := by
  refine PS.imp (ps_expr ha (swaps_not hn _ _ _)) fun D τ H h => ?_
  obtain ⟨α, μ, σ, s, re, h⟩ := h
  simp only [ex1] at h
  exact rdo1 s re h fun α1 H1 μ1 d v e1 s1 r1 rv h1 => h1 α1 H1 τ Ext.refl s1 r1
theorem snd_ret (ha : PE X a (rdE X.prog X.w X.K g ea)) : PS X (.Return (some a) pos) (rdS X.prog X.w X.K g (.ret ea)) := by
  refine PS.imp (ps_ret ha) fun D τ H h => ?_
  obtain ⟨α, μ, σ, s, re, h⟩ := h
  simp only [ex1] at h
  exact rdo1 s re h fun α1 H1 μ1 d v e1 s1 r1 rv h1 => h1 α1 H1 v Ext.refl s1 rv
theorem asg_read {τ : L2.St} (ho : g.ea.off i) (h : rdS X.prog X.w X.K g (.asg i ea) D τ H) : tAsg (rdE X.prog X.w X.K g ea) (gName i) D τ H := by
  obtain ⟨α, μ, σ, s, re, h⟩ := h
  simp only [ex1] at h
  exact rdo1 s re h fun α1 H1 μ1 d v e1 s1 r1 rv h1 => h1 α1 H1 _ Ext.refl s1 (r1.set ho rv)
theorem snd_asg (ho : g.ea.off i) (hN : X.N.Nodup) (hi : X.N[i]? = some x) (hx : Loc X.env.scope x) (hf : X.fn x = true) (ha : PE X a (rdE X.prog X.w X.K g ea)) (hs : swapsWith a (some (.Name x p)) pos.line X.env = pure false) : PS X (.Assign [.Name x p] a pos) (rdS X.prog X.w X.K g (.asg i ea)) :=
  PS.imp (ps_set hN hi hx ha hs (.inl hf)) fun _ _ _ h => asg_read ho h
/-! ### several names -/
def gNs : List Nat → TGs
  | [] => gNil
  | i :: is => gCons (gName i) (gNs is)
theorem gNs_ok {P : Program} {w : World} {K : PySem.W.Frag} {ea : Rm} {Q : L2.St → Hp → Prop} : ∀ {is : List Nat} {ds : List FH.D} {vs : List V} {σ σ' : Env} {τ : L2.St}, (∀ i ∈ is, ea.off i) → RepVs K ea α H ds vs → RepE K ea α H σ τ → setAll is ds σ = some σ' → (∀ τ', RepE K ea α H σ' τ' → Q τ' H) → gNs is vs τ H Q
  | [], [], vs, σ, σ', τ, ho, rv, re, e, k => by
    simp only [RepVs] at rv
    simp only [setAll, Option.some.injEq] at e
    subst e
    exact ⟨rv, k τ re⟩
  | [], d :: ds, vs, σ, σ', τ, ho, rv, re, e, k => by simp [setAll] at e
  | i :: is, [], vs, σ, σ', τ, ho, rv, re, e, k => by simp [setAll] at e
  | i :: is, d :: ds, vs, σ, σ', τ, ho, rv, re, e, k => by
    simp only [RepVs] at rv
    obtain ⟨v, r, rfl, h1, h2⟩ := rv
    simp only [setAll] at e
    exact ⟨v, r, rfl, gNs_ok (P := P) (w := w) (fun j hj => ho j (List.mem_cons_of_mem _ hj)) h2 (re.set (ho i List.mem_cons_self) h1) e k⟩
theorem setAll_len : ∀ {is : List Nat} {ds : List FH.D} {σ σ' : Env}, setAll is ds σ = some σ' → ds.length = is.length
  | [], [], σ, σ', e => rfl
  | [], d :: ds, σ, σ', e => by simp [setAll] at e
  | i :: is, [], σ, σ', e => by simp [setAll] at e
  | i :: is, d :: ds, σ, σ', e => by
    simp only [setAll] at e
    rw [List.length_cons, List.length_cons, setAll_len e]
def chkNs (N : List Str) (sc : Scope) : List Nat → List Expr → Bool
  | [], [] => true
  | i :: is, .Name x _ :: es => decide (N[i]? = some x) && (match sc.names.lookup x with | some .local => true | some .cell => true | _ => false) && chkNs N sc is es
  | _, _ => false
theorem loc_of {sc : Scope} {x : Str} (h : (match sc.names.lookup x with | some .local => true | some .cell => true | _ => false) = true) : Loc sc x := by
  split at h
  · rename_i e; exact .inl e
  · rename_i e; exact .inr e
  · cases h
theorem chkNs_ok (hN : X.N.Nodup) (hf : ∀ x, X.fn x = true) : ∀ {is : List Nat} {es : List Expr}, chkNs X.N X.env.scope is es = true → PGs X es (gNs is) ∧ (assignEach es X.env).length = is.length ∧ (assignEach es X.env).findIdx? (·.1) = none
  | [], [], h => ⟨pgs_nil, rfl, rfl⟩
  | i :: is, .Name x q :: es, h => by
    simp only [chkNs, Bool.and_eq_true, decide_eq_true_eq] at h
    obtain ⟨h1, h2, h3⟩ := chkNs_ok hN hf h.2
    refine ⟨pgs_cons (pg_name hN h.1.1 (loc_of h.1.2) (.inl (hf x))) h1 rfl, ?_, ?_⟩
    · show (assignEach es X.env).length + 1 = is.length + 1
      rw [h2]
    · show (((false, assign (.Name x q) X.env) :: assignEach es X.env).findIdx? (·.1)) = none
      rw [List.findIdx?_cons]
      simp [h3]
  | [], _ :: _, h => by simp [chkNs] at h
  | _ :: _, [], h => by simp [chkNs] at h
  | i :: is, .BoolOp .. :: es, h => by simp [chkNs] at h
  | i :: is, .NamedExpr .. :: es, h => by simp [chkNs] at h
  | i :: is, .BinOp .. :: es, h => by simp [chkNs] at h
  | i :: is, .UnaryOp .. :: es, h => by simp [chkNs] at h
  | i :: is, .Lambda .. :: es, h => by simp [chkNs] at h
  | i :: is, .IfExp .. :: es, h => by simp [chkNs] at h
  | i :: is, .Dict .. :: es, h => by simp [chkNs] at h
  | i :: is, .Set .. :: es, h => by simp [chkNs] at h
  | i :: is, .ListComp .. :: es, h => by simp [chkNs] at h
  | i :: is, .SetComp .. :: es, h => by simp [chkNs] at h
  | i :: is, .DictComp .. :: es, h => by simp [chkNs] at h
  | i :: is, .GeneratorExp .. :: es, h => by simp [chkNs] at h
  | i :: is, .Await .. :: es, h => by simp [chkNs] at h
  | i :: is, .Yield .. :: es, h => by simp [chkNs] at h
  | i :: is, .YieldFrom .. :: es, h => by simp [chkNs] at h
  | i :: is, .Compare .. :: es, h => by simp [chkNs] at h
  | i :: is, .Call .. :: es, h => by simp [chkNs] at h
  | i :: is, .FormattedValue .. :: es, h => by simp [chkNs] at h
  | i :: is, .JoinedStr .. :: es, h => by simp [chkNs] at h
  | i :: is, .Constant .. :: es, h => by simp [chkNs] at h
  | i :: is, .Attribute .. :: es, h => by simp [chkNs] at h
  | i :: is, .Subscript .. :: es, h => by simp [chkNs] at h
  | i :: is, .Starred .. :: es, h => by simp [chkNs] at h
  | i :: is, .List .. :: es, h => by simp [chkNs] at h
  | i :: is, .Tuple .. :: es, h => by simp [chkNs] at h
  | i :: is, .Slice .. :: es, h => by simp [chkNs] at h
/-- the stores come from the left -/
def inOrder : Expr → Bool
  | .Tuple vs _ _ => vs.all (foldedForSure 8)
  | _ => true
theorem stores_none {ts : List Expr} {k : Nat} {e : Expr} {tp : Pos} (h : inOrder e = true) (env : PySem.Env) : swappedStores [.Tuple ts k tp] e env = pure none := by
  cases e with
  | Tuple vs k2 p2 =>
    have h : vs.all (foldedForSure 8) = true := h
    unfold swappedStores
    simp only [h, if_true]
    repeat (first | rfl | split)
  | _ => rfl
/-- a target that is no plain local -/
def cellT (sc : Scope) (ts : List Expr) : Bool := ts.any fun t => match t with | .Name n _ => !(sc.names.lookup n == some .local) | _ => true
theorem fm_len {A B : Type} (f : A → Option B) : ∀ l : List A, (l.filterMap f).length = l.length → ∀ x ∈ l, (f x).isSome = true
  | [], _, x, hx => by simp at hx
  | a :: l, h, x, hx => by
    have hle := List.length_filterMap_le f l
    cases ha : f a with
    | none => rw [List.filterMap_cons_none ha, List.length_cons] at h; omega
    | some b =>
      rw [List.filterMap_cons_some ha, List.length_cons, List.length_cons] at h
      rcases List.mem_cons.mp hx with rfl | hx
      · rw [ha]; rfl
      · exact fm_len f l (by omega) x hx
theorem stores_cell {ts : List Expr} {k : Nat} {e : Expr} {tp : Pos} (env : PySem.Env) (h : cellT env.scope ts = true) : swappedStores [.Tuple ts k tp] e env = pure none := by
  obtain ⟨t, ht, hn⟩ := List.any_eq_true.mp h
  have key : ∀ line : Nat, ((ts.filterMap fun x => match x with
    | .Name id pos => if env.kindOf id == some .local && pos.line == line then some id else none
    | _ => none).length != ts.length) = true := fun line => by
    rw [bne_iff_ne]
    intro e0
    have := fm_len _ _ e0 t ht
    cases t with
    | Name n q =>
      simp only at hn this
      have hk : (env.kindOf n == some NameKind.local) = false := by
        unfold Env.kindOf
        cases hq : (env.scope.names.lookup n == some NameKind.local) with
        | true => rw [hq] at hn; cases hn
        | false => rfl
      rw [hk] at this
      cases this
    | _ => cases this
  cases e with
  | Tuple vs k2 p2 =>
    unfold swappedStores
    simp only
    repeat (first | rfl | split)
    all_goals
      rename_i a b c d e
      exact absurd (by rw [Bool.or_eq_true]; exact Or.inl (key _)) c
  | _ => rfl
theorem unp_read {is : List Nat} (ho : ∀ i ∈ is, g.ea.off i) (h : rdS X.prog X.w X.K g (.unp is ea) D τ H) : tAsg (rdE X.prog X.w X.K g ea) (gTup X.K is.length (gNs is)) D τ H := by
  obtain ⟨α, μ, σ, s, re, h⟩ := h
  simp only [ex1] at h
  refine rdo1 s re h fun α1 H1 μ1 d v e1 s1 r1 rv h1 => ?_
  cases d with
  | tup xs =>
    simp only at h1
    simp only [RepV] at rv
    obtain ⟨l, vs, rfl, ht, hr⟩ := rv
    cases hs : setAll is xs σ with
    | none => rw [hs] at h1; exact h1.elim
    | some σ' =>
      rw [hs] at h1
      exact ⟨l, vs, rfl, ht.sq, by rw [hr.len, setAll_len hs], gNs_ok (P := X.prog) (w := X.w) ho hr r1 hs fun τ' r' => h1 α1 H1 τ' Ext.refl s1 r'⟩
  | _ => exact h1.elim
theorem snd_unp {is : List Nat} {ts : List Expr} {k : Nat} {tp : Pos} (hoff : ∀ i ∈ is, g.ea.off i) (hc : X.calm = true) (hN : X.N.Nodup) (hf : ∀ x, X.fn x = true) (hk : chkNs X.N X.env.scope is ts = true) (ha : PE X a (rdE X.prog X.w X.K g ea)) (ho : (inOrder a || cellT X.env.scope ts) = true) (hn : noComp a = true) :
    PS X (.Assign [.Tuple ts k tp] a pos) (rdS X.prog X.w X.K g (.unp is ea)) := by
  obtain ⟨h1, h2, h3⟩ := chkNs_ok hN hf hk
  have hst : swappedStores [.Tuple ts k tp] a X.env = pure none := by
    rw [Bool.or_eq_true] at ho
    rcases ho with ho | ho
    · exact stores_none ho _
    · exact stores_cell _ ho
  exact PS.imp (ps_asg ha (pg_tup hc h1 h2 h3) (show swapsWith a (some (.Tuple ts k tp)) pos.line X.env = pure false from swaps_not hn _ _ _) hst rfl) fun _ _ _ h => unp_read hoff h
theorem unpL_read {is : List Nat} (ho : ∀ i ∈ is, g.ea.off i) (h : rdS X.prog X.w X.K g (.unpL is ea) D τ H) : tAsg (rdE X.prog X.w X.K g ea) (gUnl X.K is.length (gNs is)) D τ H := by
  obtain ⟨α, μ, σ, s, re, h⟩ := h
  simp only [ex1] at h
  refine rdo1 s re h fun α1 H1 μ1 d v e1 s1 r1 rv h1 => ?_
  cases hx : listOf μ1 d with
  | none => rw [hx] at h1; exact h1.elim
  | some xs =>
    rw [hx] at h1
    simp only at h1
    obtain ⟨l, vs, rfl, ht, hr⟩ := listOf_rep s1 hx rv
    cases hs : setAll is xs σ with
    | none => rw [hs] at h1; exact h1.elim
    | some σ' =>
      rw [hs] at h1
      exact ⟨l, vs, rfl, SqL.of ht, by rw [hr.len, setAll_len hs], gNs_ok (P := X.prog) (w := X.w) ho hr r1 hs fun τ' r' => h1 α1 H1 τ' Ext.refl s1 r'⟩
theorem snd_unpL {is : List Nat} {ts : List Expr} {k : Nat} {tp : Pos} (hoff : ∀ i ∈ is, g.ea.off i) (hc : X.calm = true) (hN : X.N.Nodup) (hf : ∀ x, X.fn x = true) (hk : chkNs X.N X.env.scope is ts = true) (ha : PE X a (rdE X.prog X.w X.K g ea)) (ho : inOrder a = true) (hn : noComp a = true) :
    PS X (.Assign [.Tuple ts k tp] a pos) (rdS X.prog X.w X.K g (.unpL is ea)) := by
  obtain ⟨h1, h2, h3⟩ := chkNs_ok hN hf hk
  exact PS.imp (ps_asg ha (pg_unl hc h1 h2 h3) (show swapsWith a (some (.Tuple ts k tp)) pos.line X.env = pure false from swaps_not hn _ _ _) (stores_none ho _) rfl) fun _ _ _ h => unpL_read hoff h
/-! ### o[i] = e, o.f = e -/
theorem PSet.or {t t' : TSet} (h : PSet X t) (h' : PSet X t') : PSet X (fun o i v H Q => t o i v H Q ∨ t' o i v H Q) := fun pins s σ H o i v ov iv u Q I r1 r2 r3 q => q.elim (fun q => h pins s σ H o i v ov iv u Q I r1 r2 r3 q) fun q => h' pins s σ H o i v ov iv u Q I r1 r2 r3 q
theorem atKey_mem : ∀ {xs : List (NestedKey × Addr × Value)} {k : NestedKey}, atKey xs k = none → k ∉ xs.map (·.1)
  | [], k, _ => by simp
  | (n, b, u) :: q, k, h => by
    rw [atKey_cons] at h
    split at h
    · cases h
    · rename_i hn
      simp only [List.map_cons, List.mem_cons, not_or]
      exact ⟨fun z => hn z.symm, atKey_mem h⟩
theorem stored_nodup {xs : List (NestedKey × Addr × Value)} {k : NestedKey} {b : Addr} {u : Value} (nn : (xs.map (·.1)).Nodup) : ((storedH xs k b u).map (·.1)).Nodup := by
  cases h : atKey xs k with
  | none =>
    rw [storedH_new h, List.map_append]
    exact List.nodup_append.mpr ⟨nn, by simp, fun x hx y hy => by
      rintro rfl
      simp at hy
      subst hy
      exact atKey_mem h hx⟩
  | some p =>
    rw [storedH_old h, List.map_map]
    have : ((fun x : NestedKey × Addr × Value => x.1) ∘ putAt k u) = fun x => x.1 := by
      funext x
      obtain ⟨n, b', u'⟩ := x
      simp only [Function.comp, putAt]
      split <;> rfl
    rw [this]; exact nn
theorem set_read {eo ei : E} (h : rdS X.prog X.w X.K g (.setI eo ei ea) D τ H) : tAsg (rdE X.prog X.w X.K g ea) (gSub (rdE X.prog X.w X.K g eo) (rdE X.prog X.w X.K g ei) fun o i v H Q => rSetL o i v H Q ∨ rSetDic X.prog X.w X.K o i v H Q) D τ H := by
  obtain ⟨α, μ, σ, s, re, h⟩ := h
  simp only [ex1] at h
  refine rdo1 s re h fun α1 H1 μ1 d v e1 s1 r1 rv h1 => ?_
  refine rdo1 s1 r1 h1 fun α2 H2 μ2 dx vx e2 s2 r2 rx h2 => ?_
  refine rdo1 s2 r2 h2 fun α3 H3 μ3 dk vk e3 s3 r3 rk h3 => ?_
  have rx3 := RepV.mono e3 _ _ rx
  have rv3 := RepV.mono e3 _ _ (RepV.mono e2 _ _ rv)
  cases hst : setIx dx dk d μ3 with
  | none => rw [hst] at h3; exact h3.elim
  | some μ4 =>
    rw [hst] at h3
    unfold setIx at hst
    cases dx with
    | ptr q =>
      simp only at hst
      simp only [RepV] at rx3
      obtain ⟨l, hl, rfl⟩ := rx3
      obtain ⟨ob, ho, ro⟩ := s3.look hl
      rw [ho] at hst
      cases ob with
      | lst xs =>
        simp only at hst
        cases dk with
        | int k =>
          simp only at hst
          obtain ⟨j, hj, rfl⟩ := Option.map_eq_some_iff.mp hst
          simp only [RepV] at rk
          obtain ⟨vs, h5, h6⟩ := ro
          have hj' : L2.ixN vs.length k = some j := by rw [h6.len, ← ixN_eq]; exact hj
          refine .inl ⟨l, vs, k, j, rfl, rk, h5, hj', ?_⟩
          exact h3 α3 _ _ (Ext.write hl) (s3.write hl ⟨_, upd_same, RepVs.mono (Ext.write hl) _ _ (h6.set rv3 j)⟩) (r3.mono (Ext.write hl))
        | _ => simp at hst
      | dic kvs =>
        simp only at hst
        obtain ⟨k, hk, hst⟩ := Option.bind_eq_some_iff.mp hst
        split at hst
        · rename_i hlen
          cases hst
          obtain ⟨xs, h5, nn, h6⟩ := ro
          obtain ⟨⟨ys, rfl⟩, hnk, hdep⟩ := keyD_some hk
          have rk' := rk
          simp only [RepV] at rk
          obtain ⟨kb, kvs', rfl, ht, hkr⟩ := rk
          refine .inr ⟨l, kb, k, xs, rfl, rfl, h5, ⟨_, _, _, hk, rk'⟩, h6.keys, by rw [h6.len]; exact hlen, fun u ru => ?_⟩
          exact h3 α3 _ _ (Ext.write hl) (s3.write hl ⟨_, upd_same, stored_nodup nn, RepKv.mono (Ext.write hl) (RepKv.stored h6 nn hk rk' ru rv3)⟩) (r3.mono (Ext.write hl))
        · cases hst
      | ins fs => simp at hst
    | _ => simp at hst
theorem assign_sub {o i : Expr} {sp : Pos} {env : PySem.Env} (hp : plainE i = true) (v : Value) : assign (.Subscript o i sp) env v = (do
      let ov ← holding [v] (eval o env)
      let iv ← holding [v, ov] (eval i env)
      standAt sp
      holding [v, ov, iv] (setItem ov iv v)
      release [v, ov, iv] []) := by
  cases i <;> first | rfl | (exact absurd hp (by simp [plainE]))
theorem swaps_sub {e o i : Expr} {sp : Pos} {l : Nat} {env : PySem.Env} : swapsWith e (some (.Subscript o i sp)) l env = pure false := by cases e <;> rfl
theorem swaps_attr {e o : Expr} {f : Str} {sp : Pos} {l : Nat} {env : PySem.Env} : swapsWith e (some (.Attribute o f sp)) l env = pure false := by cases e <;> rfl
theorem snd_setI {eo ei : E} {sp : Pos} (hu : X.A.units + 64 < cLine) (ho : PE X o (rdE X.prog X.w X.K g eo)) (hi : PE X b (rdE X.prog X.w X.K g ei)) (hp : plainE b = true) (ha : PE X a (rdE X.prog X.w X.K g ea)) :
    PS X (.Assign [.Subscript o b sp] a pos) (rdS X.prog X.w X.K g (.setI eo ei ea)) :=
  PS.imp (ps_asg ha (pg_sub ho hi (PSet.or set_list (set_dic hu)) (assign_sub hp)) (show swapsWith a (some (.Subscript o b sp)) pos.line X.env = pure false from swaps_sub) (by cases a <;> rfl) rfl) fun _ _ _ h => set_read h
theorem snd_setF {f : Fld} {eo : E} {sp : Pos} (ho : PE X o (rdE X.prog X.w X.K g eo)) (ha : PE X a (rdE X.prog X.w X.K g ea)) (hc : Cls X.K g.T.rc) (hn : NoAttr X.K g.T.rc (fname f)) :
    PS X (.Assign [.Attribute o (fname f) sp] a pos) (rdS X.prog X.w X.K g (.setF eo f ea)) := by
  refine PS.imp (ps_fld ho ha swaps_attr) fun D τ H h => ?_
  obtain ⟨α, μ, σ, s, re, h⟩ := h
  simp only [ex1] at h
  refine rdo1 s re h fun α1 H1 μ1 d v e1 s1 r1 rv h1 => ?_
  refine rdo1 s1 r1 h1 fun α2 H2 μ2 dx vx e2 s2 r2 rx h2 => ?_
  cases dx with
  | ptr q =>
    simp only at h2
    simp only [RepV] at rx
    obtain ⟨l, hl, rfl⟩ := rx
    obtain ⟨ob, hq, ro⟩ := s2.look hl
    rw [hq] at h2
    cases ob with
    | ins fs =>
      simp only at h2
      obtain ⟨dx, gs, h3, h4⟩ := ro
      split at h2
      · rename_i hlen
        refine ⟨l, g.T.rc, dx, gs, rfl, h3, hc, hn, by rw [h4.len]; exact hlen, ?_⟩
        exact h2 α2 _ _ (Ext.write hl) (s2.write hl ⟨dx, _, upd_same, RepFs.mono (Ext.write hl) (RepFs.put (RepV.mono e2 _ _ rv) h4)⟩) (r2.mono (Ext.write hl))
      · exact h2.elim
    | _ => exact h2.elim
  | _ => exact h2.elim
/-! ### if, while, for -/
theorem snd_ifs {sa sb : Ss} {xa xb : List Stmt} (hc : PT X c (rdT X.prog X.w X.K g ec)) (ha : PSs X xa (rdSs X.prog X.w X.K g sa)) (hb : PSs X xb (rdSs X.prog X.w X.K g sb)) : PS X (.If c xa xb pos) (rdS X.prog X.w X.K g (.ifs ec sa sb)) := by
  refine PS.imp (ps_if hc ha hb) fun D τ H h => ?_
  obtain ⟨α, μ, σ, s, re, h⟩ := h
  simp only [ex1] at h
  refine rdo1 s re h fun α1 H1 μ1 d v e1 s1 r1 rv h1 => ?_
  cases d with
  | bl k =>
    simp only [RepV] at rv
    refine ⟨k, rv, ?_⟩
    cases k with
    | true => rw [if_pos rfl]; exact ⟨α1, μ1, σ, s1, r1, h1⟩
    | false => rw [if_neg Bool.false_ne_true]; exact ⟨α1, μ1, σ, s1, r1, h1⟩
  | _ => exact h1.elim
theorem snd_whl {sb : Ss} {xb : List Stmt} (hp : PassesOwn (model X.prog X.w) X.A X.env X.xe) (hc : PT X c (rdT X.prog X.w X.K g ec)) (hb : PSs X xb (rdSs X.prog X.w X.K g sb)) : PS X (.While c xb [] pos) (rdS X.prog X.w X.K g (.whl ec sb)) := by
  refine PS.imp (ps_while hp hc hb) fun D τ H h => ?_
  obtain ⟨α, μ, σ, s, re, h⟩ := h
  simp only [ex1] at h
  refine ⟨fun m τ H => ∃ α μ σ, Rs X.prog X.w X.K g α H μ ∧ RepE X.K g.ea α H σ τ ∧ PstS X.prog X.w X.K g α H (whlRun (fun σ μ => ev g.cl g.cx ec σ μ) (fun σ μ => exs g.cl g.fu sb g.cx σ μ) m σ μ) D, ⟨g.fu, α, μ, σ, s, re, h⟩, ?_⟩
  rintro m τ1 H1 ⟨α1, μ1, σ1, s1, re1, h1⟩
  cases m with
  | zero => exact h1.elim
  | succ m =>
    unfold whlRun at h1
    refine rdo1 s1 re1 h1 fun α2 H2 μ2 d v e2 s2 r2 rv h2 => ?_
    cases d with
    | bl k =>
      simp only [RepV] at rv
      refine ⟨k, rv, ?_⟩
      cases k with
      | true =>
        rw [if_pos rfl]
        refine ⟨fun τ H => ∃ α μ σ, Rs X.prog X.w X.K g α H μ ∧ RepE X.K g.ea α H σ τ ∧ PstS X.prog X.w X.K g α H (whlRun (fun σ μ => ev g.cl g.cx ec σ μ) (fun σ μ => exs g.cl g.fu sb g.cx σ μ) m σ μ) D, fun τ' H' q => ⟨m, Nat.lt_succ_self _, q⟩, ?_⟩
        refine ⟨α2, μ2, σ1, s2, r2, PstS.ends (PstS.seq (bk := D.bk) (ct := D.ct) h2) (fun τ3 H3 q => ?_) fun v H3 q => q⟩
        obtain ⟨α3, μ3, σ3, e3, s3, r3, h3⟩ := q
        exact ⟨α3, μ3, σ3, s3, r3, h3⟩
      | false =>
        rw [if_neg Bool.false_ne_true]
        exact h2 α2 H2 _ Ext.refl s2 r2
    | _ => exact h2.elim
theorem Chg.ext {K : PySem.W.Frag} {ea : Rm} {α α' : List Addr} {H H' : Hp} (e : Ext α H α' H') : Chg K ea α H ea α' H' :=
  ⟨rfl, fun p a h => e.get h, fun a vs h => e.tupAt h, fun a vs h => e.rolAt h, fun a vs h1 h2 h3 => ⟨(e.frame _ _ h1 h2).1, (e.frame _ _ h1 h2).2, h3⟩, fun a fs h n => e.frame _ _ h n⟩
/-- what the store of a turn's item must give -/
def StoreOk (P : Program) (w : World) (K : PySem.W.Frag) (g : Gx) (tg : TG) (fs : FH.D → Env → Store → Out) (sb : Ss) : Prop :=
  ∀ (α : List Addr) (H : Hp) (μ : Store) (σ : Env) (τ : L2.St) (d : FH.D) (v : V) (D : Ends) (R : L2.St → Hp → Prop), Rs P w K g α H μ → RepE K g.ea α H σ τ → Rv K g α H d v → PstS P w K g α H (fs d σ μ) D →
    (∀ τ' σ', RepE K g.ea α H σ' τ' → PstS P w K g α H (exs g.cl g.fu sb g.cx σ' μ) D → R τ' H) → tg v τ H R
theorem for_read {it : I} {tgg : TG} {fs : FH.D → Env → Store → Out} {sb : Ss} (hst : StoreOk X.prog X.w X.K g tgg fs sb) (s : Rs X.prog X.w X.K g α H μ) (re : RepE X.K g.ea α H σ τ)
    (h : PstS X.prog X.w X.K g α H ((evI g.cl g.cx it σ μ).out σ fun src μ => forRun src fs σ μ) D) : tFor (rdI X.prog X.w X.K g it) tgg (rdSs X.prog X.w X.K g sb) D τ H := by
  refine ⟨α, μ, σ, s, re, Pst.imp (rdo re h) fun J H1 q => ?_⟩
  obtain ⟨α1, μ1, src, e1, s1, w1, h1⟩ := q
  have re1 := re.mono e1
  unfold forRun at h1
  cases hn : src.len μ1 with
  | none => rw [hn] at h1; exact h1.elim
  | some n =>
    rw [hn] at h1
    refine ⟨fun j m τ' H' => ∃ α' μ' σ', Ext α1 H1 α' H' ∧ Rs X.prog X.w X.K g α' H' μ' ∧ RepE X.K g.ea α' H' σ' τ' ∧ PstS X.prog X.w X.K g α' H' (forLoop src fs m j σ' μ') D, ⟨n, α1, μ1, σ, Ext.refl, s1, re1, h1⟩, ?_⟩
    rintro j m τ2 H2 ⟨α2, μ2, σ2, e2, s2, re2, h2⟩
    cases m with
    | zero =>
      unfold forLoop at h2
      split at h2
      · rename_i hlen
        exact .inl ⟨src_stop w1 e2 s2 hlen, h2 α2 H2 τ2 Ext.refl s2 re2⟩
      · exact h2.elim
    | succ m =>
      unfold forLoop at h2
      cases hg : src.get j μ2 with
      | none => rw [hg] at h2; exact h2.elim
      | some d =>
        rw [hg] at h2
        simp only at h2
        obtain ⟨v, k1, k2, rv⟩ := src_get w1 e2 (Chg.ext e2) s2 hg
        refine .inr ⟨k1, fun τ' H' => ∃ α' μ' σ', Ext α1 H1 α' H' ∧ Rs X.prog X.w X.K g α' H' μ' ∧ RepE X.K g.ea α' H' σ' τ' ∧ PstS X.prog X.w X.K g α' H' (forLoop src fs m (j + 1) σ' μ') D, fun τ' H' q => ⟨m, Nat.lt_succ_self _, q⟩, fun x H' hy => ?_⟩
        obtain ⟨rfl, rfl⟩ := k2 x H' hy
        refine hst α2 H' μ2 σ2 τ2 d x _ _ s2 re2 rv (PstS.seq (bk := D.bk) (ct := D.ct) h2) fun τ' σ' r' h' => ?_
        refine ⟨α2, μ2, σ', s2, r', PstS.ends h' (fun τ3 H3 q => ?_) fun v H3 q => q⟩
        obtain ⟨α3, μ3, σ3, e3, s3, r3, h3⟩ := q
        exact ⟨α3, μ3, σ3, e2.trans e3, s3, r3, h3⟩
theorem snd_for {it : I} {sb : Ss} {xb : List Stmt} (ho : g.ea.off i) (hp : PassesOwn (model X.prog X.w) X.A X.env X.xe) (hc : X.calm = true) (hN : X.N.Nodup) (hi : X.N[i]? = some x) (hx : Loc X.env.scope x) (hf : X.fn x = true) (hit : PI X (.Name x p) a (rdI X.prog X.w X.K g it)) (hpl : plainE a = true) (hb : PSs X xb (rdSs X.prog X.w X.K g sb)) :
    PS X (.For (.Name x p) a xb [] pos) (rdS X.prog X.w X.K g (.for_ i it sb)) := by
  refine PS.imp (ps_for hp hc hit (pg_name hN hi hx (.inl hf)) hb (plain_set hpl _)) fun D τ H h => ?_
  obtain ⟨α, μ, σ, s, re, h⟩ := h
  simp only [ex1] at h
  refine for_read ?_ s re h
  intro α H μ σ τ d v D R s re rv h k
  exact k _ _ (re.set ho rv) h
theorem snd_forT {it : I} {is : List Nat} {ts : List Expr} {kt : Nat} {sb : Ss} {xb : List Stmt} (ho : ∀ i ∈ is, g.ea.off i) (hp : PassesOwn (model X.prog X.w) X.A X.env X.xe) (hc : X.calm = true) (hN : X.N.Nodup) (hf : ∀ x, X.fn x = true) (hk : chkNs X.N X.env.scope is ts = true) (hit : PI X (.Tuple ts kt p) a (rdI X.prog X.w X.K g it)) (hpl : plainE a = true) (hb : PSs X xb (rdSs X.prog X.w X.K g sb)) :
    PS X (.For (.Tuple ts kt p) a xb [] pos) (rdS X.prog X.w X.K g (.forT is it sb)) := by
  obtain ⟨h1, h2, h3⟩ := chkNs_ok hN hf hk
  refine PS.imp (ps_for hp hc hit (pg_tup hc h1 h2 h3) hb (plain_set hpl _)) fun D τ H h => ?_
  obtain ⟨α, μ, σ, s, re, h⟩ := h
  simp only [ex1] at h
  refine for_read ?_ s re h
  intro α H μ σ τ d v D R s re rv h k
  cases d with
  | tup xs =>
    simp only at h
    simp only [RepV] at rv
    obtain ⟨l, vs, rfl, ht, hr⟩ := rv
    cases hs : setAll is xs σ with
    | none => rw [hs] at h; exact h.elim
    | some σ' =>
      rw [hs] at h
      exact ⟨l, vs, rfl, ht.sq, by rw [hr.len, setAll_len hs], gNs_ok (P := X.prog) (w := X.w) ho hr re hs fun τ' r' => k τ' σ' r' h⟩
  | _ => exact h.elim
end
end FH

set_option maxHeartbeats 1000000
/-! What a law's top has; errors raised and handled. -/
namespace FH
open PySem PySem.Spec PyProof.Rows L2
/-- which defs, constants and classes a law's top has -/
structure Hv where
  fn : F → Bool
  cl : Cl → Bool
  gl : Gc → Bool
  len : Bool
  run : Bool
def freeNames : List Str := ["len", "tuple", "list", "int", "min", "max", "sum", "sorted", "isinstance", "range", "reversed", "set", "bool", "str", "ValueError"]
/-- the methods of the one class -/
def methName : F → Option Str
  | .Run_go_on => some "go_on"
  | .Run_step => some "step"
  | _ => none
def isMeth : F → Bool
  | .Run_go_on => true
  | .Run_step => true
  | .Run_init => true
  | .BadText_init => true
  | _ => false
def clsV (T : Tb) (c : Cl) : Value := match c with | .ValueError => .type "ValueError" | c => .ref (T.ca c)
abbrev Gx0 (T : Tb) (Gam : F → Fn) (fu k : Nat) : Gx := ⟨T, Gam, fu, k, none, (none, []), fun _ _ _ _ => False⟩
/-- what holds of a law's top -/
structure Glb (P : Program) (w : World) (K : PySem.W.Frag) (mg : Str → Option Value) (T : Tb) (fnm : F → Str) (hv : Hv) : Prop where
  bd : ∀ f, hv.fn f = true → Binds K (T.fd f) (T.ps f) []
  top : ∀ f, hv.fn f = true → isMeth f = false → mg (fnm f) = some (.ref (T.fa f)) ∧ PySem.W.keepIn K (.ref (T.fa f)) = true
  cls : hv.run = true → Cls K T.rc ∧ mg "Run" = some (.ref T.rc)
  noat : hv.run = true → ∀ f : Fld, NoAttr K T.rc (fname f)
  mt : hv.run = true → ∀ f m, methName f = some m → hv.fn f = true → Meth K T.rc m (T.fa f)
  mkr : hv.run = true → Mk K T.rc (T.fa .Run_init)
  gl : ∀ G, hv.gl G = true → ∃ u v, mg (gname G) = some u ∧ RelV v u ∧ ∀ ea α H, RepV K ea α H (gval G) v
  lt : hv.len = true → ∃ (L : Addr) (es : Array DictEntry) (n : Nat), mg "LENGTHS" = some (.ref L) ∧ KDict K w L es n ∧ ∀ s : List Nat, match lengths.lookup s with | some i => ∃ t, PySem.W.nsIn K L ⟨s.toArray⟩ = some (some (.int i t)) | none => PySem.W.nsIn K L ⟨s.toArray⟩ = some none
  hcl : ∀ c : Cl, hv.cl c = true → T.hc c = true
  ex : ∀ c : Cl, T.hc c = true → mg (cname c) = some (.ref (T.ca c))
  exm : ∀ k c : Cl, T.hc k = true → T.hc c = true → PySem.W.exmOne K (.ref (T.ca k)) (.ref (T.ca c)) = some (k.sub c)
  kit : ∀ k c : Cl, T.hc k = true → (T.hc c = true ∨ c = .ValueError) → PySem.W.kitOne K (.ref (T.ca k)) (clsV T c) = some (k.sub c)
  exc : ∀ c : Cl, T.hc c = true → c ≠ .BadText → PySem.W.excIn K (T.ca c) [.type "ValueError", .type "Exception", .type "BaseException", .type "object"] "ValueError.__new__" = true ∧ PySem.W.keepIn K (.ref (T.ca c)) = true ∧ PySem.W.subIn K (.ref (T.ca c)) (.type "BaseException") = some true ∧ PySem.W.typeIn K (.ref (T.ca c)) = some (.type "type")
  exC : ∀ c : Cl, T.hc c = true → ExcC K (T.ca c)
  xf : T.hc .BadText = true → XfC K (T.ca .BadText) ∧ PySem.W.findIn K (.ref (T.ca .BadText)) "place" = some none
  free : ∀ x ∈ freeNames, mg x = none
/-- what holds of its defs, k deep -/
structure GlbF (P : Program) (w : World) (K : PySem.W.Frag) (mg : Str → Option Value) (base : Heap) (T : Tb) (Gam : F → Fn) (fu k : Nat) (hv : Hv) (kk : Nat) : Prop where
  fn : ∀ f, hv.fn f = true → FnOk P w K mg base (L2.CX P w) kk (T.fa f) (T.fd f) (T.ps f) (spF P w K (Gx0 T Gam fu k) f)
  np : ∀ f, hv.fn f = true → (T.ps f).length = (Gam f).np
theorem cname_ok (c : Cl) : (cname c == ("__debug__" : Str)) = false ∧ cname c ≠ "__name__" := by cases c <;> exact ⟨by decide +kernel, by decide +kernel⟩
section
variable {X : Cx} {g : Gx} {pos p p1 p2 apos : Pos} {tg a b c o : Expr} {ea eb ec : E} {es : Es} {α : List Addr} {H : Hp} {μ : Store} {τ : L2.St} {σ : Env} {D : Ends} {i : Nat} {x : Str} {fnm : F → Str} {hv : Hv}
theorem snd_raise {k : Cl} {m : Str} {j : Nat} {d : FH.D} (G : Glb X.prog X.w X.K X.mg g.T fnm hv) (hc : X.calm = true) (tk : Takes X g.W) (hk : g.T.hc k = true) (hk' : k ≠ .BadText) (hg : Gl X (cname k)) :
    PS X (.Raise (some (.Call (.Name (cname k) p) [.Constant (.str m) j p2] [] apos)) none pos) (rdS X.prog X.w X.K g (.raise k (.con d))) := by
  obtain ⟨h1, h2, h3, h4⟩ := G.exc k hk hk'
  refine PS.imp (ps_raise hc tk (pmk_own PySem.F.excBase_ValueError h1 (G.ex k hk) h2 (raises_own h3 h4) hg (cname_ok k).1)) fun D τ H h => ?_
  obtain ⟨α, μ, σ, s, re, h⟩ := h
  simp only [ex1, ev, Res.out_ok] at h
  refine h α H τ _ none Ext.refl s re ⟨hk, rfl, ?_⟩
  cases k <;> first | rfl | exact absurd rfl hk'
/-! ### try -/
theorem PSs.ex {A : Type} {st : List Stmt} {t : A → TS} (h : ∀ x, PSs X st (t x)) : PSs X st (fun D σ H => ∃ x, t x D σ H) := ⟨fun pins s σ H D I ⟨x, q⟩ => (h x).run pins s σ H D I q⟩
theorem PSs.pre {q : Prop} {st : List Stmt} {t : TS} (h : q → PSs X st t) : PSs X st (fun D σ H => q ∧ t D σ H) := ⟨fun pins s σ H D I ⟨x, q⟩ => (h x).run pins s σ H D I q⟩
/-- the state within an except suite -/
abbrev Gx.sui (g : Gx) (xc : Option Xc) (k : Cl) (d : FH.D) : Gx := { g with ea := (xc, g.ea.2), cx := some (k, d), W := fun _ _ _ _ => False }
/-- how the error that is handled carries its value -/
def xcOf (i : Nat) (a : Addr) (dd : Option Addr) (d : FH.D) : Xc := ⟨i, a, dd, d⟩
/-- the suite's reading: an error k at a with its dict dd -/
def tSui (P : Program) (w : World) (K : PySem.W.Frag) (g : Gx) (i : Option Nat) (sb : Ss) (a : Addr) (cls : Value) (dd : Option Addr) : TS := fun D τ H =>
  ∃ q : Cl × FH.D, (g.T.hc q.1 = true ∧ cls = .ref (g.T.ca q.1) ∧ (q.1 ≠ .BadText → dd = none) ∧ (q.1 = .BadText → ∃ b, dd = some b)) ∧ rdSs P w K (g.sui (i.map fun i => xcOf i a dd q.2) q.1 q.2) sb D τ H
mutual
theorem RepV.re1 {K : PySem.W.Frag} {x y : Option Xc} {ξ : List Addr} {α : List Addr} {H : Hp} : ∀ (d : FH.D) (v : V), RepV K (x, ξ) α H d v → RepV K (y, ξ) α H d v
  | .non, v, h => by simpa only [RepV] using h
  | .bl b, v, h => by simpa only [RepV] using h
  | .int i, v, h => by simpa only [RepV] using h
  | .str s, v, h => by simpa only [RepV] using h
  | .tup xs, v, h => by
    simp only [RepV] at h ⊢
    obtain ⟨a, vs, h1, h2, h3⟩ := h
    exact ⟨a, vs, h1, h2, RepVs.re1 xs vs h3⟩
  | .lst xs, v, h => by
    simp only [RepV] at h ⊢
    obtain ⟨a, vs, h1, h2, h3, h5, h4⟩ := h
    exact ⟨a, vs, h1, h2, h3, h5, RepVs.re1 xs vs h4⟩
  | .ptr p, v, h => by simpa only [RepV] using h
  | .rl xs, v, h => by
    simp only [RepV] at h ⊢
    obtain ⟨a, vs, h1, h2, h3⟩ := h
    exact ⟨a, vs, h1, h2, RepVs.re1 xs vs h3⟩
  | .exn, v, h => by simp only [RepV] at h
  | .clo _ _, v, h => by simp only [RepV] at h
theorem RepVs.re1 {K : PySem.W.Frag} {x y : Option Xc} {ξ : List Addr} {α : List Addr} {H : Hp} : ∀ (ds : List FH.D) (vs : List V), RepVs K (x, ξ) α H ds vs → RepVs K (y, ξ) α H ds vs
  | [], vs, h => by simpa only [RepVs] using h
  | d :: ds, vs, h => by
    simp only [RepVs] at h ⊢
    obtain ⟨v, r, h1, h2, h3⟩ := h
    exact ⟨v, r, h1, RepV.re1 d v h2, RepVs.re1 ds r h3⟩
end
theorem RepFs.re1 {K : PySem.W.Frag} {x y : Option Xc} {ξ : List Addr} {α : List Addr} {H : Hp} : ∀ {fs : List (Fld × FH.D)} {gs : List (Str × V)}, RepFs K (x, ξ) α H fs gs → RepFs K (y, ξ) α H fs gs
  | [], gs, h => h
  | (f, d) :: r, gs, h => by
    obtain ⟨v, q, h1, h2, h3⟩ := h
    exact ⟨v, q, h1, RepV.re1 d v h2, RepFs.re1 h3⟩
theorem RepKv.re1 {K : PySem.W.Frag} {x y : Option Xc} {ξ : List Addr} {α : List Addr} {H : Hp} : ∀ {kvs : List (FH.D × FH.D)} {xs : List (NestedKey × Addr × Value)}, RepKv K (x, ξ) α H kvs xs → RepKv K (y, ξ) α H kvs xs
  | [], xs, h => h
  | (k, d) :: r, xs, h => by
    obtain ⟨n, b, u, v, q, h1, h2, h3, h4, h5, h6⟩ := h
    exact ⟨n, b, u, v, q, h1, h2, RepV.re1 k _ h3, h4, RepV.re1 d v h5, RepKv.re1 h6⟩
theorem RepS.re1 {P : Program} {w : World} {K : PySem.W.Frag} {rc : Addr} {x y : Option Xc} {ξ : List Addr} {α : List Addr} {H : Hp} {μ : Store} (S : RepS P w K (x, ξ) rc α H μ) : RepS P w K (y, ξ) rc α H μ := by
  refine ⟨S.len, S.nd, fun q a o h1 h2 => ?_, S.xi⟩
  have r := S.at_ q a o h1 h2
  cases o with
  | lst ds => obtain ⟨vs, h, r⟩ := r; exact ⟨vs, h, RepVs.re1 _ _ r⟩
  | dic kvs => obtain ⟨xs, h, nn, r⟩ := r; exact ⟨xs, h, nn, r.re1⟩
  | ins fs => obtain ⟨dx, gs, h, r⟩ := r; exact ⟨dx, gs, h, r.re1⟩
theorem RepX.dd {K : PySem.W.Frag} {T : Tb} {ea : Rm} {α : List Addr} {H : Hp} {c : Cl} {d : FH.D} {cv : Value} {dd : Option Addr} (h : RepX K T ea α H c d cv dd) : c ≠ .BadText → dd = none := by
  intro hc
  have h3 := h.2.2
  cases c <;> first | exact h3 | exact absurd rfl hc
theorem RepX.db {K : PySem.W.Frag} {T : Tb} {ea : Rm} {α : List Addr} {H : Hp} {c : Cl} {d : FH.D} {cv : Value} {dd : Option Addr} (h : RepX K T ea α H c d cv dd) : c = .BadText → ∃ b, dd = some b := by
  rintro rfl
  obtain ⟨b, v, h1, _⟩ := h.2.2
  exact ⟨b, h1⟩
theorem xok_new {K : PySem.W.Frag} {T : Tb} {x : Option Xc} {ξ : List Addr} {α : List Addr} {H : Hp} {c : Cl} {d : FH.D} {cv : Value} {dd : Option Addr} {i : Nat} {a : Addr} {σ : Env} {τ : L2.St} (h : RepX K T (x, ξ) α H c d cv dd) (hl : σ.length = τ.length) (hi : i < σ.length) :
    XOk K (some (xcOf i a dd d), ξ) α H (σ.set i none) (τ.set i (some (.ref a))) := by
  refine ⟨List.getElem?_set_self hi, List.getElem?_set_self (hl ▸ hi), ?_⟩
  cases dd with
  | none => trivial
  | some b =>
    have hc : c = .BadText := Classical.byContradiction fun hc => by have := RepX.dd h hc; cases this
    subst hc
    obtain ⟨b', v, h1, h2, h3, h4⟩ := h.2.2
    cases h1
    exact ⟨v, h2, h3, RepV.re1 _ _ h4⟩
/-! the length of the slots -/
def Out.len (n : Nat) : Out → Prop
  | .nx σ _ => σ.length = n
  | .xc _ _ σ _ => σ.length = n
  | _ => True
theorem Out.len_seq {n : Nat} {o : Out} {f : Env → Store → Out} (h : o.len n) (hf : ∀ σ μ, σ.length = n → (f σ μ).len n) : (o.seq f).len n := by
  cases o with
  | nx σ μ => exact hf σ μ h
  | _ => exact h
theorem Out.len_out {A : Type} {n : Nat} {r : Res A} {σ : Env} {f : A → Store → Out} (hs : σ.length = n) (hf : ∀ a μ, (f a μ).len n) : (r.out σ f).len n := by
  cases r with
  | ok a μ => exact hf a μ
  | exc c d μ => exact hs
  | bad => trivial
theorem setAll_length : ∀ {is : List Nat} {ds : List FH.D} {σ σ' : Env}, setAll is ds σ = some σ' → σ'.length = σ.length
  | [], [], σ, σ', e => by simp only [setAll, Option.some.injEq] at e; rw [e]
  | [], d :: ds, σ, σ', e => by simp [setAll] at e
  | i :: is, [], σ, σ', e => by simp [setAll] at e
  | i :: is, d :: ds, σ, σ', e => by
    simp only [setAll] at e
    rw [setAll_length e, List.length_set]
theorem forLoop_len {src : Src} {f : FH.D → Env → Store → Out} {n : Nat} (hf : ∀ d σ μ, σ.length = n → (f d σ μ).len n) : ∀ (m j : Nat) (σ : Env) (μ : Store), σ.length = n → (forLoop src f m j σ μ).len n
  | 0, j, σ, μ, h => by
    unfold forLoop
    split
    · exact h
    · trivial
  | m + 1, j, σ, μ, h => by
    unfold forLoop
    split
    · trivial
    · exact Out.len_seq (hf _ _ _ h) fun σ μ h => forLoop_len hf m _ σ μ h
theorem whlRun_len {c : Env → Store → Res FH.D} {b : Env → Store → Out} {n : Nat} (hb : ∀ σ μ, σ.length = n → (b σ μ).len n) : ∀ (m : Nat) (σ : Env) (μ : Store), σ.length = n → (whlRun c b m σ μ).len n
  | 0, σ, μ, h => True.intro
  | m + 1, σ, μ, h => by
    unfold whlRun
    refine Out.len_out h fun a μ => ?_
    split
    · exact Out.len_seq (hb _ _ h) fun σ μ h => whlRun_len hb m σ μ h
    · exact h
    · trivial
section
variable (cl : Calls) (fu : Nat)
mutual
theorem ex1_len : ∀ (s : S) (cx : Option (Cl × FH.D)) (σ : Env) (μ : Store), (ex1 cl fu s cx σ μ).len σ.length
  | .pass, cx, σ, μ => by simp only [ex1]; exact (rfl : σ.length = σ.length)
  | .ex e, cx, σ, μ => by simp only [ex1]; exact Out.len_out rfl fun a μ => rfl
  | .ret e, cx, σ, μ => by simp only [ex1]; exact Out.len_out rfl fun a μ => True.intro
  | .asg i e, cx, σ, μ => by simp only [ex1]; exact Out.len_out rfl fun a μ => List.length_set ..
  | .unp is e, cx, σ, μ => by
    simp only [ex1]
    refine Out.len_out rfl fun a μ => ?_
    split
    · split
      · rename_i h; exact setAll_length h
      · trivial
    · trivial
  | .unpL is e, cx, σ, μ => by
    simp only [ex1]
    refine Out.len_out rfl fun a μ => ?_
    split
    · split
      · rename_i h; exact setAll_length h
      · trivial
    · trivial
  | .par i j a b, cx, σ, μ => by
    simp only [ex1]
    exact Out.len_out rfl fun a μ => Out.len_out rfl fun b μ => by show (List.set _ _ _).length = _; rw [List.length_set, List.length_set]
  | .setI a i e, cx, σ, μ => by
    simp only [ex1]
    refine Out.len_out rfl fun a μ => Out.len_out rfl fun b μ => Out.len_out rfl fun c μ => ?_
    split
    · exact (rfl : σ.length = σ.length)
    · trivial
  | .setF a f e, cx, σ, μ => by
    simp only [ex1]
    refine Out.len_out rfl fun a μ => Out.len_out rfl fun b μ => ?_
    split
    · split
      · split
        · exact (rfl : σ.length = σ.length)
        · trivial
      · trivial
    · trivial
  | .ifs c a b, cx, σ, μ => by
    simp only [ex1]
    refine Out.len_out rfl fun x μ => ?_
    split
    · exact exs_len a cx σ μ
    · exact exs_len b cx σ μ
    · trivial
  | .whl c b, cx, σ, μ => by
    simp only [ex1]
    exact whlRun_len (fun σ' μ' h => h ▸ exs_len b cx σ' μ') fu σ μ rfl
  | .for_ i it b, cx, σ, μ => by
    simp only [ex1]
    refine Out.len_out rfl fun src μ => ?_
    unfold forRun
    split
    · exact forLoop_len (fun d σ' μ' h => by have := exs_len b cx (σ'.set i (some d)) μ'; rw [List.length_set, h] at this; exact this) _ _ σ μ rfl
    · trivial
  | .forT is it b, cx, σ, μ => by
    simp only [ex1]
    refine Out.len_out rfl fun src μ => ?_
    unfold forRun
    split
    · refine forLoop_len (fun d σ' μ' h => ?_) _ _ σ μ rfl
      split
      · split
        · rename_i σ2 hs
          have := exs_len b cx σ2 μ'
          rw [setAll_length hs, h] at this; exact this
        · trivial
      · trivial
    · trivial
  | .raise c e, cx, σ, μ => by simp only [ex1]; exact Out.len_out rfl fun a μ => rfl
  | .try_ c i b s, cx, σ, μ => by
    simp only [ex1]
    have hb := exs_len b cx σ μ
    split
    · rename_i k d σ' μ' q
      rw [q] at hb
      have hb : σ'.length = σ.length := hb
      split
      · split
        · rename_i i
          have hs := exs_len s (some (k, d)) (σ'.set i none) μ'
          split
          · rename_i q2
            rw [q2] at hs
            have hs : _ = (σ'.set i none).length := hs
            show (List.set _ _ _).length = _
            rw [List.length_set, hs, List.length_set, hb]
          · trivial
          · trivial
        · have hs := exs_len s (some (k, d)) σ' μ'
          split
          · rename_i q2
            rw [q2] at hs
            have hs : _ = σ'.length := hs
            show List.length _ = _
            rw [hs, hb]
          · trivial
          · trivial
      · exact hb
    · exact hb
theorem exs_len : ∀ (ss : Ss) (cx : Option (Cl × FH.D)) (σ : Env) (μ : Store), (exs cl fu ss cx σ μ).len σ.length
  | .nil, cx, σ, μ => by simp only [exs]; exact (rfl : σ.length = σ.length)
  | .cons s ss, cx, σ, μ => by
    simp only [exs]
    exact Out.len_seq (ex1_len s cx σ μ) fun σ' μ' h => h ▸ exs_len ss cx σ' μ'
end
end
theorem RepE.in1 {K : PySem.W.Frag} {T : Tb} {ξ : List Addr} {α : List Addr} {H : Hp} {c : Cl} {d : FH.D} {cv : Value} {dd : Option Addr} {i : Nat} {a : Addr} {σ : Env} {τ : L2.St} (r : RepE K (none, ξ) α H σ τ) (h : RepX K T (none, ξ) α H c d cv dd) (hi : i < σ.length) :
    RepE K (some (xcOf i a dd d), ξ) α H (σ.set i none) (τ.set i (some (.ref a))) := by
  refine ⟨by rw [List.length_set, List.length_set]; exact r.len, fun j c q => ?_, xok_new h r.len hi⟩
  by_cases e : j = i
  · subst e
    rw [List.getElem?_set_self hi] at q
    cases q
  · rw [List.getElem?_set_ne (Ne.symm e)] at q ⊢
    obtain ⟨v, h1, h2⟩ := r.at_ j c q
    exact ⟨v, h1, RepV.re1 _ _ h2⟩
theorem RepE.out1 {K : PySem.W.Frag} {x : Option Xc} {ξ : List Addr} {α : List Addr} {H : Hp} {i : Nat} {σ : Env} {τ : L2.St} (r : RepE K (x, ξ) α H σ τ) : RepE K (none, ξ) α H (σ.set i none) (τ.set i none) := by
  refine ⟨by rw [List.length_set, List.length_set]; exact r.len, fun j c q => ?_, True.intro⟩
  by_cases e : j = i
  · subst e
    have hj : j < σ.length := by
      have := (List.getElem?_eq_some_iff.mp q).1
      rwa [List.length_set] at this
    rw [List.getElem?_set_self hj] at q
    cases q
  · rw [List.getElem?_set_ne (Ne.symm e)] at q ⊢
    obtain ⟨v, h1, h2⟩ := r.at_ j c q
    exact ⟨v, h1, RepV.re1 _ _ h2⟩
theorem RepE.out0 {K : PySem.W.Frag} {x : Option Xc} {ξ : List Addr} {α : List Addr} {H : Hp} {σ : Env} {τ : L2.St} (r : RepE K (x, ξ) α H σ τ) : RepE K (none, ξ) α H σ τ :=
  ⟨r.len, fun j c q => let ⟨v, h1, h2⟩ := r.at_ j c q; ⟨v, h1, RepV.re1 _ _ h2⟩, True.intro⟩
theorem PS.impL {st : Stmt} {t t' : TS} (h : PS X st t) (i : ∀ D σ H, σ.length = X.N.length → t' D σ H → t D σ H) : PS X st t' := ⟨fun pins s σ H D I q => h.run pins s σ H D I (i D σ H I.len q)⟩
theorem try_as_read {k : Cl} {sb ss : Ss} (G : Glb X.prog X.w X.K X.mg g.T fnm hv) (hk : g.T.hc k = true) (h0 : g.ea.1 = none) (hi : i < X.N.length) (hlen : τ.length = X.N.length) (h : rdS X.prog X.w X.K g (.try_ k (some i) sb ss) D τ H) :
    rdSs X.prog X.w X.K { g with W := wAs X.K (.ref (g.T.ca k)) i (tSui X.prog X.w X.K g (some i) ss) g.W D } sb D τ H := by
  obtain ⟨α, μ, σ, s, re, h⟩ := h
  refine ⟨α, μ, σ, s, re, ?_⟩
  simp only [ex1] at h
  have hσ : i < σ.length := by rw [re.len, hlen]; exact hi
  have hol := exs_len g.cl g.fu sb g.cx σ μ
  obtain ⟨T, Gam, fu, dk, cx, ⟨ex, ξ⟩, W⟩ := g
  cases (show ex = none from h0)
  revert h hol
  dsimp only
  cases q : exs (callK Gam fu dk) fu sb cx σ μ with
  | nx σ' μ' => exact fun h _ => h
  | rt d μ' => exact fun h _ => h
  | bad => exact fun h _ => h
  | xc c d σ' μ' =>
    intro h hol α1 H1 τ1 cv dd e1 s1 r1 x1
    have hol : σ'.length = σ.length := hol
    have x1' : RepX X.K T (none, ξ) α1 H1 c d cv dd := x1
    obtain ⟨hv1, hcv, _⟩ := x1'
    subst hcv
    refine ⟨c.sub k, G.exm c k hv1 hk, fun hb a ha => ?_, fun hb => ?_⟩
    · simp only [hb, if_true] at h
      refine ⟨(c, d), ⟨hv1, rfl, RepX.dd x1, RepX.db x1⟩, α1, μ', σ'.set i none, RepS.re1 s1, RepE.in1 r1 x1 (by rw [hol]; exact hσ), ?_⟩
      revert h
      show _ → PstS X.prog X.w X.K _ α1 H1 (exs (callK Gam fu dk) fu ss (some (c, d)) (σ'.set i none) μ') _
      cases q2 : exs (callK Gam fu dk) fu ss (some (c, d)) (σ'.set i none) μ' with
      | nx σ2 μ2 => exact fun h α2 H2 τ2 e2 s2 r2 => h α2 H2 _ (e1.trans e2) (RepS.re1 s2) (RepE.out1 r2)
      | rt d2 μ2 => exact fun h α2 H2 v e2 s2 r2 => h α2 H2 v (e1.trans e2) (RepS.re1 s2) (RepV.re1 _ _ r2)
      | xc c2 d2 σ2 μ2 => exact fun h => h.elim
      | bad => exact fun h => h.elim
    · simp only [hb, Bool.false_eq_true, if_false] at h
      exact h α1 H1 τ1 _ dd e1 s1 r1 x1
theorem try_only_read {k : Cl} {sb ss : Ss} (G : Glb X.prog X.w X.K X.mg g.T fnm hv) (hk : g.T.hc k = true) (h0 : g.ea.1 = none) (h : rdS X.prog X.w X.K g (.try_ k none sb ss) D τ H) :
    rdSs X.prog X.w X.K { g with W := wOnly X.K (.ref (g.T.ca k)) (tSui X.prog X.w X.K g none ss) g.W D } sb D τ H := by
  obtain ⟨α, μ, σ, s, re, h⟩ := h
  refine ⟨α, μ, σ, s, re, ?_⟩
  simp only [ex1] at h
  obtain ⟨T, Gam, fu, dk, cx, ⟨ex, ξ⟩, W⟩ := g
  cases (show ex = none from h0)
  revert h
  dsimp only
  cases q : exs (callK Gam fu dk) fu sb cx σ μ with
  | nx σ' μ' => exact fun h => h
  | rt d μ' => exact fun h => h
  | bad => exact fun h => h
  | xc c d σ' μ' =>
    intro h α1 H1 τ1 cv dd e1 s1 r1 x1
    have x1' : RepX X.K T (none, ξ) α1 H1 c d cv dd := x1
    obtain ⟨hv1, hcv, _⟩ := x1'
    subst hcv
    refine ⟨c.sub k, G.exm c k hv1 hk, fun hb a ha => ?_, fun hb => ?_⟩
    · simp only [hb, if_true] at h
      refine ⟨(c, d), ⟨hv1, rfl, RepX.dd x1, RepX.db x1⟩, α1, μ', σ', RepS.re1 s1, r1, ?_⟩
      revert h
      show _ → PstS X.prog X.w X.K _ α1 H1 (exs (callK Gam fu dk) fu ss (some (c, d)) σ' μ') _
      cases q2 : exs (callK Gam fu dk) fu ss (some (c, d)) σ' μ' with
      | nx σ2 μ2 => exact fun h α2 H2 τ2 e2 s2 r2 => h α2 H2 _ (e1.trans e2) (RepS.re1 s2) (RepE.out0 r2)
      | rt d2 μ2 => exact fun h α2 H2 v e2 s2 r2 => h α2 H2 v (e1.trans e2) (RepS.re1 s2) (RepV.re1 _ _ r2)
      | xc c2 d2 σ2 μ2 => exact fun h => h.elim
      | bad => exact fun h => h.elim
    · simp only [hb, Bool.false_eq_true, if_false] at h
      exact h α1 H1 τ1 _ dd e1 s1 r1 x1
/-! ### what a suite asks of its error -/
def vOfC (T : Tb) (c : Cl) : V := match c with | .ValueError => .ty "ValueError" | c => .ref (T.ca c)
theorem pe_cls {Y : Cx} {T : Tb} {c : Cl} (G : Glb Y.prog Y.w Y.K Y.mg T fnm hv) (hcc : T.hc c = true ∨ c = .ValueError) (hg : Gl Y (cname c)) : PE Y (.Name (cname c) p) (tC (vOfC T c)) := by
  by_cases hc : c = .ValueError
  · subst hc
    exact pe_bltn (v := .ty "ValueError") hg (G.free _ (by decide +kernel)) (show bootBuiltins (cname .ValueError) = some (.type "ValueError") by decide +kernel) rfl (cname_ok _).2 (cname_ok _).1
  · have e : vOfC T c = .ref (T.ca c) := by cases c <;> first | rfl | exact absurd rfl hc
    rw [e]
    exact pe_glob hg (G.ex c (hcc.resolve_right hc)) rfl (cname_ok _).1
theorem vOfC_rel {T : Tb} {c : Cl} {u : Value} (h : RelV (vOfC T c) u) : u = clsV T c := by cases c <;> exact h
theorem sui_isE {n : Str} {c k : Cl} {a : Addr} {oe : Obj} {pn : List (Addr × Obj)} {dd : Option Addr} {d : FH.D} (G : Glb X.prog X.w X.K X.mg g.T fnm hv) (hk : g.T.hc k = true) (hcc : g.T.hc c = true ∨ c = .ValueError) (hdd : k ≠ .BadText → dd = none) (hz : Zc (.ref (g.T.ca k)) dd oe) (hf : ∃ vs, oe.data = .fields vs)
    (hN : X.N[i]? = some n) (hvis : Vis X.env.scope n) (hd1 : (n == ("__debug__" : Str)) = false) (hd2 : (n == ("__classdict__" : Str)) = false) (hg : Gl X "isinstance") (hgc : Gl X (cname c)) :
    PE (X.suite a ((a, oe) :: pn)) (.Call (.Name "isinstance" p) [.Name n p1, .Name (cname c) p2] [] pos) (rdE X.prog X.w X.K (g.sui (some (xcOf i a dd d)) k d) (.isE i c)) := by
  by_cases hb : k = .BadText
  · refine ⟨fun pins s σ H Q I h => ?_⟩
    obtain ⟨α, μ, σ, s, re, h⟩ := h
    simp only [ev, hb, if_true] at h
    exact h.elim
  · have hz' : Zc (.ref (g.T.ca k)) none oe := by rw [← hdd hb]; exact hz
    have hv1 : PE (X.suite a ((a, oe) :: pn)) (.Name n p1) (tVar i) := pe_var hN hvis hd1 hd2
    refine PE.imp (pe_callB (X := X.suite a ((a, oe) :: pn)) (call_isE (G.exC k hk) hz' hf) hg (G.free _ (by decide +kernel)) boot_isi (pa_cons hv1 (pa_cons (pe_cls (Y := X.suite a ((a, oe) :: pn)) G hcc hgc) pa_nil rfl) rfl) (by decide +kernel) (by decide +kernel) rfl rfl) fun τ H Q h => ?_
    obtain ⟨α, μ, σ, s, re, h⟩ := h
    simp only [ev, hb, if_false] at h
    obtain ⟨_, h2, _⟩ := re.xo
    exact ⟨_, h2, _, clsV g.T c, _, rfl, fun u r => vOfC_rel r, G.kit k c hk hcc, Pst.here h s (by simp only [RepV])⟩
theorem sui_place {n : Str} {k : Cl} {a : Addr} {oe : Obj} {pn : List (Addr × Obj)} {dd : Option Addr} {d : FH.D} (hT : k = .BadText → XfC X.K (g.T.ca .BadText) ∧ PySem.W.findIn X.K (.ref (g.T.ca .BadText)) "place" = some none) (hz : Zc (.ref (g.T.ca k)) dd oe) (hf : ∃ vs, oe.data = .fields vs) (hdd : k = .BadText → ∃ b, dd = some b)
    (hN : X.N[i]? = some n) (hvis : Vis X.env.scope n) (hd1 : (n == ("__debug__" : Str)) = false) (hd2 : (n == ("__classdict__" : Str)) = false) :
    PE (X.suite a ((a, oe) :: pn)) (.Attribute (.Name n p1) "place" pos) (rdE X.prog X.w X.K (g.sui (some (xcOf i a dd d)) k d) (.place i)) := by
  have hv1 : PE (X.suite a ((a, oe) :: pn)) (.Name n p1) (tVar i) := pe_var hN hvis hd1 hd2
  by_cases hk : k = .BadText
  · obtain ⟨T, hno⟩ := hT hk
    refine PE.imp (pe_xf T hno hz hf hv1) fun τ H Q h => ?_
    obtain ⟨α, μ, σ, s, re, h⟩ := h
    simp only [ev] at h
    subst hk
    obtain ⟨b, rfl⟩ := hdd rfl
    obtain ⟨_, h2, v, h3, h4, h5⟩ := re.xo
    exact ⟨_, h2, rfl, rfl, b, _, v, rfl, h3, by simp [List.lookup], Pst.here h s h5⟩
  · refine ⟨fun pins s σ H Q I h => ?_⟩
    obtain ⟨α, μ, σ, s, re, h⟩ := h
    simp only [ev] at h
    cases k <;> first | exact h.elim | exact absurd rfl hk
end
end FH

set_option maxHeartbeats 1000000
/-! The look that a text of the row is an expression, a statement of the interpreter; and that what the interpreter does, the text does. -/
namespace FH
open PySem PySem.Spec PyProof.Rows L2
/-- how deep the calls of k levels go -/
def okOp : Operator → Bool
  | .Add | .Sub | .Mult | .FloorDiv | .Mod | .Pow => true
  | _ => false
def nameOk (x : Str) : Bool := !(x == ("__debug__" : Str)) && !(x == ("__classdict__" : Str))
/-- a list display, a comprehension -/
def freshB : E → Bool
  | .lst _ => true
  | .comp0 _ _ _ => true
  | .comp1 _ _ _ _ => true
  | _ => false
def compB : E → Bool
  | .comp0 _ _ _ => true
  | .comp1 _ _ _ _ => true
  | _ => false
def andOr : E → Bool
  | .and _ _ => true
  | .or _ _ => true
  | _ => false
/-- the form of a test -/
def tstB : E → Expr → Bool
  | .and a b, x => (match x with
    | .BoolOp .And (y :: z :: rest) p => tstB a y && (if rest.isEmpty then tstB b z else tstB b (.BoolOp .And (z :: rest) p) && andOr b)
    | _ => false)
  | .or a b, x => (match x with
    | .BoolOp .Or (y :: z :: rest) p => tstB a y && (if rest.isEmpty then tstB b z else tstB b (.BoolOp .Or (z :: rest) p) && andOr b)
    | _ => false)
  | .not a, x => (match x with
    | .UnaryOp .Not y _ => tstB a y
    | _ => false)
  | .cmp _ _ _, _ => true
  | .chain _ _ _ _ _, _ => true
  | .inG _ _, _ => true
  | _, x => plainT x
def onLine (a p : Pos) : Bool := a.endLine == p.line
section
variable (fnm : F → Str) (hv : Hv) (N : List Str)
mutual
def chkE : E → Scope → Bool → Option Nat → Expr → Bool
  | .var i, sc, _, _, x => (match x with
    | .Name n _ => decide (N[i]? = some n) && visB sc n && nameOk n
    | _ => false)
  | .con d, _, _, _, x => (match x with
    | .Constant k _ _ => constB d k
    | _ => false)
  | .glo G, sc, _, _, x => (match x with
    | .Name n _ => decide (n = gname G) && hv.gl G && gloB sc n && nameOk n
    | _ => false)
  | .tup es, sc, cm, xs, x => (match x with
    | .Tuple elts _ _ => chkEs es sc cm xs elts && decide (elts.length ≤ 1000)
    | _ => false)
  | .lst es, sc, cm, xs, x => (match x with
    | .List elts _ => chkEs es sc cm xs elts && decide (elts.length ≤ 1000)
    | _ => false)
  | .ref e, sc, cm, xs, x => freshB e && chkE e sc cm xs x
  | .dnew, _, _, _, x => (match x with
    | .Dict [] [] _ => true
    | _ => false)
  | .bin op a b, sc, cm, xs, x => (match x with
    | .BinOp y op' z _ => decide (op = op') && okOp op && chkE a sc cm xs y && chkE b sc cm xs z
    | _ => false)
  | .neg a, sc, cm, xs, x => (match x with
    | .UnaryOp .USub y _ => chkE a sc cm xs y
    | _ => false)
  | .cmp op a b, sc, cm, xs, x => (match x with
    | .Compare y [op'] [z] _ => decide (op = op') && chkE a sc cm xs y && chkE b sc cm xs z && plainE z
    | _ => false)
  | .chain o1 o2 a b c, sc, cm, xs, x => (match x with
    | .Compare y [o1', o2'] [z, u] _ => decide (o1 = o1') && decide (o2 = o2') && chkE a sc cm xs y && chkE b sc cm xs z && chkE c sc cm xs u && plainE u
    | _ => false)
  | .inG ps a, sc, cm, xs, x => (match x with
    | .Compare y [op] [.Name n _] _ => decide (n = "LENGTHS") && decide (op = if ps then .In else .NotIn) && hv.len && gloB sc n && chkE a sc cm xs y
    | _ => false)
  | .getG a, sc, cm, xs, x => (match x with
    | .Subscript (.Name n _) y _ => decide (n = "LENGTHS") && hv.len && gloB sc n && chkE a sc cm xs y && plainE y
    | _ => false)
  | .and a b, sc, cm, xs, x => (match x with
    | .BoolOp .And (y :: z :: rest) p => chkE a sc cm xs y && (if rest.isEmpty then chkE b sc cm xs z else chkE b sc cm xs (.BoolOp .And (z :: rest) p))
    | _ => false)
  | .or a b, sc, cm, xs, x => (match x with
    | .BoolOp .Or (y :: z :: rest) p => chkE a sc cm xs y && (if rest.isEmpty then chkE b sc cm xs z else chkE b sc cm xs (.BoolOp .Or (z :: rest) p))
    | _ => false)
  | .not a, sc, cm, xs, x => (match x with
    | .UnaryOp .Not y _ => chkE a sc cm xs y
    | _ => false)
  | .ife c a b, sc, cm, xs, x => (match x with
    | .IfExp y z u _ => chkE c sc cm xs y && tstB c y && chkE a sc cm xs z && chkE b sc cm xs u
    | _ => false)
  | .idx a i, sc, cm, xs, x => (match x with
    | .Subscript y z _ => chkE a sc cm xs y && chkE i sc cm xs z && plainE z
    | _ => false)
  | .slc a lo hi, sc, cm, xs, x => (match x with
    | .Subscript y (.Slice l h none _) _ => chkE a sc cm xs y
        && (match l with | none => noneE lo | some z => !noneE lo && chkE lo sc cm xs z) && (match h with | none => noneE hi | some z => !noneE hi && chkE hi sc cm xs z)
    | _ => false)
  | .fld a f, sc, cm, xs, x => (match x with
    | .Attribute y n _ => decide (n = fname f) && hv.run && plainE y && chkE a sc cm xs y
    | _ => false)
  | .place i, sc, _, xs, x => (match x with
    | .Attribute (.Name n _) f _ => decide (f = "place") && decide (xs = some i) && decide (N[i]? = some n) && visB sc n && nameOk n
    | _ => false)
  | .comp0 i it e, sc, cm, xs, x => (match x with
    | .ListComp elt [⟨.Name n _, iter, [], 0⟩] scope _ => cm && decide (xs ≠ some i) && decide (N[i]? = some n) && blkC N sc scope [(n, i)] && (match scope.names.lookup n with | some .local => true | some .cell => true | _ => false) && plainE iter && chkI it sc cm xs iter && chkE e (relS scope sc) cm none elt
    | _ => false)
  | .comp1 i it c e, sc, cm, xs, x => (match x with
    | .ListComp elt [⟨.Name n _, iter, [t], 0⟩] scope _ => cm && decide (xs ≠ some i) && decide (N[i]? = some n) && blkC N sc scope [(n, i)] && (match scope.names.lookup n with | some .local => true | some .cell => true | _ => false) && plainE iter && chkI it sc cm xs iter && chkE c (relS scope sc) cm none t && tstB c t && chkE e (relS scope sc) cm none elt
    | _ => false)
  | .isE i c, sc, _, xs, x => (match x with
    | .Call (.Name f _) [.Name n _, .Name m _] [] _ => decide (f = "isinstance") && decide (m = cname c) && (hv.cl c || decide (c = .ValueError)) && decide (xs = some i) && decide (N[i]? = some n) && visB sc n && nameOk n && gloB sc f && gloB sc m
    | _ => false)
  | .isi a ts, sc, cm, xs, x => (match x with
    | .Call (.Name f _) [y, .Name m _] [] _ => (match ts with | [t] => decide (f = "isinstance") && decide (m = tname t) && gloB sc f && gloB sc m && plainE y && chkE a sc cm xs y | _ => false)
    | .Call (.Name f _) [y, .Tuple [.Name m _, .Name m2 _] _ _] [] _ => (match ts with | [t, t2] => decide (f = "isinstance") && decide (m = tname t) && decide (m2 = tname t2) && gloB sc f && gloB sc m && gloB sc m2 && plainE y && chkE a sc cm xs y | _ => false)
    | _ => false)
  | .blt b es, sc, cm, xs, x => (match x with
    | .Call (.Name f _) (y :: rest) [] _ => cm && decide (b ≠ .lenSet) && decide (f = bname b) && gloB sc f && chkEs es sc cm xs (y :: rest)
    | _ => false)
  | .mth m a es, sc, cm, xs, x => (match x with
    | .Call (.Attribute o n ap) args [] p => mtDone m && decide (n = mtName m) && plainE o && onLine ap p && chkE a sc cm xs o && chkEs es sc cm xs args && decide (args.length < 20)
    | _ => false)
  | .sortK _ _, _, _, _, _ => false
  | .call f es, sc, cm, xs, x => (match x with
    | .Call (.Name n _) (y :: rest) [] _ => cm && decide (n = fnm f) && hv.fn f && !isMeth f && gloB sc n && nameOk n && chkEs es sc cm xs (y :: rest)
    | .Call (.Name n _) [] [] _ => cm && decide (n = fnm f) && hv.fn f && !isMeth f && gloB sc n && nameOk n && chkEs es sc cm xs []
    | _ => false)
  | .meth f a, sc, cm, xs, x => (match x with
    | .Call (.Attribute (.Name n q) m ap) [] [] p => cm && hv.run && hv.fn f && decide (methName f = some m) && onLine ap p && chkE a sc cm xs (.Name n q)
    | _ => false)
  | .make f es, sc, cm, xs, x => (match x with
    | .Call (.Name n _) (y :: rest) [] _ => cm && hv.run && hv.fn f && decide (f = .Run_init) && decide (n = "Run") && gloB sc n && chkEs es sc cm xs (y :: rest)
    | _ => false)
  | .callC _, _, _, _, _ => false
def chkEs : Es → Scope → Bool → Option Nat → List Expr → Bool
  | .nil, _, _, _, l => (match l with | [] => true | _ => false)
  | .cons e es, sc, cm, xs, l => (match l with | y :: r => chkE e sc cm xs y && plainE y && chkEs es sc cm xs r | _ => false)
def chkI : I → Scope → Bool → Option Nat → Expr → Bool
  | .seq e, sc, cm, xs, x => chkE e sc cm xs x
  | .rng es, sc, cm, xs, x => (match x with
    | .Call (.Name f _) args [] _ => decide (f = "range") && gloB sc f && chkEs es sc cm xs args && decide (args.length = 1 ∨ args.length = 2 ∨ args.length = 3)
    | _ => false)
  | .rev e, sc, cm, xs, x => (match x with
    | .Call (.Name f _) [y] [] _ => decide (f = "reversed") && gloB sc f && plainE y && chkE e sc cm xs y
    | _ => false)
end
end
/-- where an expression stands -/
structure OkX (X : Cx) (g : Gx) (fnm : F → Str) (hv : Hv) (kk : Nat) (cm : Bool) (xs : Option Nat) : Prop where
  nd : X.N.Nodup
  G : Glb X.prog X.w X.K X.mg g.T fnm hv
  GF : GlbF X.prog X.w X.K X.mg X.base g.T g.Gam g.fu g.k hv kk
  hu : X.A.units + 65 < cLine
  calm : cm = true → X.calm = true
  room : cm = true → Room (kk + 1) X.A
  tk : cm = true → Takes X g.W
  x0 : cm = true → g.ea.1 = none
  off : ∀ x, g.ea.1 = some x → xs = some x.slot
  isE : ∀ i c n p p1 p2 pos, (g.T.hc c = true ∨ c = .ValueError) → xs = some i → X.N[i]? = some n → Vis X.env.scope n → nameOk n = true → Gl X "isinstance" → Gl X (cname c) → PE X (.Call (.Name "isinstance" p) [.Name n p1, .Name (cname c) p2] [] pos) (rdE X.prog X.w X.K g (.isE i c))
  plc : ∀ i n p1 pos, xs = some i → X.N[i]? = some n → Vis X.env.scope n → nameOk n = true → PE X (.Attribute (.Name n p1) "place" pos) (rdE X.prog X.w X.K g (.place i))
/-- what is shown of an expression -/
structure Snd (X : Cx) (g : Gx) (e : E) (x : Expr) : Prop where
  pe : PE X x (rdE X.prog X.w X.K g e)
  pt : tstB e x = true → PT X x (rdT X.prog X.w X.K g e)
  pw : tstB e x = true → andOr e = true → PW X x (rdT X.prog X.w X.K g e)
  pf : freshB e = true → PE X x (rdF X.prog X.w X.K g e)
  ps : compB e = true → ∀ (j : Nat) (y : Str) (py sp : Pos), X.N[j]? = some y → X.env.scope.names.lookup y = some .local → swapsWith x (some (.Name y py)) sp.line X.env = pure true → PS X (.Assign [.Name y py] x sp) (tAsg (rdF X.prog X.w X.K g e) (gName j))
theorem Snd.plain {X : Cx} {g : Gx} {e : E} {x : Expr} (h : PE X x (rdE X.prog X.w X.K g e)) (h1 : tstB e x = plainT x) (h2 : andOr e = false) (h3 : freshB e = false) (h4 : compB e = false) : Snd X g e x :=
  ⟨h, fun z => snt_val h (by rw [← h1]; exact z), fun _ z => (by rw [h2] at z; cases z), fun z => (by rw [h3] at z; cases z), fun z => (by rw [h4] at z; cases z)⟩
theorem nameOk_ok {x : Str} (h : nameOk x = true) : (x == ("__debug__" : Str)) = false ∧ (x == ("__classdict__" : Str)) = false := by
  simpa [nameOk] using h
theorem gl_of {X : Cx} {x : Str} (h : gloB X.env.scope x = true) : Gl X x := gloB_ok h
theorem OkX.offs {X : Cx} {g : Gx} {fnm : F → Str} {hv : Hv} {kk : Nat} {cm : Bool} {xs : Option Nat} (O : OkX X g fnm hv kk cm xs) {i : Nat} (h : xs ≠ some i) : g.ea.off i := fun x hx e => h (by rw [O.off x hx, e])
/-- within a comprehension -/
theorem OkX.inn {X : Cx} {g : Gx} {fnm : F → Str} {hv : Hv} {kk : Nat} {cm : Bool} {xs : Option Nat} (O : OkX X g fnm hv kk cm xs) (hcm : cm = true) (s : Shared) (H : Hp) (scope : Scope) (C : Addr) (cl : List (Str × Addr)) (fp ξ : List Addr) :
    OkX (X.blk s H scope (compEnvC scope cl C X.env) fp) (g.inn ξ) fnm hv kk cm none :=
  ⟨O.nd, O.G, O.GF, O.hu, O.calm, O.room, fun _ => takes0, fun h => O.x0 h, fun x hx => (by rw [show (g.inn ξ).ea.1 = g.ea.1 from rfl, O.x0 hcm] at hx; cases hx), fun _ _ _ _ _ _ _ _ z => (nomatch z), fun _ _ _ _ z => (nomatch z)⟩
theorem blk_pg {X : Cx} (hN : X.N.Nodup) {i : Nat} {n : Str} {np : Pos} {scope : Scope} (hi : X.N[i]? = some n) (hl : (match scope.names.lookup n with | some .local => true | some .cell => true | _ => false) = true) (s : Shared) (H : Hp) (C : Addr) (cl : List (Str × Addr)) (fp : List Addr) :
    PG (X.blk s H scope (compEnvC scope cl C X.env) fp) (.Name n np) (gName i) := by
  have key : ∀ k, k ≠ NameKind.free → scope.names.lookup n = some k → (relS scope X.env.scope).names.lookup n = some k := fun k hk h => lookup_relS_keep hk h
  rcases loc_of hl with h | h
  · exact pg_name hN hi (.inl (key _ (by decide) h)) (.inr (key _ (by decide) h))
  · refine pg_name hN hi (.inr (key _ (by decide) h)) (.inl ?_)
    show (scope.names.lookup n == some .cell) = true
    rw [h]; rfl
section
variable {fnm : F → Str} {hv : Hv} {kk : Nat}
theorem bin_ok {X : Cx} {g : Gx} {a b : Expr} {ea eb : E} {pos : Pos} {op : Operator} (ho : okOp op = true) (ha : PE X a (rdE X.prog X.w X.K g ea)) (hb : PE X b (rdE X.prog X.w X.K g eb)) : PE X (.BinOp a op b pos) (rdE X.prog X.w X.K g (.bin op ea eb)) := by
  cases op with
  | Add => exact snd_bin op_addA ok_add ha hb
  | Sub => exact snd_bin op_sub ok_sub ha hb
  | Mult => exact snd_bin op_mulA ok_mul ha hb
  | FloorDiv => exact snd_bin op_fdiv ok_fdiv ha hb
  | Mod => exact snd_bin op_mod ok_mod ha hb
  | Pow => exact snd_bin op_pow ok_pow ha hb
  | _ => exact (Bool.false_ne_true ho).elim
theorem lst_lst {g : Gx} {es : Es} (σ : Env) (μ : Store) (d : FH.D) (μ' : Store) (h : ev g.cl g.cx (.lst es) σ μ = .ok d μ') : ∃ xs, d = .lst xs := by
  simp only [ev] at h
  revert h
  cases evs g.cl g.cx es σ μ with
  | ok ds μ1 => intro h; cases h; exact ⟨_, rfl⟩
  | exc c d μ1 => intro h; cases h
  | bad => intro h; cases h
theorem methName_ne {f : F} {m : Str} (h : methName f = some m) : ∀ f' : Fld, fname f' ≠ m := by
  intro f' e
  subst e
  revert h
  unfold methName
  split
  · intro h; cases f' <;> revert h <;> decide +kernel
  · intro h; cases f' <;> revert h <;> decide +kernel
  · intro h; cases h
theorem GlbF.of {P : Program} {w : World} {K : PySem.W.Frag} {mg : Str → Option Value} {base : Heap} {g : Gx} (G : GlbF P w K mg base g.T g.Gam g.fu g.k hv kk) {f : F} (hf : hv.fn f = true) : FnOk P w K mg base (L2.CX P w) kk (g.T.fa f) (g.T.fd f) (g.T.ps f) (spF P w K g f) := G.fn f hf
theorem wtail {op : BoolOp} {X : Cx} {g : Gx} {z : Expr} {rest : List Expr} {p : Pos} {b : E} (h : if rest.isEmpty = true then Snd X g b z else Snd X g b (.BoolOp op (z :: rest) p)) : PE X (.BoolOp op (z :: rest) p) (rdE X.prog X.w X.K g b) := by
  cases rest with
  | nil => exact snd_one (show Snd X g b z from h).pe
  | cons y r => exact (show Snd X g b (.BoolOp op (z :: y :: r) p) from h).pe
mutual
theorem sndE : ∀ (e : E) {X : Cx} {g : Gx} {cm : Bool} {xs : Option Nat} {x : Expr}, OkX X g fnm hv kk cm xs → chkE fnm hv X.N e X.env.scope cm xs x = true → Snd X g e x
  | .var i, X, g, cm, xs, x, O, h => by
    simp only [chkE] at h
    split at h
    · simp only [Bool.and_eq_true, decide_eq_true_eq] at h
      obtain ⟨d1, d2⟩ := nameOk_ok h.2
      exact .plain (snd_var h.1.1 (visB_ok h.1.2) d1 d2) rfl rfl rfl rfl
    · cases h
  | .con d, X, g, cm, xs, x, O, h => by
    simp only [chkE] at h
    split at h
    · exact .plain (snd_con h) rfl rfl rfl rfl
    · cases h
  | .glo G, X, g, cm, xs, x, O, h => by
    simp only [chkE] at h
    split at h
    · simp only [Bool.and_eq_true, decide_eq_true_eq] at h
      obtain ⟨⟨⟨h1, h2⟩, h3⟩, h4⟩ := h
      obtain ⟨u, v, g1, g2, g3⟩ := O.G.gl G h2
      exact .plain (snd_glo h1 (gl_of h3) g1 g2 g3 (nameOk_ok h4).1) rfl rfl rfl rfl
    · cases h
  | .tup es, X, g, cm, xs, x, O, h => by
    simp only [chkE] at h
    split at h
    · simp only [Bool.and_eq_true, decide_eq_true_eq] at h
      obtain ⟨h1, h2, h3⟩ := sndEs es O h.1
      exact .plain (snd_tup h1 h.2 fun σ μ ds μ' q => by rw [evs_len q, h3]) rfl rfl rfl rfl
    · cases h
  | .lst es, X, g, cm, xs, x, O, h => by
    simp only [chkE] at h
    split at h
    · rename_i elts lp
      simp only [Bool.and_eq_true, decide_eq_true_eq] at h
      obtain ⟨h1, h2, h3⟩ := sndEs es O h.1
      have pf : PE X (.List elts lp) (rdF X.prog X.w X.K g (.lst es)) := snd_lstF (g := g) h1 h.2 fun σ μ ds μ' q => by rw [evs_len q, h3]
      have pe := fresh_val lst_lst pf
      exact ⟨pe, fun z => snt_val pe z, fun _ z => (nomatch z), fun _ => pf, fun z => (nomatch z)⟩
    · cases h
  | .ref e, X, g, cm, xs, x, O, h => by
    simp only [chkE, Bool.and_eq_true] at h
    exact .plain (fresh_ref ((sndE e O h.2).pf h.1)) rfl rfl rfl rfl
  | .dnew, X, g, cm, xs, x, O, h => by
    simp only [chkE] at h
    split at h
    · exact .plain snd_dnew rfl rfl rfl rfl
    · cases h
  | .bin op a b, X, g, cm, xs, x, O, h => by
    simp only [chkE] at h
    split at h
    · simp only [Bool.and_eq_true, decide_eq_true_eq] at h
      obtain ⟨⟨⟨rfl, h2⟩, h3⟩, h4⟩ := h
      exact .plain (bin_ok h2 (sndE a O h3).pe (sndE b O h4).pe) rfl rfl rfl rfl
    · cases h
  | .neg a, X, g, cm, xs, x, O, h => by
    simp only [chkE] at h
    split at h
    · exact .plain (snd_neg (sndE a O h).pe) rfl rfl rfl rfl
    · cases h
  | .cmp op a b, X, g, cm, xs, x, O, h => by
    simp only [chkE] at h
    split at h
    · simp only [Bool.and_eq_true, decide_eq_true_eq] at h
      obtain ⟨⟨⟨rfl, h2⟩, h3⟩, h4⟩ := h
      have ha := (sndE a O h2).pe
      have hb := (sndE b O h3).pe
      exact ⟨snd_cmp _ O.hu ha hb h4, fun _ => snt_cmp _ O.hu ha hb h4, fun _ z => (nomatch z), fun z => (nomatch z), fun z => (nomatch z)⟩
    · cases h
  | .chain o1 o2 a b c, X, g, cm, xs, x, O, h => by
    simp only [chkE] at h
    split at h
    · simp only [Bool.and_eq_true, decide_eq_true_eq] at h
      obtain ⟨⟨⟨⟨⟨rfl, rfl⟩, h2⟩, h3⟩, h4⟩, h5⟩ := h
      have ha := (sndE a O h2).pe
      have hb := (sndE b O h3).pe
      have hc := (sndE c O h4).pe
      exact ⟨snd_chain _ _ O.hu ha hb hc h5, fun _ => snt_chain _ _ O.hu ha hb hc h5, fun _ z => (nomatch z), fun z => (nomatch z), fun z => (nomatch z)⟩
    · cases h
  | .inG ps a, X, g, cm, xs, x, O, h => by
    simp only [chkE] at h
    split at h
    · simp only [Bool.and_eq_true, decide_eq_true_eq] at h
      obtain ⟨⟨⟨⟨rfl, rfl⟩, h3⟩, h4⟩, h5⟩ := h
      have ha := (sndE a O h5).pe
      obtain ⟨L, es, n, l1, l2, l3⟩ := O.G.lt h3
      have T : LenTab X := ⟨L, es, n, l1, l2, l3⟩
      cases ps with
      | true => exact ⟨snd_inG T (gl_of h4) ha, fun _ => snt_inG T (gl_of h4) ha, fun _ z => (nomatch z), fun z => (nomatch z), fun z => (nomatch z)⟩
      | false => exact ⟨snd_notInG T (gl_of h4) ha, fun _ => snt_notInG T (gl_of h4) ha, fun _ z => (nomatch z), fun z => (nomatch z), fun z => (nomatch z)⟩
    · cases h
  | .getG a, X, g, cm, xs, x, O, h => by
    simp only [chkE] at h
    split at h
    · simp only [Bool.and_eq_true, decide_eq_true_eq] at h
      obtain ⟨⟨⟨⟨rfl, h3⟩, h4⟩, h5⟩, h6⟩ := h
      have ha := (sndE a O h5).pe
      obtain ⟨L, es, n, l1, l2, l3⟩ := O.G.lt h3
      have T : LenTab X := ⟨L, es, n, l1, l2, l3⟩
      exact .plain (snd_getG T (gl_of h4) ha h6) rfl rfl rfl rfl
    · cases h
  | .and a b, X, g, cm, xs, x, O, h => by
    simp only [chkE] at h
    split at h
    · rename_i y z rest p
      simp only [Bool.and_eq_true] at h
      obtain ⟨h1, h2⟩ := h
      have sa := sndE a O h1
      have sb : if rest.isEmpty = true then Snd X g b z else Snd X g b (.BoolOp .And (z :: rest) p) := by
        split
        · rename_i hr; rw [if_pos hr] at h2; exact sndE b O h2
        · rename_i hr; rw [if_neg hr] at h2; exact sndE b O h2
      have pw : tstB (.and a b) (.BoolOp .And (y :: z :: rest) p) = true → PW X (.BoolOp .And (y :: z :: rest) p) (rdT X.prog X.w X.K g (.and a b)) := fun ht => by
        simp only [tstB, Bool.and_eq_true] at ht
        refine snt_and (sa.pt ht.1) ?_
        have ht2 := ht.2
        cases rest with
        | nil => exact pw_and1 ((show Snd X g b z from sb).pt ht2)
        | cons u r =>
          simp only [List.isEmpty_cons, Bool.false_eq_true, if_false, Bool.and_eq_true] at ht2
          exact (show Snd X g b (.BoolOp .And (z :: u :: r) p) from sb).pw ht2.1 ht2.2
      exact ⟨snd_and sa.pe (wtail sb), fun ht => (pw ht).pt, fun ht _ => pw ht, fun z => (nomatch z), fun z => (nomatch z)⟩
    · cases h
  | .or a b, X, g, cm, xs, x, O, h => by
    simp only [chkE] at h
    split at h
    · rename_i y z rest p
      simp only [Bool.and_eq_true] at h
      obtain ⟨h1, h2⟩ := h
      have sa := sndE a O h1
      have sb : if rest.isEmpty = true then Snd X g b z else Snd X g b (.BoolOp .Or (z :: rest) p) := by
        split
        · rename_i hr; rw [if_pos hr] at h2; exact sndE b O h2
        · rename_i hr; rw [if_neg hr] at h2; exact sndE b O h2
      have pw : tstB (.or a b) (.BoolOp .Or (y :: z :: rest) p) = true → PW X (.BoolOp .Or (y :: z :: rest) p) (rdT X.prog X.w X.K g (.or a b)) := fun ht => by
        simp only [tstB, Bool.and_eq_true] at ht
        refine snt_or (sa.pt ht.1) ?_
        have ht2 := ht.2
        cases rest with
        | nil => exact pw_or1 ((show Snd X g b z from sb).pt ht2)
        | cons u r =>
          simp only [List.isEmpty_cons, Bool.false_eq_true, if_false, Bool.and_eq_true] at ht2
          exact (show Snd X g b (.BoolOp .Or (z :: u :: r) p) from sb).pw ht2.1 ht2.2
      exact ⟨snd_or sa.pe (wtail sb), fun ht => (pw ht).pt, fun ht _ => pw ht, fun z => (nomatch z), fun z => (nomatch z)⟩
    · cases h
  | .not a, X, g, cm, xs, x, O, h => by
    simp only [chkE] at h
    split at h
    · have sa := sndE a O h
      exact ⟨snd_not sa.pe, fun ht => snt_not (sa.pt (by simpa only [tstB] using ht)), fun _ z => (nomatch z), fun z => (nomatch z), fun z => (nomatch z)⟩
    · cases h
  | .ife c a b, X, g, cm, xs, x, O, h => by
    simp only [chkE] at h
    split at h
    · simp only [Bool.and_eq_true] at h
      obtain ⟨⟨⟨h1, h2⟩, h3⟩, h4⟩ := h
      exact .plain (snd_ife ((sndE c O h1).pt h2) (sndE a O h3).pe (sndE b O h4).pe) rfl rfl rfl rfl
    · cases h
  | .idx a i, X, g, cm, xs, x, O, h => by
    simp only [chkE] at h
    split at h
    · simp only [Bool.and_eq_true] at h
      obtain ⟨⟨h1, h2⟩, h3⟩ := h
      exact .plain (snd_idx (Nat.lt_of_succ_lt O.hu) (sndE a O h1).pe (sndE i O h2).pe h3) rfl rfl rfl rfl
    · cases h
  | .slc a lo hi, X, g, cm, xs, x, O, h => by
    simp only [chkE] at h
    split at h
    · rename_i y l u ps pp
      simp only [Bool.and_eq_true] at h
      obtain ⟨⟨h1, h2⟩, h3⟩ := h
      have p1 : PPart X g l lo := by
        cases l with
        | none => exact .inl ⟨rfl, h2⟩
        | some z =>
          simp only [Bool.and_eq_true, Bool.not_eq_true'] at h2
          exact .inr ⟨z, rfl, h2.1, (sndE lo O h2.2).pe⟩
      have p2 : PPart X g u hi := by
        cases u with
        | none => exact .inl ⟨rfl, h3⟩
        | some z =>
          simp only [Bool.and_eq_true, Bool.not_eq_true'] at h3
          exact .inr ⟨z, rfl, h3.1, (sndE hi O h3.2).pe⟩
      exact .plain (snd_slc (sndE a O h1).pe p1 p2) rfl rfl rfl rfl
    · cases h
  | .fld a f, X, g, cm, xs, x, O, h => by
    simp only [chkE] at h
    split at h
    · simp only [Bool.and_eq_true, decide_eq_true_eq] at h
      obtain ⟨⟨⟨rfl, h2⟩, h3⟩, h4⟩ := h
      exact .plain (snd_fld (sndE a O h4).pe h3 (O.G.cls h2).1 (O.G.noat h2 f)) rfl rfl rfl rfl
    · cases h
  | .place i, X, g, cm, xs, x, O, h => by
    simp only [chkE] at h
    split at h
    · simp only [Bool.and_eq_true, decide_eq_true_eq] at h
      obtain ⟨⟨⟨⟨rfl, h2⟩, h3⟩, h4⟩, h5⟩ := h
      exact .plain (O.plc i _ _ _ h2 h3 (visB_ok h4) h5) rfl rfl rfl rfl
    · cases h
  | .comp0 i it e, X, g, cm, xs, x, O, h => by
    simp only [chkE] at h
    split at h
    · rename_i elt n np iter scope pp
      simp only [Bool.and_eq_true, decide_eq_true_eq] at h
      obtain ⟨⟨⟨⟨⟨⟨⟨h1, h2⟩, h3⟩, h4⟩, h5⟩, h6⟩, h7⟩, h8⟩ := h
      have hoff := O.offs h2
      have hi := sndI it O h7 (.Name n np)
      have he : ∀ (s : Shared) (H : Hp) (C : Addr) (cl : List (Str × Addr)) (fp : List Addr), PE (X.blk s H scope (compEnvC scope cl C X.env) fp) elt (teC X.prog X.w X.K g e) := fun s H C cl fp =>
        PE.ex fun ξ => (sndE e (O.inn h1 s H scope C cl fp ξ) h8).pe
      have pf : PE X (.ListComp elt [⟨.Name n np, iter, [], 0⟩] scope pp) (rdF X.prog X.w X.K g (.comp0 i it e)) :=
        PE.imp (pe_lc (own := [(n, i)]) (O.calm h1) O.nd hi (blkOk_by h4) (blk_pg O.nd h3 h5) (fun _ _ _ _ _ => pts_nil) he (plain_set h6 _)) fun τ H Q h => comp0_read hoff h
      have pe := fresh_val comp0_lst pf
      exact ⟨pe, fun z => snt_val pe z, fun _ z => (nomatch z), fun _ => pf, fun _ j y py sp hy hl hs =>
        PS.imp (ps_setLc (own := [(n, i)]) (O.calm h1) O.nd hy hl hs hi (blkOk_by h4) (blk_pg O.nd h3 h5) (fun _ _ _ _ _ => pts_nil) he (plain_set h6 _)) fun D τ H h => comp0_read hoff h⟩
    · cases h
  | .comp1 i it c e, X, g, cm, xs, x, O, h => by
    simp only [chkE] at h
    split at h
    · rename_i elt n np iter t scope pp
      simp only [Bool.and_eq_true, decide_eq_true_eq] at h
      obtain ⟨⟨⟨⟨⟨⟨⟨⟨⟨h1, h2⟩, h3⟩, h4⟩, h5⟩, h6⟩, h7⟩, h8⟩, h9⟩, h10⟩ := h
      have hoff := O.offs h2
      have hi := sndI it O h7 (.Name n np)
      have he : ∀ (s : Shared) (H : Hp) (C : Addr) (cl : List (Str × Addr)) (fp : List Addr), PE (X.blk s H scope (compEnvC scope cl C X.env) fp) elt (teC X.prog X.w X.K g e) := fun s H C cl fp =>
        PE.ex fun ξ => (sndE e (O.inn h1 s H scope C cl fp ξ) h10).pe
      have ht : ∀ (s : Shared) (H : Hp) (C : Addr) (cl : List (Str × Addr)) (fp : List Addr), PTs (X.blk s H scope (compEnvC scope cl C X.env) fp) [t] (ttC X.prog X.w X.K g c) := fun s H C cl fp =>
        pts_one (PT.ex fun ξ => (sndE c (O.inn h1 s H scope C cl fp ξ) h8).pt h9)
      have pf : PE X (.ListComp elt [⟨.Name n np, iter, [t], 0⟩] scope pp) (rdF X.prog X.w X.K g (.comp1 i it c e)) :=
        PE.imp (pe_lc (own := [(n, i)]) (O.calm h1) O.nd hi (blkOk_by h4) (blk_pg O.nd h3 h5) ht he (plain_set h6 _)) fun τ H Q h => comp1_read hoff h
      have pe := fresh_val comp1_lst pf
      exact ⟨pe, fun z => snt_val pe z, fun _ z => (nomatch z), fun _ => pf, fun _ j y py sp hy hl hs =>
        PS.imp (ps_setLc (own := [(n, i)]) (O.calm h1) O.nd hy hl hs hi (blkOk_by h4) (blk_pg O.nd h3 h5) ht he (plain_set h6 _)) fun D τ H h => comp1_read hoff h⟩
    · cases h
  | .isE i c, X, g, cm, xs, x, O, h => by
    simp only [chkE] at h
    split at h
    · simp only [Bool.and_eq_true, decide_eq_true_eq] at h
      obtain ⟨⟨⟨⟨⟨⟨⟨⟨rfl, rfl⟩, h9⟩, h3⟩, h4⟩, h5⟩, h6⟩, h7⟩, h8⟩ := h
      have h9 : g.T.hc c = true ∨ c = .ValueError := by
        rw [Bool.or_eq_true, decide_eq_true_eq] at h9
        exact h9.imp_left (O.G.hcl c)
      exact .plain (O.isE i c _ _ _ _ _ h9 h3 h4 (visB_ok h5) h6 (gl_of h7) (gl_of h8)) rfl rfl rfl rfl
    · cases h
  | .isi a ts, X, g, cm, xs, x, O, h => by
    simp only [chkE] at h
    split at h
    · split at h
      · simp only [Bool.and_eq_true, decide_eq_true_eq] at h
        obtain ⟨⟨⟨⟨⟨rfl, rfl⟩, h3⟩, h4⟩, h5⟩, h6⟩ := h
        rename_i t
        exact .plain (snd_isi1 (sndE a O h6).pe h5 (gl_of h3) (O.G.free _ (by decide +kernel)) (gl_of h4) (O.G.free _ (by cases t <;> decide +kernel))) rfl rfl rfl rfl
      · cases h
    · split at h
      · simp only [Bool.and_eq_true, decide_eq_true_eq] at h
        obtain ⟨⟨⟨⟨⟨⟨⟨rfl, rfl⟩, rfl⟩, h3⟩, h4⟩, h5⟩, h6⟩, h7⟩ := h
        rename_i t t2
        exact .plain (snd_isi2 (sndE a O h7).pe h6 (gl_of h3) (O.G.free _ (by decide +kernel)) (gl_of h4) (O.G.free _ (by cases t <;> decide +kernel)) (gl_of h5) (O.G.free _ (by cases t2 <;> decide +kernel))) rfl rfl rfl rfl
      · cases h
    · cases h
  | .blt b es, X, g, cm, xs, x, O, h => by
    simp only [chkE] at h
    split at h
    · simp only [Bool.and_eq_true, decide_eq_true_eq] at h
      obtain ⟨⟨⟨⟨h1, h2⟩, rfl⟩, h4⟩, h5⟩ := h
      obtain ⟨p1, p2, p3⟩ := sndEs es O h5
      rw [List.all_cons, Bool.and_eq_true] at p2
      exact .plain (snd_blt (O.calm h1) h2 (gl_of h4) (O.G.free _ (by cases b <;> first | exact absurd rfl h2 | decide +kernel)) p1 p2.1 p2.2) rfl rfl rfl rfl
    · cases h
  | .mth m a es, X, g, cm, xs, x, O, h => by
    simp only [chkE] at h
    split at h
    · rename_i o n ap args p
      simp only [Bool.and_eq_true, decide_eq_true_eq] at h
      obtain ⟨⟨⟨⟨⟨⟨h1, rfl⟩, h3⟩, h4⟩, h5⟩, h6⟩, h7⟩ := h
      obtain ⟨p1, p2, p3⟩ := sndEs es O h6
      have so := (sndE a O h5).pe
      cases args with
      | nil =>
        cases es with
        | nil => exact .plain (snd_mth0 h1 so h3 h4) rfl rfl rfl rfl
        | cons e es => simp [Es.len] at p3
      | cons y rest =>
        rw [List.all_cons, Bool.and_eq_true] at p2
        exact .plain (snd_mth h1 so h3 p1 p2.1 p2.2 (by simp at h7; omega) h4) rfl rfl rfl rfl
    · cases h
  | .sortK a f, X, g, cm, xs, x, O, h => by simp [chkE] at h
  | .call f es, X, g, cm, xs, x, O, h => by
    simp only [chkE] at h
    split at h
    · simp only [Bool.and_eq_true, decide_eq_true_eq, Bool.not_eq_true'] at h
      obtain ⟨⟨⟨⟨⟨⟨h1, rfl⟩, h3⟩, h4⟩, h5⟩, h6⟩, h7⟩ := h
      obtain ⟨p1, p2, p3⟩ := sndEs es O h7
      rw [List.all_cons, Bool.and_eq_true] at p2
      obtain ⟨t1, t2⟩ := O.G.top f h3 h4
      exact .plain (snd_call (O.GF.of h3) (O.GF.np f h3) ((O.room h1).mono (Nat.le_succ _)) (gl_of h5) t1 t2 (O.G.bd f h3) (O.tk h1) p1 p2.1 p2.2 (nameOk_ok h6).1) rfl rfl rfl rfl
    · simp only [Bool.and_eq_true, decide_eq_true_eq, Bool.not_eq_true'] at h
      obtain ⟨⟨⟨⟨⟨⟨h1, rfl⟩, h3⟩, h4⟩, h5⟩, h6⟩, h7⟩ := h
      obtain ⟨p1, p2, p3⟩ := sndEs es O h7
      obtain ⟨t1, t2⟩ := O.G.top f h3 h4
      cases es with
      | cons e es => simp [Es.len] at p3
      | nil => exact .plain (snd_call0 (O.GF.of h3) (O.GF.np f h3) ((O.room h1).mono (Nat.le_succ _)) (gl_of h5) t1 t2 (O.G.bd f h3) (O.tk h1) (nameOk_ok h6).1) rfl rfl rfl rfl
    · cases h
  | .meth f a, X, g, cm, xs, x, O, h => by
    simp only [chkE] at h
    split at h
    · simp only [Bool.and_eq_true, decide_eq_true_eq] at h
      obtain ⟨⟨⟨⟨⟨h1, h2⟩, h3⟩, h4⟩, h5⟩, h6⟩ := h
      exact .plain (snd_meth (sndE a O h6).pe (O.G.cls h2).1 (O.G.mt h2 f _ h4 h3) (O.GF.of h3) (O.GF.np f h3) ((O.room h1).mono (Nat.le_succ _)) (O.G.bd f h3) (methName_ne h4) h5) rfl rfl rfl rfl
    · cases h
  | .make f es, X, g, cm, xs, x, O, h => by
    simp only [chkE] at h
    split at h
    · simp only [Bool.and_eq_true, decide_eq_true_eq] at h
      obtain ⟨⟨⟨⟨⟨⟨h1, h2⟩, h3⟩, rfl⟩, rfl⟩, h6⟩, h7⟩ := h
      obtain ⟨p1, p2, p3⟩ := sndEs es O h7
      rw [List.all_cons, Bool.and_eq_true] at p2
      exact .plain (snd_make (O.G.mkr h2) (O.GF.of h3) (O.GF.np _ h3) (O.room h1) (gl_of h6) (O.G.cls h2).2 (O.G.bd _ h3) p1 p2.1 p2.2 (by decide +kernel)) rfl rfl rfl rfl
    · cases h
  | .callC i, X, g, cm, xs, x, O, h => by simp [chkE] at h
theorem sndEs : ∀ (es : Es) {X : Cx} {g : Gx} {cm : Bool} {xs : Option Nat} {l : List Expr}, OkX X g fnm hv kk cm xs → chkEs fnm hv X.N es X.env.scope cm xs l = true → PA X l (rdA X.prog X.w X.K g es) ∧ l.all plainE = true ∧ es.len = l.length
  | .nil, X, g, cm, xs, l, O, h => by
    simp only [chkEs] at h
    split at h
    · exact ⟨snd_nil, rfl, rfl⟩
    · cases h
  | .cons e es, X, g, cm, xs, l, O, h => by
    simp only [chkEs] at h
    split at h
    · simp only [Bool.and_eq_true] at h
      obtain ⟨⟨h1, h2⟩, h3⟩ := h
      obtain ⟨p1, p2, p3⟩ := sndEs es O h3
      refine ⟨snd_cons (sndE e O h1).pe p1 h2, ?_, ?_⟩
      · rw [List.all_cons, h2, p2]; rfl
      · show es.len + 1 = _ + 1
        rw [p3]
    · cases h
theorem sndI : ∀ (it : I) {X : Cx} {g : Gx} {cm : Bool} {xs : Option Nat} {x : Expr}, OkX X g fnm hv kk cm xs → chkI fnm hv X.N it X.env.scope cm xs x = true → ∀ tg, PI X tg x (rdI X.prog X.w X.K g it)
  | .seq e, X, g, cm, xs, x, O, h, tg => by
    simp only [chkI] at h
    exact snd_seq (sndE e O h).pe
  | .rng es, X, g, cm, xs, x, O, h, tg => by
    simp only [chkI] at h
    split at h
    · simp only [Bool.and_eq_true, decide_eq_true_eq] at h
      obtain ⟨⟨⟨rfl, h2⟩, h3⟩, h4⟩ := h
      obtain ⟨p1, p2, p3⟩ := sndEs es O h3
      have hm := O.G.free "range" (by decide +kernel)
      rename_i args _
      match args, h4, p1, p2, p3 with
      | [a], _, p1, p2, p3 => exact snd_rng1 p1 p3 (by simpa using p2) (gl_of h2) hm
      | [a, b], _, p1, p2, p3 =>
        simp only [List.all_cons, List.all_nil, Bool.and_true, Bool.and_eq_true] at p2
        exact snd_rng2 p1 p3 p2.1 p2.2 (gl_of h2) hm
      | [a, b, c], _, p1, p2, p3 =>
        simp only [List.all_cons, List.all_nil, Bool.and_true, Bool.and_eq_true] at p2
        exact snd_rng3 p1 p3 p2.1 p2.2.1 p2.2.2 (gl_of h2) hm
      | [], h4, _, _, _ => simp at h4
      | _ :: _ :: _ :: _ :: _, h4, _, _, _ => simp at h4
    · cases h
  | .rev e, X, g, cm, xs, x, O, h, tg => by
    simp only [chkI] at h
    split at h
    · simp only [Bool.and_eq_true, decide_eq_true_eq] at h
      obtain ⟨⟨⟨rfl, h2⟩, h3⟩, h4⟩ := h
      exact snd_rev (sndE e O h4).pe h3 (gl_of h2) (O.G.free _ (by decide +kernel))
    · cases h
end
end
end FH

set_option maxHeartbeats 1000000
/-! The look at statements; defs. -/
namespace FH
open PySem PySem.Spec PyProof.Rows L2
/-- the form a = [..] whose store comes within the comprehension -/
def swB (sc : Scope) (n : Str) (p : Pos) : Expr → Bool
  | .ListComp _ _ s q => decide (sc.names.lookup n = some .local) && (p.line == q.line) && !(s.names.any fun (m, k) => m == n && (k == .local || k == .cell))
  | _ => false
theorem sw_is {sc : Scope} {n : Str} {p : Pos} {elt : Expr} {gs : List Comprehension} {s : Scope} {q : Pos} {l : Nat} {env : PySem.Env} (hk : env.scope.kind = .function) (hs : env.scope = sc) : swapsWith (.ListComp elt gs s q) (some (.Name n p)) l env = pure (swB sc n p (.ListComp elt gs s q)) := by
  subst hs
  have hb : env.blockKind = .function := by unfold Env.blockKind; rw [hk]; rfl
  unfold swapsWith
  simp only [hb, Expr.pos]
  unfold swB
  have e : (env.kindOf n == some NameKind.local) = decide (env.scope.names.lookup n = some .local) := by
    unfold Env.kindOf
    by_cases h : env.scope.names.lookup n = some .local <;> simp [h]
  rw [e]
  simp
def swOf : E → Bool
  | .ref e => compB e
  | e => compB e
def isLC : Expr → Bool
  | .ListComp _ _ _ _ => true
  | _ => false
def locB (sc : Scope) (n : Str) : Bool := match sc.names.lookup n with | some .local => true | some .cell => true | _ => false
def conB : E → Bool
  | .con _ => true
  | _ => false
section
variable (fnm : F → Str) (hv : Hv) (N : List Str) (sc : Scope)
mutual
def chkS : S → Bool → Option Nat → Bool → Stmt → Bool
  | .pass, _, _, _, x => (match x with
    | .Pass _ => true
    | _ => false)
  | .ex e, cm, xs, _, x => (match x with
    | .Expr y _ => noComp y && chkE fnm hv N e sc cm xs y
    | _ => false)
  | .ret e, cm, xs, _, x => (match x with
    | .Return (some y) _ => chkE fnm hv N e sc cm xs y
    | _ => false)
  | .asg i e, cm, xs, _, x => (match x with
    | .Assign [.Name n p] y _ => decide (N[i]? = some n) && locB sc n && decide (xs ≠ some i) && chkE fnm hv N e sc cm xs y && (noComp y || (isLC y && (!swB sc n p y || swOf e)))
    | _ => false)
  | .unp is e, cm, xs, _, x => (match x with
    | .Assign [.Tuple ts _ _] y _ => cm && is.all (fun i => decide (xs ≠ some i)) && chkNs N sc is ts && chkE fnm hv N e sc cm xs y && (inOrder y || cellT sc ts) && noComp y
    | _ => false)
  | .unpL is e, cm, xs, _, x => (match x with
    | .Assign [.Tuple ts _ _] y _ => cm && is.all (fun i => decide (xs ≠ some i)) && chkNs N sc is ts && chkE fnm hv N e sc cm xs y && inOrder y && noComp y
    | _ => false)
  | .par i j a b, cm, xs, _, x => (match a with
    | .callC _ => true
    | _ => false)
  | .setI a i e, cm, xs, _, x => (match x with
    | .Assign [.Subscript o k _] y _ => chkE fnm hv N a sc cm xs o && chkE fnm hv N i sc cm xs k && plainE k && chkE fnm hv N e sc cm xs y
    | _ => false)
  | .setF a f e, cm, xs, _, x => (match x with
    | .Assign [.Attribute o n _] y _ => decide (n = fname f) && hv.run && chkE fnm hv N a sc cm xs o && chkE fnm hv N e sc cm xs y
    | _ => false)
  | .ifs c a b, cm, xs, lp, x => (match x with
    | .If t xa xb _ => chkE fnm hv N c sc cm xs t && tstB c t && chkSs a cm xs lp xa && chkSs b cm xs lp xb
    | _ => false)
  | .whl c b, cm, xs, lp, x => (match x with
    | .While t xb [] _ => lp && chkE fnm hv N c sc cm xs t && tstB c t && chkSs b cm xs lp xb
    | _ => false)
  | .for_ i it b, cm, xs, lp, x => (match x with
    | .For (.Name n _) y xb [] _ => lp && cm && decide (N[i]? = some n) && locB sc n && decide (xs ≠ some i) && chkI fnm hv N it sc cm xs y && plainE y && chkSs b cm xs lp xb
    | _ => false)
  | .forT is it b, cm, xs, lp, x => (match x with
    | .For (.Tuple ts _ _) y xb [] _ => lp && cm && is.all (fun i => decide (xs ≠ some i)) && chkNs N sc is ts && chkI fnm hv N it sc cm xs y && plainE y && chkSs b cm xs lp xb
    | _ => false)
  | .raise c e, cm, _, _, x => (match x with
    | .Raise (some (.Call (.Name n _) [.Constant (.str _) _ _] [] _)) none _ => cm && hv.cl c && decide (c ≠ .BadText) && decide (n = cname c) && gloB sc n && conB e
    | _ => false)
  | .try_ c i b s, cm, xs, _, x => (match x with
    | .Try body [.ExceptHandler (some (.Name n _)) m (b0 :: suite) _] [] [] _ => cm && hv.cl c && decide (n = cname c) && gloB sc n && decide (xs = none)
        && (match i, m with | some i, some m => decide (N[i]? = some m) && decide (sc.names.lookup m = some .local) | none, none => true | _, _ => false) && chkSs b cm none false body && chkSs s false i false (b0 :: suite)
    | _ => false)
def chkSs : Ss → Bool → Option Nat → Bool → List Stmt → Bool
  | .nil, _, _, _, l => (match l with | [] => true | _ => false)
  | .cons s ss, cm, xs, lp, l => (match l with | x :: r => chkS s cm xs lp x && chkSs ss cm xs lp r | _ => false)
end
end
/-- where a statement stands -/
structure OkS (X : Cx) (g : Gx) (fnm : F → Str) (hv : Hv) (kk : Nat) (cm : Bool) (xs : Option Nat) (lp : Bool) : Prop extends OkX X g fnm hv kk cm xs where
  kd : X.env.scope.kind = .function
  fnT : ∀ x, X.fn x = true
  stk : X.stack = X.env :: X.outer
  fr : X.env.frame = some X.env.locals
  pso : lp = true → PassesOwn (model X.prog X.w) X.A X.env X.xe
section
variable {fnm : F → Str} {hv : Hv} {kk : Nat}
theorem asg_ok {X : Cx} {g : Gx} {cm : Bool} {xs : Option Nat} {lp : Bool} {i : Nat} {n : Str} {p pos : Pos} {y : Expr} {e : E} (O : OkS X g fnm hv kk cm xs lp) (h1 : X.N[i]? = some n) (h2 : locB X.env.scope n = true) (h3 : xs ≠ some i)
    (h4 : chkE fnm hv X.N e X.env.scope cm xs y = true) (h5 : (noComp y || (isLC y && (!swB X.env.scope n p y || swOf e))) = true) : PS X (.Assign [.Name n p] y pos) (rdS X.prog X.w X.K g (.asg i e)) := by
  have hoff := O.toOkX.offs h3
  have se := sndE e O.toOkX h4
  cases hn : noComp y with
  | true => exact snd_asg hoff O.nd h1 (loc_of h2) (O.fnT n) se.pe (swaps_not hn _ _ _)
  | false =>
    rw [hn, Bool.false_or, Bool.and_eq_true] at h5
    obtain ⟨h6, h7⟩ := h5
    cases y with
    | ListComp elt gs s q =>
      cases hs : swB X.env.scope n p (.ListComp elt gs s q) with
      | false => exact snd_asg hoff O.nd h1 (loc_of h2) (O.fnT n) se.pe (by rw [sw_is O.kd rfl, hs])
      | true =>
        rw [hs] at h7
        have h7 : swOf e = true := h7
        have hl : X.env.scope.names.lookup n = some .local := by
          simp only [swB, Bool.and_eq_true, decide_eq_true_eq] at hs
          exact hs.1.1
        have hsw : swapsWith (.ListComp elt gs s q) (some (.Name n p)) pos.line X.env = pure true := by rw [sw_is O.kd rfl, hs]
        have fin : ∀ e', (compB e' = true) → Snd X g e' (.ListComp elt gs s q) → (∀ τ H Q, rdE X.prog X.w X.K g e τ H Q → rdF X.prog X.w X.K g e' τ H Q) → PS X (.Assign [.Name n p] (.ListComp elt gs s q) pos) (rdS X.prog X.w X.K g (.asg i e)) := fun e' hc sn hr =>
          PS.imp (sn.ps hc i n p pos h1 hl hsw) fun D τ H h => hr _ _ _ (asg_read hoff h)
        cases e with
        | ref e' =>
          simp only [chkE, Bool.and_eq_true] at h4
          exact fin e' h7 (sndE e' O.toOkX h4.2) fun τ H Q h => ref_read h
        | comp0 j it e' => exact fin _ rfl se fun τ H Q h => val_read comp0_lst h
        | comp1 j it c e' => exact fin _ rfl se fun τ H Q h => val_read comp1_lst h
        | _ => cases h7
    | _ => cases h6
theorem all_off {X : Cx} {g : Gx} {cm : Bool} {xs : Option Nat} (O : OkX X g fnm hv kk cm xs) {is : List Nat} (h : is.all (fun i => decide (xs ≠ some i)) = true) : ∀ i ∈ is, g.ea.off i := fun i hi => O.offs (by
  have := List.all_eq_true.mp h i hi
  exact of_decide_eq_true this)
theorem OkS.tr {X : Cx} {g : Gx} {cm : Bool} {xs : Option Nat} {lp : Bool} (O : OkS X g fnm hv kk cm xs lp) (hcm : cm = true) (W : WX) (pn : List (Addr × Obj)) (xe : Value → Shared → Prop) (tk : Takes (X.tr pn xe) W) : OkS (X.tr pn xe) { g with W := W } fnm hv kk cm none false :=
  { nd := O.nd, G := O.G, GF := O.GF, hu := O.hu, calm := O.calm, room := O.room, tk := fun _ => tk, x0 := O.x0, off := fun x hx => (by rw [show ({ g with W := W } : Gx).ea.1 = g.ea.1 from rfl, O.x0 hcm] at hx; cases hx)
    isE := fun _ _ _ _ _ _ _ _ z => (nomatch z), plc := fun _ _ _ _ z => (nomatch z), kd := O.kd, fnT := O.fnT, stk := O.stk, fr := O.fr, pso := fun z => (nomatch z) }
theorem OkS.sui {X : Cx} {g : Gx} {cm : Bool} {xs : Option Nat} {lp : Bool} (O : OkS X g fnm hv kk cm xs lp) (i : Option Nat) (a : Addr) (oe : Obj) (dd : Option Addr) (pn : List (Addr × Obj)) (k : Cl) (d : FH.D) (hk : g.T.hc k = true) (h1 : k ≠ .BadText → dd = none) (h2 : k = .BadText → ∃ b, dd = some b)
    (hz : Zc (.ref (g.T.ca k)) dd oe) (hf : ∃ vs, oe.data = .fields vs) :
    OkS (X.suite a ((a, oe) :: pn)) (g.sui (i.map fun i => xcOf i a dd d) k d) fnm hv kk false i false :=
  { nd := O.nd, G := O.G, GF := O.GF, hu := O.hu, calm := fun z => (nomatch z), room := fun z => (nomatch z), tk := fun z => (nomatch z), x0 := fun z => (nomatch z)
    off := fun x hx => (by
      cases i with
      | none => cases hx
      | some i => cases hx; rfl)
    isE := fun j c n p p1 p2 pos hcc hj hN hvis hno hg hgc => (by
      subst hj
      exact sui_isE (X := X) O.G hk hcc h1 hz hf hN hvis (nameOk_ok hno).1 (nameOk_ok hno).2 hg hgc)
    plc := fun j n p1 pos hj hN hvis hno => (by
      subst hj
      exact sui_place (X := X) (fun e => O.G.xf (e ▸ hk)) hz hf h2 hN hvis (nameOk_ok hno).1 (nameOk_ok hno).2)
    kd := O.kd, fnT := O.fnT, stk := O.stk, fr := O.fr, pso := fun z => (nomatch z) }
mutual
theorem sndS : ∀ (s : S) {X : Cx} {g : Gx} {cm : Bool} {xs : Option Nat} {lp : Bool} {x : Stmt}, OkS X g fnm hv kk cm xs lp → chkS fnm hv X.N X.env.scope s cm xs lp x = true → PS X x (rdS X.prog X.w X.K g s)
  | .pass, X, g, cm, xs, lp, x, O, h => by
    simp only [chkS] at h
    split at h
    · exact snd_pass
    · cases h
  | .ex e, X, g, cm, xs, lp, x, O, h => by
    simp only [chkS] at h
    split at h
    · rw [Bool.and_eq_true] at h
      exact snd_ex (sndE e O.toOkX h.2).pe h.1
    · cases h
  | .ret e, X, g, cm, xs, lp, x, O, h => by
    simp only [chkS] at h
    split at h
    · exact snd_ret (sndE e O.toOkX h).pe
    · cases h
  | .asg i e, X, g, cm, xs, lp, x, O, h => by
    simp only [chkS] at h
    split at h
    · simp only [Bool.and_eq_true, decide_eq_true_eq] at h
      obtain ⟨⟨⟨⟨h1, h2⟩, h3⟩, h4⟩, h5⟩ := h
      exact asg_ok O h1 h2 h3 h4 h5
    · cases h
  | .unp is e, X, g, cm, xs, lp, x, O, h => by
    simp only [chkS] at h
    split at h
    · simp only [Bool.and_eq_true] at h
      obtain ⟨⟨⟨⟨⟨h1, h2⟩, h3⟩, h4⟩, h5⟩, h6⟩ := h
      exact snd_unp (all_off O.toOkX h2) (O.calm h1) O.nd O.fnT h3 (sndE e O.toOkX h4).pe h5 h6
    · cases h
  | .unpL is e, X, g, cm, xs, lp, x, O, h => by
    simp only [chkS] at h
    split at h
    · simp only [Bool.and_eq_true] at h
      obtain ⟨⟨⟨⟨⟨h1, h2⟩, h3⟩, h4⟩, h5⟩, h6⟩ := h
      exact snd_unpL (all_off O.toOkX h2) (O.calm h1) O.nd O.fnT h3 (sndE e O.toOkX h4).pe h5 h6
    · cases h
  | .par i j a b, X, g, cm, xs, lp, x, O, h => by
    cases a with
    | callC n =>
      refine ⟨fun pins s τ H D I hr => ?_⟩
      obtain ⟨α, μ, σ, _, _, hp⟩ := hr
      exact hp.elim
    | _ => simp [chkS] at h
  | .setI a i e, X, g, cm, xs, lp, x, O, h => by
    simp only [chkS] at h
    split at h
    · simp only [Bool.and_eq_true] at h
      obtain ⟨⟨⟨h1, h2⟩, h3⟩, h4⟩ := h
      exact snd_setI (Nat.lt_of_succ_lt O.hu) (sndE a O.toOkX h1).pe (sndE i O.toOkX h2).pe h3 (sndE e O.toOkX h4).pe
    · cases h
  | .setF a f e, X, g, cm, xs, lp, x, O, h => by
    simp only [chkS] at h
    split at h
    · simp only [Bool.and_eq_true, decide_eq_true_eq] at h
      obtain ⟨⟨⟨rfl, h2⟩, h3⟩, h4⟩ := h
      exact snd_setF (sndE a O.toOkX h3).pe (sndE e O.toOkX h4).pe (O.G.cls h2).1 (O.G.noat h2 f)
    · cases h
  | .ifs c a b, X, g, cm, xs, lp, x, O, h => by
    simp only [chkS] at h
    split at h
    · simp only [Bool.and_eq_true] at h
      obtain ⟨⟨⟨h1, h2⟩, h3⟩, h4⟩ := h
      exact snd_ifs ((sndE c O.toOkX h1).pt h2) (sndSs a O h3) (sndSs b O h4)
    · cases h
  | .whl c b, X, g, cm, xs, lp, x, O, h => by
    simp only [chkS] at h
    split at h
    · simp only [Bool.and_eq_true] at h
      obtain ⟨⟨⟨h1, h2⟩, h3⟩, h4⟩ := h
      exact snd_whl (O.pso h1) ((sndE c O.toOkX h2).pt h3) (sndSs b O h4)
    · cases h
  | .for_ i it b, X, g, cm, xs, lp, x, O, h => by
    simp only [chkS] at h
    split at h
    · simp only [Bool.and_eq_true, decide_eq_true_eq] at h
      obtain ⟨⟨⟨⟨⟨⟨⟨h1, h2⟩, h3⟩, h4⟩, h5⟩, h6⟩, h7⟩, h8⟩ := h
      exact snd_for (O.toOkX.offs h5) (O.pso h1) (O.calm h2) O.nd h3 (loc_of h4) (O.fnT _) (sndI it O.toOkX h6 _) h7 (sndSs b O h8)
    · cases h
  | .forT is it b, X, g, cm, xs, lp, x, O, h => by
    simp only [chkS] at h
    split at h
    · simp only [Bool.and_eq_true] at h
      obtain ⟨⟨⟨⟨⟨⟨h1, h2⟩, h3⟩, h4⟩, h5⟩, h6⟩, h7⟩ := h
      exact snd_forT (all_off O.toOkX h3) (O.pso h1) (O.calm h2) O.nd O.fnT h4 (sndI it O.toOkX h5 _) h6 (sndSs b O h7)
    · cases h
  | .raise c e, X, g, cm, xs, lp, x, O, h => by
    simp only [chkS] at h
    split at h
    · simp only [Bool.and_eq_true, decide_eq_true_eq] at h
      obtain ⟨⟨⟨⟨⟨h1, h2⟩, h3⟩, rfl⟩, h5⟩, h6⟩ := h
      cases e with
      | con d => exact snd_raise O.G (O.calm h1) (O.tk h1) (O.G.hcl _ h2) h3 (gl_of h5)
      | _ => cases h6
    · cases h
  | .try_ c i b s, X, g, cm, xs, lp, x, O, h => by
    simp only [chkS] at h
    split at h
    · rename_i body n np m b0 suite hp pp
      simp only [Bool.and_eq_true, decide_eq_true_eq] at h
      obtain ⟨⟨⟨⟨⟨⟨⟨h1, h2⟩, rfl⟩, h4⟩, h5⟩, h6⟩, h7⟩, h8⟩ := h
      have h2 := O.G.hcl c h2
      have hnm : Names X (cname c) (.ref (g.T.ca c)) := ⟨gl_of h4, (cname_ok c).1, .inl (O.G.ex c h2)⟩
      have hb : ∀ (W : WX) (pn : List (Addr × Obj)) (xe : Value → Shared → Prop), Takes (X.tr pn xe) W → PassesOwn (model X.prog X.w) X.A X.env xe → PSs (X.tr pn xe) body (rdSs X.prog X.w X.K { g with W := W } b) := fun W pn xe tk _ =>
        sndSs b (O.tr h1 W pn xe tk) h7
      have hsu : ∀ (a : Addr) (oe : Obj) (cls : Value) (d : Option Addr) (pn : List (Addr × Obj)), Zc cls d oe → (∃ vs, oe.data = .fields vs) → PSs (X.suite a ((a, oe) :: pn)) (b0 :: suite) (tSui X.prog X.w X.K g i s a cls d) := fun a oe cls d pn hz hf =>
        PSs.ex fun q => PSs.pre fun ⟨q1, q2, q3, q4⟩ => by
          subst q2
          exact sndSs s (O.sui i a oe d pn q.1 q.2 q1 q3 q4 hz hf) h8
      cases i with
      | some i =>
        cases m with
        | some m =>
          simp only [Bool.and_eq_true, decide_eq_true_eq] at h6
          obtain ⟨h9, h10⟩ := h6
          have hi : i < X.N.length := (List.getElem?_eq_some_iff.mp h9).1
          exact PS.impL (ps_try_as (tb := fun W => rdSs X.prog X.w X.K { g with W := W } b) (ts := tSui X.prog X.w X.K g (some i) s) (Wout := g.W) O.stk O.fr O.nd h9 h10 hnm (O.tk h1) hb hsu) fun D τ H hl h => try_as_read O.G h2 (O.x0 h1) hi hl h
        | none => cases h6
      | none =>
        cases m with
        | some m => cases h6
        | none => exact PS.imp (ps_try_only (tb := fun W => rdSs X.prog X.w X.K { g with W := W } b) (ts := tSui X.prog X.w X.K g none s) (Wout := g.W) O.stk O.fr hnm (O.tk h1) hb hsu) fun D τ H h => try_only_read O.G h2 (O.x0 h1) h
    · cases h
theorem sndSs : ∀ (ss : Ss) {X : Cx} {g : Gx} {cm : Bool} {xs : Option Nat} {lp : Bool} {l : List Stmt}, OkS X g fnm hv kk cm xs lp → chkSs fnm hv X.N X.env.scope ss cm xs lp l = true → PSs X l (rdSs X.prog X.w X.K g ss)
  | .nil, X, g, cm, xs, lp, l, O, h => by
    simp only [chkSs] at h
    split at h
    · exact snd_snil
    · cases h
  | .cons s ss, X, g, cm, xs, lp, l, O, h => by
    simp only [chkSs] at h
    split at h
    · rw [Bool.and_eq_true] at h
      exact snd_scons (sndS s O h.1) (sndSs ss O h.2)
    · cases h
end
/-! ### defs -/
theorem start_rep {K : PySem.W.Frag} {ξ : List Addr} {α : List Addr} {H : Hp} {N : List Str} {ds : List FH.D} {vs : List V} {ns : Nat} (r : RepVs K (none, ξ) α H ds vs) (hn : N.length = ns) (hl : ds.length ≤ ns) : RepE K (none, ξ) α H (ds.map some ++ List.replicate (ns - ds.length) none) (L2.start N vs) := by
  have hv := r.len
  refine ⟨?_, fun i d q => ?_, True.intro⟩
  · unfold L2.start
    simp only [List.length_append, List.length_map, List.length_replicate]
    omega
  · by_cases hi : i < ds.length
    · rw [List.getElem?_append_left (by simpa using hi), List.getElem?_map] at q
      cases hd : ds[i]? with
      | none => rw [hd] at q; cases q
      | some d' =>
        rw [hd] at q
        cases q
        obtain ⟨v, h1, h2⟩ := r.get hd
        refine ⟨v, ?_, h2⟩
        unfold L2.start
        rw [List.getElem?_append_left (by rw [List.length_map, hv]; exact hi), List.getElem?_map, h1]
        rfl
    · rw [List.getElem?_append_right (by simpa using hi), List.getElem?_replicate] at q
      split at q <;> cases q
/-- a def of the row, and that its text is its body in the interpreter -/
structure DefOk (fnm : F → Str) (hv : Hv) (K : PySem.W.Frag) (T : Tb) (Gam : F → Fn) (f : F) (N : List Str) (body : List Stmt) (scope : Scope) : Prop where
  fd : ∃ name qual params, FunD K name qual params body scope [] [] (T.fa f) (T.fd f)
  sc : FnScope N (T.ps f) scope
  chk : chkSs fnm hv N scope (Gam f).body true none true body = true
  np : (T.ps f).length = (Gam f).np
  ns : N.length = (Gam f).ns
  le : (Gam f).np ≤ (Gam f).ns
theorem fnOk_all {P : Program} {w : World} {K : PySem.W.Frag} {mg : Str → Option Value} {base : Heap} {T : Tb} {Gam : F → Fn} {fu : Nat} (G : Glb P w K mg T fnm hv) (hd : ∀ f, hv.fn f = true → ∃ N body scope, DefOk fnm hv K T Gam f N body scope) : ∀ k, GlbF P w K mg base T Gam fu k hv (2 * k)
  | 0 => by
    refine ⟨fun f hf => ⟨fun vs H Q E h => ?_, fun A outer s H args us vs Q E _ _ _ _ h => ?_⟩, fun f hf => ?_⟩
    · obtain ⟨ea, α, μ, ds, h1, h2, h3, h4⟩ := h
      rw [h2.len, h3]
    · obtain ⟨ea, α, μ, ds, h1, h2, h3, h4⟩ := h
      exact h4.elim
    · obtain ⟨N, body, scope, h⟩ := hd f hf
      exact h.np
  | k + 1 => by
    have ih := fnOk_all (base := base) (fu := fu) G hd k
    refine ⟨fun f hf => ?_, fun f hf => ?_⟩
    · obtain ⟨N, body, scope, h⟩ := hd f hf
      obtain ⟨name, qual, params, F⟩ := h.fd
      refine F.ok (k := 2 * k + 1) h.sc (fun vs H Q E h => ?_) fun cdv A outer s H vs Q E hr hsp => ?_
      · obtain ⟨ea, α, μ, ds, h1, h2, h3, h4⟩ := h
        rw [h2.len, h3]
      · obtain ⟨ea, α, μ, ds, h1, h2, h3, h4⟩ := hsp
        obtain ⟨ex, ξ⟩ := ea
        have hnp : ds.length = (Gam f).np := by rw [h3, ← h.np]
        refine ⟨rdSs P w K ⟨T, Gam, fu, k, none, (none, ξ), fun cls d _ H => E cls d H⟩ (Gam f).body, ?_, ?_⟩
        · refine sndSs (kk := 2 * k) (Gam f).body (X := cxOf (L2.CX P w) P w K mg base N qual scope (T.fa f) cdv A outer s H E) (cm := true) (xs := none) (lp := true) ?_ h.chk
          exact { nd := h.sc.nd, G := G, GF := ih, hu := (by have := hr.un; show (A.deeper (envOfC qual scope s.heap.objs.size (T.fa f) cdv)).units + 65 < cLine; omega), calm := fun _ => rfl, room := fun _ => hr, tk := fun _ => takes_of rfl rfl rfl rfl, x0 := fun _ => rfl, off := fun x hx => (nomatch hx)
                  isE := fun _ _ _ _ _ _ _ _ z => (nomatch z), plc := fun _ _ _ _ z => (nomatch z), kd := h.sc.kind, fnT := fun _ => rfl, stk := rfl, fr := rfl, pso := fun _ => passes_of rfl }
        · refine ⟨α, μ, ds.map some ++ List.replicate ((Gam f).ns - (Gam f).np) none, RepS.re1 h1, ?_, ?_⟩
          · rw [← hnp]
            exact start_rep (RepVs.re1 _ _ h2) h.ns (by rw [hnp]; exact h.le)
          · have h4' : Pst P w K ⟨T, Gam, fu, k + 1, none, (ex, ξ), fun cv dd _ H' => E cv dd H'⟩ (fun α H d v => RepV K (ex, ξ) α H d v) [] α H (runFn (callK Gam fu k) fu (Gam f) ds μ) Q := h4
            unfold runFn at h4'
            rw [if_pos hnp] at h4'
            revert h4'
            show _ → PstS P w K _ α H (exs (callK Gam fu k) fu (Gam f).body none (ds.map some ++ List.replicate ((Gam f).ns - (Gam f).np) none) μ) _
            cases exs (callK Gam fu k) fu (Gam f).body none (ds.map some ++ List.replicate ((Gam f).ns - (Gam f).np) none) μ with
            | nx σ' μ' => exact fun h α' H' τ' e s' r => h α' H' .non e (RepS.re1 s') (by simp only [RepV])
            | rt d μ' => exact fun h α' H' v e s' r => h α' H' v e (RepS.re1 s') (RepV.re1 _ _ r)
            | xc c d σ' μ' =>
              intro h α' H' τ' cv dd e s' r x
              refine h α' H' cv dd e (RepS.re1 s') ?_
              obtain ⟨x1, x2, x3⟩ := x
              refine ⟨x1, x2, ?_⟩
              revert x3
              cases c with
              | BadText => rintro ⟨b, v, y1, y2, y3, y4⟩; exact ⟨b, v, y1, y2, y3, RepV.re1 _ _ y4⟩
              | _ => exact fun z => z
            | bad => exact fun h => h
    · obtain ⟨N, body, scope, h⟩ := hd f hf
      exact h.np
end
end FH

set_option maxHeartbeats 1000000
/-! From the facts of a law's top to what the interpreter asks. -/
namespace FH
open PySem PySem.Spec PyProof.Rows L2
/-! ### a def's parameters -/
theorem look_zip {A : Type} : ∀ {ps : List Str} {us : List A} {n : Str}, us.length = ps.length → n ∈ ps → ((ps.zip us).lookup n).isSome = true
  | [], us, n, hl, hn => by simp at hn
  | p :: ps, [], n, hl, hn => by simp at hl
  | p :: ps, u :: us, n, hl, hn => by
    simp only [List.zip_cons_cons, List.lookup_cons]
    by_cases e : n = p
    · subst e; simp
    · have : (n == p) = false := by simpa using e
      rw [this]
      exact look_zip (by simpa using hl) (by simpa [e] using hn)
theorem fm_zip {A : Type} : ∀ {ps : List Str} {us : List A}, ps.Nodup → us.length = ps.length → ps.filterMap (fun n => ((ps.zip us).lookup n).map fun x => (n, x)) = ps.zip us
  | [], us, hn, hl => by simp
  | p :: ps, [], hn, hl => by simp at hl
  | p :: ps, u :: us, hn, hl => by
    obtain ⟨h1, h2⟩ := List.nodup_cons.mp hn
    have ih := fm_zip (us := us) h2 (by simpa using hl)
    have hc : ps.filterMap (fun n => (((p :: ps).zip (u :: us)).lookup n).map fun x => (n, x)) = ps.filterMap (fun n => ((ps.zip us).lookup n).map fun x => (n, x)) := by
      have gen : ∀ l : List Str, (∀ n ∈ l, n ≠ p) → l.filterMap (fun n => (((p :: ps).zip (u :: us)).lookup n).map fun x => (n, x)) = l.filterMap (fun n => ((ps.zip us).lookup n).map fun x => (n, x)) := by
        intro l
        induction l with
        | nil => intro _; rfl
        | cons a l ihl =>
          intro ha
          have e : (a == p) = false := by simpa using ha a List.mem_cons_self
          rw [List.filterMap_cons, List.filterMap_cons, ihl fun n hn => ha n (List.mem_cons_of_mem _ hn)]
          simp only [List.zip_cons_cons, List.lookup_cons, e]
      exact gen ps fun n hn e => h1 (e ▸ hn)
    rw [List.filterMap_cons, hc, ih]
    simp
theorem binds_pos {x q : Str} {b : List Stmt} {sc : Scope} {kV doc pm : Value} {an : Option Addr} {cdv ct : Value} {as : List Arg} {us : List Value} (hn : (as.map (·.arg)).Nodup) (hl : us.length = (as.map (·.arg)).length) : bindArgs (PySem.W.fnOf x q ⟨[], as, none, [], [], none, []⟩ b sc .none kV doc pm an cdv ct) ⟨us, []⟩ = pure ((as.map (·.arg)).zip us) := by
  have h1 : (as.map (·.arg)).filter (fun n => (((as.map (·.arg)).zip us).lookup n).isNone) = [] := by
    rw [List.filter_eq_nil_iff]
    intro n hn
    have := look_zip hl hn
    simp [Option.isSome_iff_ne_none] at this
    simp [this]
  have h3 := fm_zip hn hl
  unfold bindArgs
  have h2 : (List.map (fun x => x.arg) as).length = us.length := hl.symm
  simp [seqItems?, h1, h2]
  have h4 : notAStandIn Value.none = pure () := rfl
  simp only [List.drop_nil, List.length_nil, Nat.sub_zero, List.take_length, h1, h4]
  rw [List.filterMap_map] at h3
  rw [h3]
  have h5 : (!(List.filter (fun n => (List.lookup n ((List.map (fun x => x.arg) as).zip us)).isNone) (List.map (fun x => x.arg) ([] : List Arg) ++ List.map (fun x => x.arg) as)).isEmpty) = false := by
    rw [List.map_nil, List.nil_append, h1]; rfl
  rw [h5]
  rfl
def argsB (ps : List Str) (a : Arguments) : Bool := a.posonlyargs.isEmpty && a.vararg.isNone && a.kwonlyargs.isEmpty && a.kw_defaults.isEmpty && a.kwarg.isNone && a.defaults.isEmpty && decide (a.args.map (·.arg) = ps) && decide ps.Nodup
theorem args_bind {ps : List Str} {a : Arguments} (h : argsB ps a = true) {x q : Str} {b : List Stmt} {sc : Scope} {kV doc pm : Value} {an : Option Addr} {cdv ct : Value} {us : List Value} (hl : us.length = ps.length) : bindArgs (PySem.W.fnOf x q a b sc .none kV doc pm an cdv ct) ⟨us, []⟩ = pure (ps.zip us) := by
  obtain ⟨po, as, va, ko, kd, kw, df⟩ := a
  simp only [argsB, Bool.and_eq_true, decide_eq_true_eq, List.isEmpty_iff, Option.isNone_iff_eq_none] at h
  obtain ⟨⟨⟨⟨⟨⟨⟨rfl, rfl⟩, rfl⟩, rfl⟩, rfl⟩, rfl⟩, rfl⟩, hn⟩ := h
  exact binds_pos hn hl
def scB (N P : List Str) (sc : Scope) : Bool := decide (sc.kind = .function) && !sc.isCoroutine && !sc.isGenerator && decide N.Nodup && decide (N.take P.length = P)
  && P.all (fun x => match sc.names.lookup x with | some .local => true | some .cell => true | _ => false) && sc.names.all fun y => decide (y.2 ≠ .free)
theorem sc_ok {N P : List Str} {sc : Scope} (h : scB N P sc = true) : FnScope N P sc := by
  simp only [scB, Bool.and_eq_true, decide_eq_true_eq, Bool.not_eq_true', List.all_eq_true] at h
  obtain ⟨⟨⟨⟨⟨⟨h1, h2⟩, h3⟩, h4⟩, h5⟩, h6⟩, h7⟩ := h
  exact ⟨h1, h2, h3, h4, h5, fun x hx => loc_of (h6 x hx), fun y hy => h7 y hy⟩
/-! ### values of the top -/
mutual
def repB (K : PySem.W.Frag) : FH.D → Value → Bool
  | .int i, u => (match u with | .int j _ => decide (i = j) | _ => false)
  | .str s, u => (match u with | .str x _ => decide ((⟨s.toArray⟩ : Str) = x) | _ => false)
  | .tup xs, u => (match u with
    | .ref a => (match K.lookup a with
      | some ⟨c, _, .seq its _, _⟩ => decide (c = .type "tuple") && Nat.ble its.size sizeLine && repBs K xs its.toList
      | _ => false)
    | _ => false)
  | _, _ => false
def repBs (K : PySem.W.Frag) : List FH.D → List Value → Bool
  | [], l => l.isEmpty
  | d :: ds, l => (match l with | u :: us => repB K d u && repBs K ds us | [] => false)
end
mutual
theorem repB_ok {K : PySem.W.Frag} : ∀ (d : FH.D) (u : Value), repB K d u = true → ∃ v, RelV v u ∧ ∀ ea α H, RepV K ea α H d v
  | .int i, u, h => by
    simp only [repB] at h
    split at h
    · rename_i j t
      cases of_decide_eq_true h
      exact ⟨.int i, ⟨t, rfl⟩, fun _ _ _ => by simp only [RepV]⟩
    · cases h
  | .str s, u, h => by
    simp only [repB] at h
    split at h
    · rename_i x t
      cases of_decide_eq_true h
      exact ⟨.str _, ⟨t, rfl⟩, fun _ _ _ => by simp only [RepV]⟩
    · cases h
  | .tup xs, u, h => by
    simp only [repB] at h
    split at h
    · rename_i a
      split at h
      · rename_i c od its n sl hk
        simp only [Bool.and_eq_true, decide_eq_true_eq] at h
        obtain ⟨⟨h1, h2⟩, h3⟩ := h
        obtain ⟨vs, r1, r2⟩ := repBs_ok xs _ h3
        refine ⟨.ref a, rfl, fun ea α H => ?_⟩
        simp only [RepV]
        exact ⟨a, vs, rfl, .inr ⟨_, its, n, hk, h1, rfl, Nat.le_of_ble_eq_true h2, r1⟩, r2 ea α H⟩
      · cases h
    · cases h
  | .non, u, h => by simp [repB] at h
  | .bl _, u, h => by simp [repB] at h
  | .lst _, u, h => by simp [repB] at h
  | .ptr _, u, h => by simp [repB] at h
  | .rl _, u, h => by simp [repB] at h
  | .exn, u, h => by simp [repB] at h
  | .clo _ _, u, h => by simp [repB] at h
theorem repBs_ok {K : PySem.W.Frag} : ∀ (ds : List FH.D) (us : List Value), repBs K ds us = true → ∃ vs, Vals vs us ∧ ∀ ea α H, RepVs K ea α H ds vs
  | [], us, h => by
    simp only [repBs, List.isEmpty_iff] at h
    subst h
    exact ⟨[], .nil, fun _ _ _ => by simp only [RepVs]⟩
  | d :: ds, us, h => by
    simp only [repBs] at h
    split at h
    · rename_i u us
      rw [Bool.and_eq_true] at h
      obtain ⟨v, h1, h2⟩ := repB_ok d u h.1
      obtain ⟨vs, h3, h4⟩ := repBs_ok ds us h.2
      refine ⟨v :: vs, .cons h1 h3, fun ea α H => ?_⟩
      simp only [RepVs]
      exact ⟨v, vs, rfl, h2 ea α H, h4 ea α H⟩
    · cases h
end
def glB (K : PySem.W.Frag) (G : Gc) : Bool := match PySem.W.nsIn K mainGlobals (gname G) with | some (some u) => repB K (gval G) u | _ => false
def entOf (e : DictEntry) : Option (Str × Int) := match e.key with
  | .str x _ => (match e.val with | .int i _ => some (x, i) | _ => none)
  | _ => none
def tabB (K : PySem.W.Frag) (a : Addr) : Bool := match K.lookup a with
  | some ⟨_, _, .dict es _, _⟩ => decide (es.toList.map entOf = lengths.map fun q => some ((⟨q.1.toArray⟩ : Str), q.2))
  | _ => false
theorem ent_find : ∀ {l : List DictEntry} {q : List (List Nat × Int)}, l.map entOf = q.map (fun q => some ((⟨q.1.toArray⟩ : Str), q.2)) → (∀ s : List Nat, match q.lookup s with | some i => ∃ e t, l.find? (·.key.isStr ⟨s.toArray⟩) = some e ∧ e.val = .int i t | none => l.find? (·.key.isStr ⟨s.toArray⟩) = none) ∧ l.any (·.refKey) = false
  | [], [], h => ⟨fun s => rfl, rfl⟩
  | [], _ :: _, h => by cases h
  | _ :: _, [], h => by cases h
  | e :: l, (k, i) :: q, h => by
    simp only [List.map_cons, List.cons.injEq] at h
    obtain ⟨h1, h2⟩ := h
    obtain ⟨ih1, ih2⟩ := ent_find h2
    unfold entOf at h1
    split at h1
    · rename_i x t hk
      split at h1
      · rename_i j u hv
        cases h1
        refine ⟨fun s => ?_, ?_⟩
        · rw [List.lookup_cons, List.find?_cons]
          have hs : e.key.isStr ⟨s.toArray⟩ = (s == k) := by
            rw [hk]
            show ((⟨k.toArray⟩ : Str) == ⟨s.toArray⟩) = (s == k)
            rw [arr_beq]
            by_cases hh : s = k
            · subst hh; simp
            · have h1 : (s == k) = false := by simpa using hh
              have h2 : (k == s) = false := by simpa using fun z : k = s => hh z.symm
              rw [h1, h2]
          rw [hs]
          cases hsk : s == k with
          | true => exact ⟨e, u, rfl, hv⟩
          | false => exact ih1 s
        · rw [List.any_cons, ih2, Bool.or_false]
          unfold DictEntry.refKey
          rw [hk]
      · cases h1
    · cases h1
theorem tabB_ok {K : PySem.W.Frag} {a : Addr} (h : tabB K a = true) (s : List Nat) : match lengths.lookup s with | some i => ∃ t, PySem.W.nsIn K a ⟨s.toArray⟩ = some (some (.int i t)) | none => PySem.W.nsIn K a ⟨s.toArray⟩ = some none := by
  unfold tabB at h
  split at h
  · rename_i c od es n sl hk
    obtain ⟨h1, h2⟩ := ent_find (of_decide_eq_true h)
    have h1 := h1 s
    unfold PySem.W.nsIn
    rw [hk]
    cases hl : lengths.lookup s with
    | none =>
      rw [hl] at h1
      simp only [h1, h2]
      rfl
    | some i =>
      rw [hl] at h1
      obtain ⟨e, t, h3, h4⟩ := h1
      exact ⟨t, by simp only [h3, h4]⟩
  · cases h
end FH

set_option maxHeartbeats 1000000
/-! A law's tables; its end. -/
namespace FH
open PySem PySem.Spec PyProof.Rows L2
def flist : List Fld := [.lines, .at_, .scene, .doings, .met, .outcome, .around]
theorem mem_flist (f : Fld) : f ∈ flist := by cases f <;> decide
structure Lw where
  fnm : F → Str
  ps : F → List Str
  N : F → List Str
  Gam : F → Fn
  defs : List (F × Stmt)
  gl : List Gc
  cl : List Cl
  len : Bool
  run : Bool
def Lw.hv (L : Lw) : Hv := ⟨fun f => (L.defs.map (·.1)).contains f, fun c => L.cl.contains c, fun G => L.gl.contains G, L.len, L.run⟩
def pathOf (fnm : F → Str) : F → Str × Option Str
  | .Run_init => ("Run", some "__init__")
  | .Run_go_on => ("Run", some "go_on")
  | .Run_step => ("Run", some "step")
  | .BadText_init => ("BadText", some "__init__")
  | f => (fnm f, none)
def qualOf (fnm : F → Str) : F → Str
  | .Run_init => "Run.__init__"
  | .Run_go_on => "Run.go_on"
  | .Run_step => "Run.step"
  | .BadText_init => "BadText.__init__"
  | f => fnm f
def bareOf (fnm : F → Str) : F → Str
  | .Run_init => "__init__"
  | .Run_go_on => "go_on"
  | .Run_step => "step"
  | .BadText_init => "__init__"
  | f => fnm f
def fdAt (K : PySem.W.Frag) (a : Addr) : FuncData := match K.lookup a with
  | some ⟨_, _, .func fd, _⟩ => fd
  | _ => default
def Lw.tb (L : Lw) (K : PySem.W.Frag) : Tb := ⟨fun c => L.cl.contains c, fun f => He.fAd K (pathOf L.fnm f), fun f => fdAt K (He.fAd K (pathOf L.fnm f)), L.ps, fun c => He.ga K (cname c), He.ga K "Run"⟩
def Lw.dd (L : Lw) (p : F × Stmt) : He.DefD := ⟨pathOf L.fnm p.1, bareOf L.fnm p.1, qualOf L.fnm p.1, defArgs p.2, defBody p.2, defScope p.2, [], []⟩
def Lw.okD (L : Lw) (p : F × Stmt) : Bool := argsB (L.ps p.1) (defArgs p.2) && scB (L.N p.1) (L.ps p.1) (defScope p.2) && chkSs L.fnm L.hv (L.N p.1) (defScope p.2) (L.Gam p.1).body true none true (defBody p.2)
  && decide ((L.ps p.1).length = (L.Gam p.1).np) && decide ((L.N p.1).length = (L.Gam p.1).ns) && decide ((L.Gam p.1).np ≤ (L.Gam p.1).ns)
def excB (K : PySem.W.Frag) (c : Cl) : Bool := (He.Fa.glo (cname c)).ok K && (decide (c = .BadText) || (He.Fa.exc (cname c)).ok K)
  && decide (PySem.W.findIn K (.ref (He.ga K (cname c))) "__getattribute__" = some (some (.builtin "BaseException.__getattribute__")))
  && decide (PySem.W.findIn K (.ref (He.ga K (cname c))) "__getattr__" = some none)
  && decide (PySem.W.subIn K (.ref (He.ga K (cname c))) (.type "BaseException") = some true)
  && PySem.W.hasDictIn K (He.ga K (cname c))
  && decide (PySem.W.findIn K (.ref (He.ga K (cname c))) "__class__" = some (some (.builtin "object.__class__")))
  && decide (PySem.W.specialIn K (.builtin "object.__class__") "__get__" = some (some (.builtin "getset_descriptor.__get__")))
  && decide (PySem.W.takesIn K (.builtin "object.__class__") = some true)
  && decide (PySem.W.mroIn K (He.ga K (cname c)) (.type "object") = some true)
def clsK (K : PySem.W.Frag) (c : Cl) : Value := match c with | .ValueError => .type "ValueError" | c => .ref (He.ga K (cname c))
def relB2 (K : PySem.W.Frag) (k c : Cl) : Bool := decide (PySem.W.exmOne K (.ref (He.ga K (cname k))) (clsK K c) = some (k.sub c)) && decide (PySem.W.kitOne K (.ref (He.ga K (cname k))) (clsK K c) = some (k.sub c))
def runB (K : PySem.W.Frag) : Bool := (He.Fa.glo "Run").ok K && (He.Fa.cls "Run").ok K && flist.all (fun f => (He.Fa.noat "Run" (fname f)).ok K) && (He.Fa.meth "Run" "go_on").ok K && (He.Fa.meth "Run" "step").ok K && (He.Fa.mkr "Run").ok K
def Lw.ex (L : Lw) (K : PySem.W.Frag) : Bool := freeNames.all (fun x => (He.Fa.free x).ok K) && L.defs.all (fun p => isMeth p.1 || ((He.Fa.glo (L.fnm p.1)).ok K && (He.Fa.keep (L.fnm p.1)).ok K)) && (!L.run || runB K)
  && L.gl.all (glB K) && (!L.len || ((He.Fa.glo "LENGTHS").ok K && tabB K (He.ga K "LENGTHS"))) && L.cl.all (excB K) && L.cl.all (fun k => (.ValueError :: L.cl).all (relB2 K k)) && (!L.cl.contains .BadText || decide (PySem.W.findIn K (.ref (He.ga K (cname .BadText))) "place" = some none)) && !L.cl.contains .ValueError
def Lw.ts (L : Lw) : List He.Tab := if L.len then [(fun K => He.ga K "LENGTHS", lengths.map fun q => ⟨q.1.toArray⟩)] else []
theorem path_top {fnm : F → Str} {f : F} (h : isMeth f = false) : pathOf fnm f = (fnm f, none) := by cases f <;> first | rfl | cases h
theorem Lw.mem (L : Lw) {f : F} (h : L.hv.fn f = true) : ∃ st, (f, st) ∈ L.defs := by
  have h : (L.defs.map (·.1)).contains f = true := h
  rw [List.contains_iff_mem] at h
  obtain ⟨p, hp, rfl⟩ := List.mem_map.mp h
  exact ⟨p.2, hp⟩
theorem Lw.glb (L : Lw) {P : Program} {w : World} {K : PySem.W.Frag} {mg : Str → Option Value} {h : Heap} (X : K.In h) (G : h.Ns mainGlobals mg) (c : He.SaysX [] (L.defs.map L.dd) L.ts [] L.ex w h K) (hok : L.defs.all L.okD = true) :
    Glb P w K mg (L.tb K) L.fnm L.hv ∧ ∀ f, L.hv.fn f = true → ∃ N body scope, DefOk L.fnm L.hv K (L.tb K) L.Gam f N body scope := by
  have hm := c.more
  unfold Lw.ex at hm
  simp only [Bool.and_eq_true, List.all_eq_true, decide_eq_true_eq] at hm
  obtain ⟨⟨⟨⟨⟨⟨⟨⟨e1, e2⟩, e3⟩, e4⟩, e5⟩, e6⟩, e7⟩, e8⟩, e9⟩ := hm
  have hdef : ∀ f st, (f, st) ∈ L.defs → ∃ fd, FunD K (bareOf L.fnm f) (qualOf L.fnm f) (defArgs st) (defBody st) (defScope st) [] [] (He.fAd K (pathOf L.fnm f)) fd := fun f st hm => He.SaysD.defs c.t.d (d := L.dd (f, st)) (List.mem_map_of_mem hm)
  have hfd : ∀ f st, (f, st) ∈ L.defs → FunD K (bareOf L.fnm f) (qualOf L.fnm f) (defArgs st) (defBody st) (defScope st) [] [] (He.fAd K (pathOf L.fnm f)) (fdAt K (He.fAd K (pathOf L.fnm f))) := fun f st hm => by
    obtain ⟨fd, F⟩ := hdef f st hm
    have : fdAt K (He.fAd K (pathOf L.fnm f)) = fd := by
      obtain ⟨oc, od, dV, kV, doc, pm, an, cdv, ct, osl, _, lk, _⟩ := F.ex
      unfold fdAt
      rw [lk]
    rw [this]; exact F
  have hoks : ∀ f st, (f, st) ∈ L.defs → L.okD (f, st) = true := fun f st hm => List.all_eq_true.mp hok _ hm
  have hrun : L.run = true → runB K = true := fun h => by
    rw [h] at e3
    exact e3
  have hmem : ∀ c, (L.tb K).hc c = true → c ∈ L.cl := fun c hc => by
    have hc : L.cl.contains c = true := hc
    rwa [List.contains_iff_mem] at hc
  have hnv : ∀ c, (L.tb K).hc c = true → c ≠ .ValueError := fun c hc e => by
    subst e
    have hc : L.cl.contains .ValueError = true := hc
    rw [hc] at e9; cases e9
  have hexc : ∀ c, (L.tb K).hc c = true → excB K c = true := fun c hc => e6 c (hmem c hc)
  refine ⟨⟨fun f hf => ?_, fun f hf hmt => ?_, fun hr => ?_, fun hr f => ?_, fun hr f m hm hf => ?_, fun hr => ?_, fun Gc hG => ?_, fun hl => ?_, fun c hc => hc, fun c hc => ?_, fun k c hk hc => ?_, fun k c hk hc => ?_, fun c hc hb => ?_, fun c hc => ?_, fun hbt => ?_, fun x hx => ?_⟩, fun f hf => ?_⟩
  · obtain ⟨st, hm⟩ := L.mem hf
    have ho := hoks f st hm
    simp only [Lw.okD, Bool.and_eq_true] at ho
    exact (hfd f st hm).bindsN fun kV doc pm an cdv ct us hl => args_bind ho.1.1.1.1.1 hl
  · obtain ⟨st, hm⟩ := L.mem hf
    have h2 := e2 _ hm
    rw [hmt, Bool.false_or, Bool.and_eq_true] at h2
    have hp : (L.tb K).fa f = He.ga K (L.fnm f) := by
      show He.fAd K (pathOf L.fnm f) = _
      rw [path_top hmt]; rfl
    rw [hp]
    exact ⟨He.glo_ok X G h2.1, He.keep_ok h2.2⟩
  · have h3 := hrun hr
    simp only [runB, Bool.and_eq_true] at h3
    exact ⟨He.cls_ok h3.1.1.1.1.2, He.glo_ok X G h3.1.1.1.1.1⟩
  · have h3 := hrun hr
    simp only [runB, Bool.and_eq_true, List.all_eq_true] at h3
    exact He.noat_ok (h3.1.1.1.2 f (mem_flist f))
  · have h3 := hrun hr
    simp only [runB, Bool.and_eq_true] at h3
    unfold methName at hm
    split at hm
    · cases hm; exact He.meth_ok h3.1.1.2
    · cases hm; exact He.meth_ok h3.1.2
    · cases hm
  · have h3 := hrun hr
    simp only [runB, Bool.and_eq_true] at h3
    exact He.mkr_ok h3.2
  · have hG : L.gl.contains Gc = true := hG
    rw [List.contains_iff_mem] at hG
    have h4 := e4 _ hG
    unfold glB at h4
    split at h4
    · rename_i u hn
      obtain ⟨v, r1, r2⟩ := repB_ok _ _ h4
      exact ⟨u, v, PySem.W.mg_of X G hn, r1, r2⟩
    · cases h4
  · have hl : L.len = true := hl
    rw [hl, Bool.not_true, Bool.false_or, Bool.and_eq_true] at e5
    have htab := c.t.tab 0 (t := (fun K => He.ga K "LENGTHS", lengths.map fun q => ⟨q.1.toArray⟩)) (by unfold Lw.ts; rw [hl]; rfl)
    obtain ⟨es, n, kd⟩ := htab
    exact ⟨He.ga K "LENGTHS", es, n, He.glo_ok X G e5.1, kd, tabB_ok e5.2⟩
  · have h6 := hexc c hc
    simp only [excB, Bool.and_eq_true] at h6
    exact He.glo_ok X G h6.1.1.1.1.1.1.1.1.1
  · have h7 := e7 k (hmem k hk) c (List.mem_cons_of_mem _ (hmem c hc))
    simp only [relB2, Bool.and_eq_true, decide_eq_true_eq] at h7
    have hcl : clsK K c = .ref (He.ga K (cname c)) := by have := hnv c hc; cases c <;> first | rfl | exact absurd rfl this
    rw [hcl] at h7
    exact h7.1
  · have h7 := e7 k (hmem k hk) c (hc.elim (fun z => List.mem_cons_of_mem _ (hmem c z)) fun z => z ▸ List.mem_cons_self)
    simp only [relB2, Bool.and_eq_true, decide_eq_true_eq] at h7
    have hcl : clsK K c = clsV (L.tb K) c := by cases c <;> rfl
    rw [hcl] at h7
    exact h7.2
  · have h6 := hexc c hc
    simp only [excB, Bool.and_eq_true] at h6
    have h8 := h6.1.1.1.1.1.1.1.1.2
    rw [decide_eq_false hb, Bool.false_or] at h8
    exact He.exc_ok h8
  · have h6 := hexc c hc
    simp only [excB, Bool.and_eq_true, decide_eq_true_eq] at h6
    obtain ⟨⟨⟨⟨⟨⟨⟨⟨_, a1⟩, a2⟩, a3⟩, a4⟩, a5⟩, a6⟩, a7⟩, a8⟩ := h6
    exact ⟨a1, a2, a3, a4, a5, a6, a7, a8⟩
  · have h6 := hexc .BadText hbt
    simp only [excB, Bool.and_eq_true, decide_eq_true_eq] at h6
    obtain ⟨⟨⟨⟨⟨⟨⟨⟨_, a1⟩, a2⟩, a3⟩, a4⟩, a5⟩, a6⟩, a7⟩, a8⟩ := h6
    rw [show L.cl.contains .BadText = true from hbt, Bool.not_true, Bool.false_or, decide_eq_true_eq] at e8
    exact ⟨⟨a1, a2, a3, a4⟩, e8⟩
  · exact He.free_ok X G (e1 x hx)
  · obtain ⟨st, hm⟩ := L.mem hf
    have ho := hoks f st hm
    simp only [Lw.okD, Bool.and_eq_true, decide_eq_true_eq] at ho
    obtain ⟨⟨⟨⟨⟨o1, o2⟩, o3⟩, o4⟩, o5⟩, o6⟩ := ho
    exact ⟨L.N f, defBody st, defScope st, ⟨_, _, _, hfd f st hm⟩, sc_ok o2, o3, o4, o5, o6⟩
theorem fn_nox {P : Program} {w : World} {K : PySem.W.Frag} {mg : Str → Option Value} {base : Heap} {k : Nat} {f : Addr} {fd : FuncData} {ps : List Str} {sp : Sp} (h : FnOk P w K mg base (L2.CX P w) k f fd ps sp) : FnOk P w K mg base CX0 k f fd ps (fun vs H Q _ => sp vs H Q fun _ _ _ => False) :=
  ⟨fun vs H Q E q => h.len vs H Q _ q, fun A outer s H args us vs Q E hr he hb hv hs => codeAny_mono (h.run A outer s H args us vs Q _ hr he hb hv hs) fun r s' q => by
    cases r with
    | ok fl => cases fl <;> exact q
    | error e =>
      obtain ⟨_, _, _, _, _, _, _, _, _, _, _, _, z⟩ := q
      exact z.elim⟩
/-- the law's def: its promise, from the interpreter's word -/
theorem Lw.fact (L : Lw) {f : F} {x : Str} {P : Program} {w : World} {K : PySem.W.Frag} {mg : Str → Option Value} {h : Heap} {fa : Addr} {fu k n : Nat} (X : K.In h) (G : h.Ns mainGlobals mg) (hmg : mg (L.fnm f) = some (.ref fa)) (c : He.SaysX [] (L.defs.map L.dd) L.ts [] L.ex w h K) (hok : L.defs.all L.okD = true)
    (hf : L.hv.fn f = true) (hnm : isMeth f = false) (hps : L.ps f = [x]) (run : ∀ ns : List Int, ns.length ≤ n → ∃ μ, callK L.Gam fu k f [.rl (ns.map .int)] [] = .ok (.bl true) μ) :
    ∃ (fd : FuncData) (sp : Sp), (∀ (s : Shared) (u : Value), BindsTo s fd ⟨[u], []⟩ [(x, u)]) ∧
        (∀ (H : Hp) (a : Addr) (ns : List Int), ns.length ≤ n → Only H → SqL K H a (ns.map V.int) → sp [.ref a] H (fun v _ => v = .bl true) fun _ _ _ => False) ∧
        ∀ base : Heap, K.In base → base.Ns mainGlobals mg → FnOk P w K mg base CX0 (2 * k) fa fd [x] sp := by
  obtain ⟨g1, g2⟩ := L.glb (P := P) X G c hok
  obtain ⟨t1, _⟩ := g1.top f hf hnm
  have e := hmg.symm.trans t1
  cases e
  refine ⟨(L.tb K).fd f, fun vs H Q _ => spF P w K (Gx0 (L.tb K) L.Gam fu k) f vs H Q fun _ _ _ => False, ?_, ?_, fun base _ _ => ?_⟩
  · intro s u
    obtain ⟨st, hm⟩ := L.mem hf
    have ho := List.all_eq_true.mp hok _ hm
    simp only [Lw.okD, Bool.and_eq_true] at ho
    obtain ⟨fd, F⟩ := He.SaysD.defs c.t.d (d := L.dd (f, st)) (List.mem_map_of_mem hm)
    have hfd : (L.tb K).fd f = fd := by
      obtain ⟨oc, od, dV, kV, doc, pm, an, cdv, ct, osl, _, lk, _⟩ := F.ex
      show fdAt K _ = _
      unfold fdAt
      rw [show K.lookup (He.fAd K (pathOf L.fnm f)) = _ from lk]
    rw [hfd]
    have hb := F.bindsA (ps := L.ps f) (fun kV doc pm an cdv ct us hl => args_bind ho.1.1.1.1.1 hl) s [u] (by rw [hps]; rfl)
    rw [hps] at hb
    exact hb
  · intro H a ns hl hO hS
    obtain ⟨μ, hr⟩ := run ns hl
    refine ⟨(none, []), [], [], [.rl (ns.map .int)], ⟨rfl, List.nodup_nil, fun p a o h => (by simp at h), fun a ha => (by simp at ha)⟩, ?_, ?_, ?_⟩
    · refine RepVs.one ?_
      simp only [RepV]
      refine ⟨a, ns.map V.int, rfl, ?_, ?_⟩
      · rcases hS with (h1 | ⟨o, h1⟩) | h1
        · rcases hO a with h2 | ⟨o, ys, h2⟩
          · rw [h2] at h1; cases h1
          · rw [h2] at h1; cases h1
        · exact .inl ⟨⟨o, h1⟩, by simp⟩
        · exact .inr h1
      · clear hr hS hl run
        induction ns with
        | nil => simp only [List.map_nil, RepVs]
        | cons i r ih =>
          simp only [List.map_cons, RepVs]
          exact ⟨_, _, rfl, by simp only [RepV], ih⟩
    · show 1 = ((L.tb K).ps f).length
      rw [show (L.tb K).ps f = L.ps f from rfl, hps]; rfl
    · show Pst P w K _ _ [] [] H (callK L.Gam fu k f [.rl (ns.map .int)] []) _
      rw [hr]
      intro α' H' v e s r
      simp only [RepV] at r
      exact r
  · have := (fnOk_all (base := base) (fu := fu) g1 g2 k).fn f hf
    rw [show (L.tb K).ps f = [x] from hps] at this
    exact fn_nox this
end FH

set_option maxHeartbeats 4000000
/-! The defs of all laws' texts. -/
namespace FH
open PySem (Operator CmpOp Str PyData)
def fnm : F → Str
  | .are_rows => "are_rows"
  | .need_scene => "need_scene"
  | .begun => "begun"
  | .turned => "turned"
  | .cell_ahead => "cell_ahead"
  | .is_so => "is_so"
  | .with_sign => "with_sign"
  | .behind => "behind"
  | .are_steps => "are_steps"
  | .count_ => "count"
  | .need_program => "need_program"
  | .lines_of => "lines_of"
  | .Run_init => "__init__"
  | .Run_go_on => "go_on"
  | .Run_step => "step"
  | .run_of => "run_of"
  | .ran => "ran"
  | .ring => "ring"
  | .passed => "passed"
  | .law_taken => "_law_taken"
  | .law_alike => "_law_alike"
  | .law_size => "_law_size"
  | .law_rows => "_law_rows"
  | .law_field => "_law_field"
  | .law_scene => "_law_scene"
  | .law_turned => "_law_turned"
  | .law_odd_rows => "_law_odd_rows"
  | .law_odd_scene => "_law_odd_scene"
  | .law_refused_k01 => "_law_refused"
  | .law_k01 => "law"
  | .steps_in => "steps_in"
  | .need_size => "need_size"
  | .need_wish => "need_wish"
  | .all_rows => "all_rows"
  | .all_fields => "all_fields"
  | .is_kept => "is_kept"
  | .keeps => "keeps"
  | .first_failed => "first_failed"
  | .fails => "fails"
  | .are_unlike => "are_unlike"
  | .parted => "parted"
  | .all_scenes => "all_scenes"
  | .everywhere => "everywhere"
  | .words_of => "words_of"
  | .text_of => "text_of"
  | .written => "written"
  | .need_long => "need_long"
  | .single => "single"
  | .all_programs => "all_programs"
  | .outcomes => "outcomes"
  | .likest => "likest"
  | .law_body => "_law_body"
  | .law_step => "_law_step"
  | .law_program_k02 => "_law_program"
  | .law_count => "_law_count"
  | .law_is_program => "_law_is_program"
  | .law_odd => "_law_odd"
  | .law_around_k02 => "_law_around"
  | .law_spoilt => "_law_spoilt"
  | .law_word_k02 => "_law_word"
  | .law_k02 => "law"
  | .law_ahead => "_law_ahead"
  | .law_so => "_law_so"
  | .law_done_k03 => "_law_done"
  | .law_walked_k03 => "_law_walked"
  | .law_stepped_k03 => "_law_stepped"
  | .law_refused_k03 => "_law_refused"
  | .law_k03 => "law"
  | .law_program_k04 => "_law_program"
  | .law_walked_k04 => "_law_walked"
  | .law_stepped_k04 => "_law_stepped"
  | .law_has => "_law_has"
  | .law_cells => "_law_cells"
  | .law_k04 => "law"
  | .law_numbered => "_law_numbered"
  | .law_at_step => "_law_at_step"
  | .law_ring => "_law_ring"
  | .law_passed => "_law_passed"
  | .law_counter => "_law_counter"
  | .law_k05 => "law"
  | .law_k06 => "law"
  | .fields => "fields"
  | .law_fields_k07 => "_law_fields"
  | .law_refused_k07 => "_law_refused"
  | .law_is_far => "_law_is_far"
  | .law_k07 => "law"
  | .law_fields_k08 => "_law_fields"
  | .law_wish => "_law_wish"
  | .law_refused_k08 => "_law_refused"
  | .law_k08 => "law"
  | .law_other => "_law_other"
  | .law_k09 => "law"
  | .law_scenes => "_law_scenes"
  | .law_same => "_law_same"
  | .law_pair => "_law_pair"
  | .law_around_k10 => "_law_around"
  | .law_k10 => "law"
  | .shortest => "shortest"
  | .law_done_k11 => "_law_done"
  | .law_words_k11 => "_law_words"
  | .law_long_k11 => "_law_long"
  | .law_all_k11 => "_law_all"
  | .law_word_k11 => "_law_word"
  | .law_shown_k11 => "_law_shown"
  | .law_k11 => "law"
  | .law_words_k12 => "_law_words"
  | .law_long_k12 => "_law_long"
  | .law_all_k12 => "_law_all"
  | .law_told_k12 => "_law_told"
  | .law_outs => "_law_outs"
  | .law_shown_k12 => "_law_shown"
  | .law_k12 => "law"
  | .must => "must"
  | .body_at => "body_at"
  | .read => "read"
  | .law_k13 => "law"
  | .law_took => "_law_took"
  | .law_reading => "_law_reading"
  | .law_told_k14 => "_law_told"
  | .law_changed => "_law_changed"
  | .law_k14 => "law"
  | .law_asked => "_law_asked"
  | .law_copied => "_law_copied"
  | .law_k15 => "law"
  | _ => "?"
def fps : F → List Str
  | .are_rows => ["rows"]
  | .need_scene => ["scene"]
  | .begun => ["rows"]
  | .turned => ["scene"]
  | .cell_ahead => ["scene"]
  | .is_so => ["scene", "ask"]
  | .with_sign => ["rows", "row", "column", "sign"]
  | .behind => ["scene", "word"]
  | .are_steps => ["body", "within"]
  | .count_ => ["body"]
  | .need_program => ["program"]
  | .lines_of => ["body", "begin"]
  | .Run_init => ["self", "program", "scene"]
  | .Run_go_on => ["self"]
  | .Run_step => ["self"]
  | .run_of => ["program", "scene"]
  | .ran => ["program", "scene"]
  | .ring => ["program", "scene"]
  | .passed => ["program", "scene", "many"]
  | .law_taken => ["_law_row", "_law_many"]
  | .law_alike => ["_law_found", "_law_due"]
  | .law_size => ["_law_row", "_law_most"]
  | .law_rows => ["_law_row", "_law_size_here"]
  | .law_field => ["_law_row", "_law_size_here"]
  | .law_scene => ["_law_row", "_law_size_here"]
  | .law_turned => ["_law_scene_here"]
  | .law_odd_rows => ["_law_row", "_law_rows_here"]
  | .law_odd_scene => ["_law_row", "_law_scene_here"]
  | .law_refused_k01 => ["_law_work"]
  | .law_k01 => ["_law_script"]
  | .steps_in => ["program"]
  | .need_size => ["size", "most"]
  | .need_wish => ["wish"]
  | .all_rows => ["size"]
  | .all_fields => ["size"]
  | .is_kept => ["word", "rows", "scene"]
  | .keeps => ["program", "rows", "wish"]
  | .first_failed => ["program", "some", "wish"]
  | .fails => ["program", "size", "wish"]
  | .are_unlike => ["one", "other", "scene"]
  | .parted => ["one", "other", "size"]
  | .all_scenes => ["size"]
  | .everywhere => ["one", "other", "size"]
  | .words_of => ["body"]
  | .text_of => ["program"]
  | .written => ["program"]
  | .need_long => ["most"]
  | .single => ["many", "table"]
  | .all_programs => ["most"]
  | .outcomes => ["program", "some"]
  | .likest => ["program", "size", "most"]
  | .law_body => ["_law_row", "_law_left", "_law_within"]
  | .law_step => ["_law_row", "_law_left", "_law_within"]
  | .law_program_k02 => ["_law_row", "_law_most"]
  | .law_count => ["_law_body_here"]
  | .law_is_program => ["_law_program_here"]
  | .law_odd => ["_law_row"]
  | .law_around_k02 => ["_law_row", "_law_step_here", "_law_many"]
  | .law_spoilt => ["_law_row", "_law_program_here"]
  | .law_word_k02 => ["_law_work"]
  | .law_k02 => ["_law_script"]
  | .law_ahead => ["_law_scene_here"]
  | .law_so => ["_law_scene_here", "_law_ask"]
  | .law_done_k03 => ["_law_scene_here", "_law_word"]
  | .law_walked_k03 => ["_law_body", "_law_scene_here"]
  | .law_stepped_k03 => ["_law_step", "_law_scene_here"]
  | .law_refused_k03 => ["_law_program", "_law_scene_here", "_law_many"]
  | .law_k03 => ["_law_script"]
  | .law_program_k04 => ["_law_row", "_law_most"]
  | .law_walked_k04 => ["_law_body_here", "_law_scene_here"]
  | .law_stepped_k04 => ["_law_step_here", "_law_scene_here"]
  | .law_has => ["_law_body_here", "_law_word"]
  | .law_cells => ["_law_program_here"]
  | .law_k04 => ["_law_script"]
  | .law_numbered => ["_law_body_here", "_law_known"]
  | .law_at_step => ["_law_left", "_law_scene_here"]
  | .law_ring => ["_law_program_here", "_law_scene_here"]
  | .law_passed => ["_law_program_here", "_law_scene_here", "_law_many"]
  | .law_counter => []
  | .law_k05 => ["_law_script"]
  | .law_k06 => ["_law_script"]
  | .fields => ["size"]
  | .law_fields_k07 => ["_law_size"]
  | .law_refused_k07 => ["_law_size"]
  | .law_is_far => ["_law_size"]
  | .law_k07 => ["_law_script"]
  | .law_fields_k08 => ["_law_size_here"]
  | .law_wish => ["_law_row"]
  | .law_refused_k08 => ["_law_program_here", "_law_size_here", "_law_wish_here"]
  | .law_k08 => ["_law_script"]
  | .law_other => ["_law_row", "_law_one"]
  | .law_k09 => ["_law_script"]
  | .law_scenes => ["_law_size_here"]
  | .law_same => ["_law_row", "_law_one"]
  | .law_pair => ["_law_row"]
  | .law_around_k10 => ["_law_row", "_law_inner"]
  | .law_k10 => ["_law_script"]
  | .shortest => ["size", "wish", "most"]
  | .law_done_k11 => ["_law_scene_here", "_law_word_here"]
  | .law_words_k11 => ["_law_body"]
  | .law_long_k11 => ["_law_many", "_law_table"]
  | .law_all_k11 => ["_law_most"]
  | .law_word_k11 => ["_law_size_here", "_law_wish_here", "_law_most"]
  | .law_shown_k11 => ["_law_program", "_law_some", "_law_wish_here", "_law_most"]
  | .law_k11 => ["_law_script"]
  | .law_words_k12 => ["_law_body_here"]
  | .law_long_k12 => ["_law_many", "_law_table"]
  | .law_all_k12 => ["_law_most"]
  | .law_told_k12 => ["_law_row"]
  | .law_outs => ["_law_program_here", "_law_some"]
  | .law_shown_k12 => ["_law_found", "_law_program_here", "_law_some", "_law_most"]
  | .law_k12 => ["_law_script"]
  | .must => ["words", "at", "some"]
  | .body_at => ["words", "at"]
  | .read => ["text"]
  | .law_k13 => ["_law_script"]
  | .law_took => ["_law_left", "_law_word"]
  | .law_reading => ["_law_text"]
  | .law_told_k14 => ["_law_text"]
  | .law_changed => ["_law_row", "_law_text"]
  | .law_k14 => ["_law_script"]
  | .law_asked => ["_law_way", "_law_program_here", "_law_scene_here", "_law_size_here", "_law_wish_here"]
  | .law_copied => ["_law_told"]
  | .law_k15 => ["_law_script"]
  | _ => []
def fN : F → List Str
  | .are_rows => ["rows", "row", "sign"]
  | .need_scene => ["scene", "rows", "row", "column", "way", "held"]
  | .begun => ["rows", "scene"]
  | .turned => ["scene", "rows", "row", "column", "way", "held", "found", "place", "one"]
  | .cell_ahead => ["scene", "rows", "row", "column", "way", "held"]
  | .is_so => ["scene", "ask", "rows", "row", "column", "way", "held"]
  | .with_sign => ["rows", "row", "column", "sign", "line"]
  | .behind => ["scene", "word", "rows", "row", "column", "way", "held", "ahead"]
  | .are_steps => ["body", "within", "step", "inner"]
  | .count_ => ["body", "inner", "step"]
  | .need_program => ["program"]
  | .lines_of => ["body", "begin", "lines", "step", "at", "inner", "first", "second", "end"]
  | .Run_init => ["self", "program", "scene"]
  | .Run_go_on => ["self", "ahead"]
  | .Run_step => ["self", "line", "found"]
  | .run_of => ["program", "scene", "run"]
  | .ran => ["program", "scene"]
  | .ring => ["program", "scene"]
  | .passed => ["program", "scene", "many", "run", "found"]
  | .law_taken => ["_law_row", "_law_many", "_law_found", "_law_cell"]
  | .law_alike => ["_law_found", "_law_due", "_law_k"]
  | .law_size => ["_law_row", "_law_most", "_law_width"]
  | .law_rows => ["_law_row", "_law_size_here", "_law_signs", "_law_found", "_law_low", "_law_column"]
  | .law_field => ["_law_row", "_law_size_here", "_law_rows_here", "_law_first"]
  | .law_scene => ["_law_row", "_law_size_here", "_law_rows_here", "_law_low", "_law_column"]
  | .law_turned => ["_law_scene_here", "_law_rows_here", "_law_low", "_law_column", "_law_way", "_law_held", "_law_found", "_law_k", "_law_j"]
  | .law_odd_rows => ["_law_row", "_law_rows_here", "_law_way", "_law_k", "_law_line", "_law_at", "_law_one", "_law_sign"]
  | .law_odd_scene => ["_law_row", "_law_scene_here", "_law_rows_here", "_law_low", "_law_column", "_law_way", "_law_held", "_law_far", "_law_some", "_law_line"]
  | .law_refused_k01 => ["_law_work", "e", "_law_other"]
  | .law_k01 => ["_law_script", "_law_row", "_law_turn", "_law_size_here", "_law_rows_here", "_law_scene_here", "_law_found", "_law_again", "_law_bad", "_law_odd", "_law_work"]
  | .steps_in => ["program"]
  | .need_size => ["size", "most"]
  | .need_wish => ["wish", "word"]
  | .all_rows => ["size", "lines", "column", "longer", "line", "sign", "found", "row", "rows"]
  | .all_fields => ["size", "rows"]
  | .is_kept => ["word", "rows", "scene"]
  | .keeps => ["program", "rows", "wish", "outcome", "word"]
  | .first_failed => ["program", "some", "wish", "rows"]
  | .fails => ["program", "size", "wish"]
  | .are_unlike => ["one", "other", "scene"]
  | .parted => ["one", "other", "size", "rows"]
  | .all_scenes => ["size", "found", "rows", "place", "row", "column", "way", "held"]
  | .everywhere => ["one", "other", "size", "scene"]
  | .words_of => ["body", "found", "step", "inner"]
  | .text_of => ["program"]
  | .written => ["program"]
  | .need_long => ["most"]
  | .single => ["many", "table", "found", "word", "ask", "inner", "first", "other"]
  | .all_programs => ["most", "table", "steps", "many", "found", "first", "step", "rest", "ordered", "some"]
  | .outcomes => ["program", "some", "rows"]
  | .likest => ["program", "size", "most", "every", "due", "places", "other", "at", "found"]
  | .law_body => ["_law_row", "_law_left", "_law_within", "_law_found", "_law_turn"]
  | .law_step => ["_law_row", "_law_left", "_law_within", "_law_way", "_law_ask"]
  | .law_program_k02 => ["_law_row", "_law_most", "_law_some", "_law_left", "_law_found", "_law_turn", "_law_around_here"]
  | .law_count => ["_law_body_here", "_law_found", "_law_step_here", "_law_inner"]
  | .law_is_program => ["_law_program_here"]
  | .law_odd => ["_law_row", "_law_some"]
  | .law_around_k02 => ["_law_row", "_law_step_here", "_law_many", "_law_turn", "_law_some"]
  | .law_spoilt => ["_law_row", "_law_program_here", "_law_at", "_law_way", "_law_step_here"]
  | .law_word_k02 => ["_law_work", "e", "_law_kinds"]
  | .law_k02 => ["_law_script", "_law_row", "_law_turn", "_law_program_here", "_law_good", "_law_due", "_law_work"]
  | .law_ahead => ["_law_scene_here", "_law_rows_here", "_law_low", "_law_column", "_law_way", "_law_held"]
  | .law_so => ["_law_scene_here", "_law_ask"]
  | .law_done_k03 => ["_law_scene_here", "_law_word", "_law_rows_here", "_law_low", "_law_column", "_law_way", "_law_held", "_law_ahead_here", "_law_stone", "_law_line"]
  | .law_walked_k03 => ["_law_body", "_law_scene_here", "_law_step", "_law_out"]
  | .law_stepped_k03 => ["_law_step", "_law_scene_here", "_law_found", "_law_met", "_law_out"]
  | .law_refused_k03 => ["_law_program", "_law_scene_here", "_law_many", "e"]
  | .law_k03 => ["_law_script", "_law_row", "_law_turn", "_law_scene_here", "_law_words", "_law_k", "_law_program", "_law_word", "_law_due", "_law_out", "_law_now", "_law_found", "_law_many", "_law_again", "_law_told", "_law_far"]
  | .law_program_k04 => ["_law_row", "_law_most", "_law_some", "_law_left", "_law_found", "_law_turn", "_law_around"]
  | .law_walked_k04 => ["_law_body_here", "_law_scene_here", "_law_step_here", "_law_out"]
  | .law_stepped_k04 => ["_law_step_here", "_law_scene_here", "_law_found", "_law_met", "_law_out"]
  | .law_has => ["_law_body_here", "_law_word", "_law_step_here", "_law_inner"]
  | .law_cells => ["_law_program_here"]
  | .law_k04 => ["_law_script", "_law_row", "_law_turn", "_law_program_here", "_law_again", "_law_scene_here"]
  | .law_numbered => ["_law_body_here", "_law_known", "_law_found", "_law_step_here", "_law_number", "_law_inner", "_law_one"]
  | .law_at_step => ["_law_left", "_law_scene_here", "_law_number", "_law_word", "_law_found", "_law_good"]
  | .law_ring => ["_law_program_here", "_law_scene_here", "_law_left", "_law_met", "_law_doings", "_law_state", "_law_done_here"]
  | .law_passed => ["_law_program_here", "_law_scene_here", "_law_many", "_law_round_of", "_law_left", "_law_found", "_law_done_here"]
  | .law_counter => ["_law_back"]
  | .law_k05 => ["_law_script", "_law_row", "_law_turn", "_law_program_here", "_law_again", "_law_scene_here", "_law_due", "_law_told", "_law_many", "_law_found", "_law_ahead_here", "_law_around", "_law_more"]
  | .law_k06 => ["_law_script", "_law_row", "_law_turn", "_law_program_here", "_law_again", "_law_scene_here", "_law_other", "_law_out", "_law_some", "_law_quarter", "_law_one"]
  | .fields => ["size"]
  | .law_fields_k07 => ["_law_size", "_law_found", "_law_place", "_law_longer", "_law_signs", "_law_sign", "_law_k"]
  | .law_refused_k07 => ["_law_size", "e", "_law_other"]
  | .law_is_far => ["_law_size"]
  | .law_k07 => ["_law_script", "_law_row", "_law_width", "_law_size", "_law_again", "_law_told", "_law_turn", "_law_wide", "_law_high"]
  | .law_fields_k08 => ["_law_size_here", "_law_found", "_law_place", "_law_longer", "_law_signs", "_law_sign", "_law_k"]
  | .law_wish => ["_law_row", "_law_left", "_law_found", "_law_turn"]
  | .law_refused_k08 => ["_law_program_here", "_law_size_here", "_law_wish_here", "e", "_law_other"]
  | .law_k08 => ["_law_script", "_law_row", "_law_turn", "_law_program_here", "_law_size_here", "_law_wish_here", "_law_due", "_law_rows_here", "_law_odd"]
  | .law_other => ["_law_row", "_law_one", "_law_at", "_law_way", "_law_more"]
  | .law_k09 => ["_law_script", "_law_row", "_law_turn", "_law_one", "_law_other_here", "_law_size_here", "_law_due", "_law_rows_here", "_law_scene_here"]
  | .law_scenes => ["_law_size_here", "_law_every", "_law_rows_here", "_law_found", "_law_place", "_law_low", "_law_column", "_law_way", "_law_held"]
  | .law_same => ["_law_row", "_law_one", "_law_ask", "_law_way", "_law_at"]
  | .law_pair => ["_law_row", "_law_one", "_law_other", "_law_last"]
  | .law_around_k10 => ["_law_row", "_law_inner", "_law_way", "_law_ask", "_law_some", "_law_found", "_law_one", "_law_around_here"]
  | .law_k10 => ["_law_script", "_law_row", "_law_one", "_law_other", "_law_size_here", "_law_due", "_law_scene_here", "_law_turn", "_law_first", "_law_second", "_law_rows_here"]
  | .shortest => ["size", "wish", "most", "every", "some", "program", "rows"]
  | .law_done_k11 => ["_law_scene_here", "_law_word_here", "_law_rows_here", "_law_low", "_law_column", "_law_way", "_law_held", "_law_ahead_here", "_law_stone", "_law_line"]
  | .law_words_k11 => ["_law_body", "_law_found", "_law_step", "_law_inner"]
  | .law_long_k11 => ["_law_many", "_law_table", "_law_found", "_law_word_here", "_law_ask", "_law_inner", "_law_k", "_law_other"]
  | .law_all_k11 => ["_law_most", "_law_table", "_law_many", "_law_some", "_law_k", "_law_step", "_law_rest", "_law_found", "_law_pair", "_law_one"]
  | .law_word_k11 => ["_law_size_here", "_law_wish_here", "_law_most", "e", "_law_kinds"]
  | .law_shown_k11 => ["_law_program", "_law_some", "_law_wish_here", "_law_most", "_law_one", "_law_rows_here"]
  | .law_k11 => ["_law_script", "_law_row", "_law_size_here", "_law_wish_here", "_law_most", "_law_every", "_law_told", "_law_program", "_law_some", "_law_rows_here", "_law_again", "_law_odd"]
  | .law_words_k12 => ["_law_body_here", "_law_found", "_law_step_here", "_law_inner"]
  | .law_long_k12 => ["_law_many", "_law_table", "_law_found", "_law_word", "_law_ask", "_law_inner", "_law_k", "_law_other"]
  | .law_all_k12 => ["_law_most", "_law_table", "_law_many", "_law_some", "_law_k", "_law_step_here", "_law_rest", "_law_found", "_law_pair", "_law_one"]
  | .law_told_k12 => ["_law_row", "_law_way", "_law_one"]
  | .law_outs => ["_law_program_here", "_law_some", "_law_rows_here"]
  | .law_shown_k12 => ["_law_found", "_law_program_here", "_law_some", "_law_most", "_law_due", "_law_one"]
  | .law_k12 => ["_law_script", "_law_row", "_law_size_here", "_law_program_here", "_law_most", "_law_every", "_law_told_here", "_law_found", "_law_some", "_law_rows_here", "_law_again", "e"]
  | .must => ["words", "at", "some"]
  | .body_at => ["words", "at", "found", "word", "parts", "turn", "inner"]
  | .read => ["text", "words", "program", "behind"]
  | .law_k13 => ["_law_script", "_law_row", "_law_turn", "_law_program_here", "_law_text", "_law_found", "_law_scene_here"]
  | .law_took => ["_law_left", "_law_word", "_law_top"]
  | .law_reading => ["_law_text", "_law_words_here", "_law_left", "_law_at", "_law_program_here"]
  | .law_told_k14 => ["_law_text", "e", "_law_other", "_law_kinds"]
  | .law_changed => ["_law_row", "_law_text", "_law_way", "_law_at", "_law_sign", "_law_words_here", "_law_k", "_law_odd", "_law_rest", "_law_j"]
  | .law_k14 => ["_law_script", "_law_row", "_law_some", "_law_turn", "_law_text", "_law_change", "_law_one"]
  | .law_asked => ["_law_way", "_law_program_here", "_law_scene_here", "_law_size_here", "_law_wish_here"]
  | .law_copied => ["_law_told", "_law_one"]
  | .law_k15 => ["_law_script", "_law_row", "_law_some", "_law_k", "_law_program_here", "_law_kept", "_law_scene_here", "_law_size_here", "_law_wish_here", "_law_way", "_law_turn", "_law_told", "_law_one"]
  | _ => []
def B_are_rows : Ss := (.cons (.ifs (.or (.not (.chain .LtE .LtE (.con (.int 1)) (.blt .len (.cons (.var 0) .nil)) (.glo .MOST_SIDE))) (.not (.chain .LtE .LtE (.con (.int 1)) (.blt .len (.cons (.idx (.var 0) (.con (.int 0))) .nil)) (.glo .MOST_SIDE)))) (.cons (.ret (.con (.bl false)))
  .nil) .nil)
  (.cons (.ifs (.cmp .NotEq (.comp1 1 (.seq (.var 0)) (.cmp .NotEq (.blt .len (.cons (.var 1) .nil)) (.blt .len (.cons (.idx (.var 0) (.con (.int 0))) .nil))) (.var 1)) (.lst .nil)) (.cons (.ret (.con (.bl false)))
  .nil) .nil)
  (.cons (.ret (.cmp .Eq (.comp1 1 (.seq (.var 0)) (.cmp .NotEq (.comp1 2 (.seq (.var 1)) (.cmp .NotIn (.var 2) (.glo .SIGNS)) (.var 2)) (.lst .nil)) (.var 1)) (.lst .nil)))
  .nil)))
def B_need_scene : Ss := (.cons (.unp [1, 2, 3, 4, 5] (.var 0))
  (.cons (.ifs (.or (.not (.call .are_rows (.cons (.var 1) .nil))) (.or (.not (.chain .LtE .Lt (.con (.int 0)) (.var 2) (.blt .len (.cons (.var 1) .nil)))) (.not (.chain .LtE .Lt (.con (.int 0)) (.var 3) (.blt .len (.cons (.idx (.var 1) (.con (.int 0))) .nil)))))) (.cons (.raise .BadField (.con (.str [110, 111, 32, 115, 99, 101, 110, 101])))
  .nil) .nil)
  (.cons (.ifs (.or (.cmp .Eq (.idx (.idx (.var 1) (.var 2)) (.var 3)) (.glo .WALL)) (.or (.not (.chain .LtE .Lt (.con (.int 0)) (.var 4) (.blt .len (.cons (.glo .STEPS) .nil)))) (.not (.chain .LtE .LtE (.con (.int 0)) (.var 5) (.glo .MOST_HELD))))) (.cons (.raise .BadField (.con (.str [110, 111, 32, 115, 99, 101, 110, 101])))
  .nil) .nil)
  .nil)))
def B_begun : Ss := (.cons (.asg 1 (.tup (.cons (.var 0) (.cons (.con (.int 0)) (.cons (.con (.int 0)) (.cons (.con (.int 0)) (.cons (.con (.int 0)) .nil)))))))
  (.cons (.ex (.call .need_scene (.cons (.var 1) .nil)))
  (.cons (.ret (.var 1))
  .nil)))
def B_turned : Ss := (.cons (.ex (.call .need_scene (.cons (.var 0) .nil)))
  (.cons (.unp [1, 2, 3, 4, 5] (.var 0))
  (.cons (.asg 6 (.ref (.lst .nil)))
  (.cons (.for_ 7 (.rng (.cons (.blt .len (.cons (.idx (.var 1) (.con (.int 0))) .nil)) .nil)) (.cons (.ex (.mth .append (.var 6) (.cons (.mth .join (.con (.str [])) (.cons (.comp0 8 (.rev (.var 1)) (.idx (.var 8) (.var 7))) .nil)) .nil)))
  .nil))
  (.cons (.ret (.tup (.cons (.blt .tuple (.cons (.var 6) .nil)) (.cons (.var 3) (.cons (.bin .Sub (.bin .Sub (.blt .len (.cons (.var 1) .nil)) (.con (.int 1))) (.var 2)) (.cons (.bin .Mod (.bin .Add (.var 4) (.con (.int 1))) (.blt .len (.cons (.glo .STEPS) .nil))) (.cons (.var 5) .nil)))))))
  .nil)))))
def B_cell_ahead : Ss := (.cons (.unp [1, 2, 3, 4, 5] (.var 0))
  (.cons (.asg 2 (.bin .Add (.var 2) (.idx (.idx (.glo .STEPS) (.var 4)) (.con (.int 0)))))
  (.cons (.asg 3 (.bin .Add (.var 3) (.idx (.idx (.glo .STEPS) (.var 4)) (.con (.int 1)))))
  (.cons (.ifs (.or (.not (.chain .LtE .Lt (.con (.int 0)) (.var 2) (.blt .len (.cons (.var 1) .nil)))) (.or (.not (.chain .LtE .Lt (.con (.int 0)) (.var 3) (.blt .len (.cons (.idx (.var 1) (.con (.int 0))) .nil)))) (.cmp .Eq (.idx (.idx (.var 1) (.var 2)) (.var 3)) (.glo .WALL)))) (.cons (.ret (.con .non))
  .nil) .nil)
  (.cons (.ret (.tup (.cons (.var 2) (.cons (.var 3) .nil))))
  .nil)))))
def B_is_so : Ss := (.cons (.unp [2, 3, 4, 5, 6] (.var 0))
  (.cons (.ifs (.cmp .Eq (.var 1) (.con (.str [111, 112, 101, 110]))) (.cons (.ret (.cmp .IsNot (.call .cell_ahead (.cons (.var 0) .nil)) (.con .non)))
  .nil) .nil)
  (.cons (.ifs (.cmp .Eq (.var 1) (.con (.str [115, 116, 111, 110, 101]))) (.cons (.ret (.cmp .Eq (.idx (.idx (.var 2) (.var 3)) (.var 4)) (.glo .STONE)))
  .nil) .nil)
  (.cons (.ret (.cmp .Gt (.var 6) (.con (.int 0))))
  .nil))))
def B_with_sign : Ss := (.cons (.asg 4 (.bin .Add (.bin .Add (.slc (.idx (.var 0) (.var 1)) (.con .non) (.var 2)) (.var 3)) (.slc (.idx (.var 0) (.var 1)) (.bin .Add (.var 2) (.con (.int 1))) (.con .non))))
  (.cons (.ret (.bin .Add (.bin .Add (.slc (.var 0) (.con .non) (.var 1)) (.tup (.cons (.var 4) .nil))) (.slc (.var 0) (.bin .Add (.var 1) (.con (.int 1))) (.con .non))))
  .nil))
def B_behind : Ss := (.cons (.unp [2, 3, 4, 5, 6] (.var 0))
  (.cons (.ifs (.cmp .Eq (.var 1) (.con (.str [116, 117, 114, 110]))) (.cons (.ret (.tup (.cons (.var 2) (.cons (.var 3) (.cons (.var 4) (.cons (.bin .Mod (.bin .Add (.var 5) (.con (.int 1))) (.blt .len (.cons (.glo .STEPS) .nil))) (.cons (.var 6) .nil)))))))
  .nil) .nil)
  (.cons (.ifs (.cmp .Eq (.var 1) (.con (.str [103, 111]))) (.cons (.asg 7 (.call .cell_ahead (.cons (.var 0) .nil)))
  (.cons (.ret (.ife (.cmp .Is (.var 7) (.con .non)) (.con .non) (.tup (.cons (.var 2) (.cons (.idx (.var 7) (.con (.int 0))) (.cons (.idx (.var 7) (.con (.int 1))) (.cons (.var 5) (.cons (.var 6) .nil))))))))
  .nil)) .nil)
  (.cons (.ifs (.cmp .Eq (.var 1) (.con (.str [116, 97, 107, 101]))) (.cons (.ifs (.cmp .NotEq (.idx (.idx (.var 2) (.var 3)) (.var 4)) (.glo .STONE)) (.cons (.ret (.con .non))
  .nil) .nil)
  (.cons (.ret (.tup (.cons (.call .with_sign (.cons (.var 2) (.cons (.var 3) (.cons (.var 4) (.cons (.glo .FREE) .nil))))) (.cons (.var 3) (.cons (.var 4) (.cons (.var 5) (.cons (.bin .Add (.var 6) (.con (.int 1))) .nil)))))))
  .nil)) .nil)
  (.cons (.ifs (.or (.cmp .Eq (.idx (.idx (.var 2) (.var 3)) (.var 4)) (.glo .STONE)) (.cmp .Eq (.var 6) (.con (.int 0)))) (.cons (.ret (.con .non))
  .nil) .nil)
  (.cons (.ret (.tup (.cons (.call .with_sign (.cons (.var 2) (.cons (.var 3) (.cons (.var 4) (.cons (.glo .STONE) .nil))))) (.cons (.var 3) (.cons (.var 4) (.cons (.var 5) (.cons (.bin .Sub (.var 6) (.con (.int 1))) .nil)))))))
  .nil))))))
def B_are_steps : Ss := (.cons (.for_ 2 (.seq (.var 0)) (.cons (.ifs (.or (.inG false (.idx (.var 2) (.con (.int 0)))) (.or (.cmp .NotEq (.blt .len (.cons (.var 2) .nil)) (.getG (.idx (.var 2) (.con (.int 0))))) (.cmp .Gt (.var 1) (.glo .MOST_WITHIN)))) (.cons (.ret (.con (.bl false)))
  .nil) .nil)
  (.cons (.ifs (.and (.cmp .Gt (.blt .len (.cons (.var 2) .nil)) (.con (.int 1))) (.cmp .NotIn (.idx (.var 2) (.con (.int 1))) (.glo .ASKS))) (.cons (.ret (.con (.bl false)))
  .nil) .nil)
  (.cons (.ifs (.cmp .NotEq (.comp1 3 (.seq (.slc (.var 2) (.con (.int 2)) (.con .non))) (.not (.call .are_steps (.cons (.var 3) (.cons (.bin .Add (.var 1) (.con (.int 1))) .nil)))) (.var 3)) (.lst .nil)) (.cons (.ret (.con (.bl false)))
  .nil) .nil)
  .nil))))
  (.cons (.ret (.con (.bl true)))
  .nil))
def B_count_ : Ss := (.cons (.ret (.blt .sum (.cons (.comp0 2 (.seq (.var 0)) (.bin .Add (.con (.int 1)) (.blt .sum (.cons (.comp0 1 (.seq (.slc (.var 2) (.con (.int 2)) (.con .non))) (.call .count_ (.cons (.var 1) .nil))) .nil)))) .nil)))
  .nil)
def B_need_program : Ss := (.cons (.ifs (.or (.not (.call .are_steps (.cons (.var 0) (.cons (.con (.int 0)) .nil)))) (.cmp .Gt (.call .count_ (.cons (.var 0) .nil)) (.glo .MOST_STEPS))) (.cons (.raise .BadProgram (.con (.str [110, 111, 32, 112, 114, 111, 103, 114, 97, 109])))
  .nil) .nil)
  .nil)
def B_lines_of : Ss := (.cons (.asg 2 (.ref (.lst .nil)))
  (.cons (.for_ 3 (.seq (.var 0)) (.cons (.asg 4 (.bin .Add (.var 1) (.blt .len (.cons (.var 2) .nil))))
  (.cons (.ifs (.cmp .In (.idx (.var 3) (.con (.int 0))) (.glo .DOINGS)) (.cons (.ex (.mth .append (.var 2) (.cons (.var 3) .nil)))
  .nil) (.cons (.ifs (.cmp .Eq (.idx (.var 3) (.con (.int 0))) (.con (.str [119, 104, 105, 108, 101]))) (.cons (.asg 5 (.call .lines_of (.cons (.idx (.var 3) (.con (.int 2))) (.cons (.bin .Add (.var 4) (.con (.int 1))) .nil))))
  (.cons (.ex (.mth .extend (.var 2) (.cons (.bin .Add (.bin .Add (.lst (.cons (.tup (.cons (.con (.str [97, 115, 107])) (.cons (.idx (.var 3) (.con (.int 1))) (.cons (.bin .Add (.bin .Add (.var 4) (.blt .len (.cons (.var 5) .nil))) (.con (.int 2))) .nil)))) .nil)) (.var 5)) (.lst (.cons (.tup (.cons (.con (.str [111, 110])) (.cons (.var 4) .nil))) .nil))) .nil)))
  .nil)) (.cons (.asg 6 (.call .lines_of (.cons (.idx (.var 3) (.con (.int 2))) (.cons (.bin .Add (.var 4) (.con (.int 1))) .nil))))
  (.cons (.asg 7 (.call .lines_of (.cons (.idx (.var 3) (.con (.int 3))) (.cons (.bin .Add (.bin .Add (.var 4) (.blt .len (.cons (.var 6) .nil))) (.con (.int 2))) .nil))))
  (.cons (.asg 8 (.bin .Add (.bin .Add (.bin .Add (.var 4) (.blt .len (.cons (.var 6) .nil))) (.blt .len (.cons (.var 7) .nil))) (.con (.int 2))))
  (.cons (.ex (.mth .extend (.var 2) (.cons (.bin .Add (.bin .Add (.bin .Add (.lst (.cons (.tup (.cons (.con (.str [97, 115, 107])) (.cons (.idx (.var 3) (.con (.int 1))) (.cons (.bin .Add (.bin .Add (.var 4) (.blt .len (.cons (.var 6) .nil))) (.con (.int 2))) .nil)))) .nil)) (.var 6)) (.lst (.cons (.tup (.cons (.con (.str [111, 110])) (.cons (.var 8) .nil))) .nil))) (.var 7)) .nil)))
  .nil)))))
  .nil))
  .nil)))
  (.cons (.ret (.var 2))
  .nil)))
def B_Run_init : Ss := (.cons (.setF (.var 0) .lines (.call .lines_of (.cons (.var 1) (.cons (.con (.int 0)) .nil))))
  (.cons (.setF (.var 0) .at_ (.con (.int 0)))
  (.cons (.setF (.var 0) .scene (.var 2))
  (.cons (.setF (.var 0) .doings (.con (.int 0)))
  (.cons (.setF (.var 0) .met .dnew)
  (.cons (.setF (.var 0) .outcome (.con .non))
  (.cons (.setF (.var 0) .around (.con .non))
  .nil)))))))
def B_Run_go_on : Ss := (.cons (.whl (.and (.cmp .Lt (.fld (.var 0) .at_) (.blt .len (.cons (.fld (.var 0) .lines) .nil))) (.cmp .Eq (.idx (.idx (.fld (.var 0) .lines) (.fld (.var 0) .at_)) (.con (.int 0))) (.con (.str [111, 110])))) (.cons (.setF (.var 0) .at_ (.idx (.idx (.fld (.var 0) .lines) (.fld (.var 0) .at_)) (.con (.int 1))))
  .nil))
  (.cons (.ifs (.cmp .Eq (.fld (.var 0) .at_) (.blt .len (.cons (.fld (.var 0) .lines) .nil))) (.cons (.setF (.var 0) .outcome (.tup (.cons (.con (.str [100, 111, 110, 101])) (.cons (.fld (.var 0) .scene) .nil))))
  .nil) (.cons (.ifs (.cmp .In (.tup (.cons (.fld (.var 0) .at_) (.cons (.fld (.var 0) .scene) .nil))) (.fld (.var 0) .met)) (.cons (.setF (.var 0) .outcome (.tup (.cons (.con (.str [102, 111, 114, 101, 118, 101, 114])) .nil)))
  (.cons (.asg 1 (.idx (.fld (.var 0) .met) (.tup (.cons (.fld (.var 0) .at_) (.cons (.fld (.var 0) .scene) .nil)))))
  (.cons (.setF (.var 0) .around (.tup (.cons (.var 1) (.cons (.bin .Sub (.fld (.var 0) .doings) (.var 1)) .nil))))
  .nil))) (.cons (.setI (.fld (.var 0) .met) (.tup (.cons (.fld (.var 0) .at_) (.cons (.fld (.var 0) .scene) .nil))) (.fld (.var 0) .doings))
  .nil))
  .nil))
  .nil))
def B_Run_step : Ss := (.cons (.ex (.meth .Run_go_on (.var 0)))
  (.cons (.ifs (.cmp .IsNot (.fld (.var 0) .outcome) (.con .non)) (.cons (.ret (.con (.bl false)))
  .nil) .nil)
  (.cons (.asg 1 (.idx (.fld (.var 0) .lines) (.fld (.var 0) .at_)))
  (.cons (.ifs (.cmp .Eq (.idx (.var 1) (.con (.int 0))) (.con (.str [97, 115, 107]))) (.cons (.setF (.var 0) .at_ (.ife (.call .is_so (.cons (.fld (.var 0) .scene) (.cons (.idx (.var 1) (.con (.int 1))) .nil))) (.bin .Add (.fld (.var 0) .at_) (.con (.int 1))) (.idx (.var 1) (.con (.int 2)))))
  (.cons (.ret (.con (.bl false)))
  .nil)) .nil)
  (.cons (.asg 2 (.call .behind (.cons (.fld (.var 0) .scene) (.cons (.idx (.var 1) (.con (.int 0))) .nil))))
  (.cons (.ifs (.cmp .Is (.var 2) (.con .non)) (.cons (.setF (.var 0) .outcome (.tup (.cons (.con (.str [98, 114, 111, 107, 101, 110])) (.cons (.idx (.var 1) (.con (.int 0))) (.cons (.fld (.var 0) .scene) .nil)))))
  (.cons (.ret (.con (.bl false)))
  .nil)) .nil)
  (.cons (.setF (.var 0) .scene (.var 2))
  (.cons (.setF (.var 0) .doings (.bin .Add (.fld (.var 0) .doings) (.con (.int 1))))
  (.cons (.setF (.var 0) .at_ (.bin .Add (.fld (.var 0) .at_) (.con (.int 1))))
  (.cons (.ret (.con (.bl true)))
  .nil))))))))))
def B_run_of : Ss := (.cons (.asg 2 (.make .Run_init (.cons (.var 0) (.cons (.var 1) .nil))))
  (.cons (.whl (.cmp .Is (.fld (.var 2) .outcome) (.con .non)) (.cons (.ex (.meth .Run_step (.var 2)))
  .nil))
  (.cons (.ret (.var 2))
  .nil)))
def B_ran : Ss := (.cons (.ex (.call .need_program (.cons (.var 0) .nil)))
  (.cons (.ex (.call .need_scene (.cons (.var 1) .nil)))
  (.cons (.ret (.fld (.call .run_of (.cons (.var 0) (.cons (.var 1) .nil))) .outcome))
  .nil)))
def B_ring : Ss := (.cons (.ex (.call .need_program (.cons (.var 0) .nil)))
  (.cons (.ex (.call .need_scene (.cons (.var 1) .nil)))
  (.cons (.ret (.fld (.call .run_of (.cons (.var 0) (.cons (.var 1) .nil))) .around))
  .nil)))
def B_passed : Ss := (.cons (.ex (.call .need_program (.cons (.var 0) .nil)))
  (.cons (.ex (.call .need_scene (.cons (.var 1) .nil)))
  (.cons (.ifs (.not (.chain .LtE .LtE (.con (.int 0)) (.var 2) (.glo .MOST_DOINGS))) (.cons (.raise .BadNumber (.con (.str [110, 111, 32, 115, 117, 99, 104, 32, 110, 117, 109, 98, 101, 114, 32, 111, 102, 32, 100, 111, 105, 110, 103, 115])))
  .nil) .nil)
  (.cons (.asg 3 (.make .Run_init (.cons (.var 0) (.cons (.var 1) .nil))))
  (.cons (.asg 4 (.ref (.lst .nil)))
  (.cons (.whl (.cmp .Lt (.blt .len (.cons (.var 4) .nil)) (.var 2)) (.cons (.ifs (.meth .Run_step (.var 3)) (.cons (.ex (.mth .append (.var 4) (.cons (.fld (.var 3) .scene) .nil)))
  .nil) .nil)
  (.cons (.ifs (.and (.cmp .IsNot (.fld (.var 3) .outcome) (.con .non)) (.cmp .NotEq (.fld (.var 3) .outcome) (.tup (.cons (.con (.str [102, 111, 114, 101, 118, 101, 114])) .nil)))) (.cons (.ret (.var 4))
  .nil) .nil)
  (.cons (.ifs (.cmp .IsNot (.fld (.var 3) .outcome) (.con .non)) (.cons (.setF (.var 3) .outcome (.con .non))
  (.cons (.setF (.var 3) .met .dnew)
  (.cons (.ifs (.cmp .Eq (.idx (.fld (.var 3) .around) (.con (.int 1))) (.con (.int 0))) (.cons (.ret (.var 4))
  .nil) .nil)
  .nil))) .nil)
  .nil))))
  (.cons (.ret (.var 4))
  .nil)))))))
def B_law_taken : Ss := (.cons (.ifs (.cmp .Gt (.idx (.var 0) (.con (.int 3))) (.con (.int 0))) (.cons (.asg 2 (.bin .Mod (.idx (.var 0) (.con (.int 3))) (.var 1)))
  (.cons (.setI (.var 0) (.con (.int 3)) (.bin .FloorDiv (.idx (.var 0) (.con (.int 3))) (.var 1)))
  (.cons (.ret (.var 2))
  .nil))) .nil)
  (.cons (.setI (.var 0) (.con (.int 1)) (.bin .Add (.idx (.var 0) (.con (.int 1))) (.con (.int 1))))
  (.cons (.ifs (.cmp .Gt (.idx (.var 0) (.con (.int 1))) (.blt .len (.cons (.idx (.var 0) (.con (.int 0))) .nil))) (.cons (.setI (.var 0) (.con (.int 2)) (.bin .Mod (.bin .Add (.bin .Mult (.idx (.var 0) (.con (.int 2))) (.con (.int 48271))) (.con (.int 11))) (.con (.int 2147483647))))
  (.cons (.ret (.bin .Mod (.bin .FloorDiv (.idx (.var 0) (.con (.int 2))) (.con (.int 7))) (.var 1)))
  .nil)) .nil)
  (.cons (.asg 3 (.idx (.idx (.var 0) (.con (.int 0))) (.bin .Sub (.idx (.var 0) (.con (.int 1))) (.con (.int 1)))))
  (.cons (.setI (.var 0) (.con (.int 2)) (.bin .Mod (.bin .Add (.bin .Add (.bin .Mult (.idx (.var 0) (.con (.int 2))) (.con (.int 48271))) (.var 3)) (.con (.int 11))) (.con (.int 2147483647))))
  (.cons (.ifs (.cmp .GtE (.var 3) (.bin .Pow (.con (.int 10)) (.con (.int 18)))) (.cons (.setI (.var 0) (.con (.int 3)) (.bin .FloorDiv (.var 3) (.var 1)))
  .nil) .nil)
  (.cons (.ret (.bin .Mod (.var 3) (.var 1)))
  .nil)))))))
def B_law_alike : Ss := (.cons (.ifs (.or (.isi (.var 1) [.tuple]) (.isi (.var 1) [.list])) (.cons (.ifs (.or (.cmp .NotEq (.isi (.var 0) [.tuple]) (.isi (.var 1) [.tuple])) (.not (.isi (.var 0) [.tuple, .list]))) (.cons (.ret (.con (.bl false)))
  .nil) .nil)
  (.cons (.ifs (.cmp .NotEq (.blt .len (.cons (.var 0) .nil)) (.blt .len (.cons (.var 1) .nil))) (.cons (.ret (.con (.bl false)))
  .nil) .nil)
  (.cons (.ret (.cmp .Eq (.comp1 2 (.rng (.cons (.blt .len (.cons (.var 1) .nil)) .nil)) (.not (.call .law_alike (.cons (.idx (.var 0) (.var 2)) (.cons (.idx (.var 1) (.var 2)) .nil)))) (.var 2)) (.lst .nil)))
  .nil))) .nil)
  (.cons (.ifs (.or (.cmp .Is (.var 1) (.con .non)) (.cmp .Is (.var 0) (.con .non))) (.cons (.ret (.and (.cmp .Is (.var 1) (.con .non)) (.cmp .Is (.var 0) (.con .non))))
  .nil) .nil)
  (.cons (.ifs (.or (.isi (.var 1) [.bool]) (.isi (.var 0) [.bool])) (.cons (.ret (.and (.isi (.var 1) [.bool]) (.and (.isi (.var 0) [.bool]) (.cmp .Eq (.var 0) (.var 1)))))
  .nil) .nil)
  (.cons (.ifs (.isi (.var 1) [.str]) (.cons (.ret (.and (.isi (.var 0) [.str]) (.cmp .Eq (.var 0) (.var 1))))
  .nil) .nil)
  (.cons (.ret (.and (.isi (.var 0) [.int]) (.cmp .Eq (.var 0) (.var 1))))
  .nil)))))
def B_law_size : Ss := (.cons (.asg 2 (.bin .Add (.con (.int 1)) (.call .law_taken (.cons (.var 0) (.cons (.blt .min2 (.cons (.con (.int 6)) (.cons (.var 1) .nil))) .nil)))))
  (.cons (.ret (.tup (.cons (.var 2) (.cons (.bin .Add (.con (.int 1)) (.call .law_taken (.cons (.var 0) (.cons (.blt .min2 (.cons (.con (.int 6)) (.cons (.bin .FloorDiv (.var 1) (.var 2)) .nil))) .nil)))) .nil))))
  .nil))
def B_law_rows : Ss := (.cons (.asg 2 (.idx (.lst (.cons (.con (.str [46, 46, 46, 46, 46, 111, 111, 35])) (.cons (.con (.str [46, 111, 46, 35])) (.cons (.con (.str [111, 111, 111, 46, 35])) (.cons (.con (.str [46, 46, 46, 46, 46])) .nil))))) (.call .law_taken (.cons (.var 0) (.cons (.con (.int 4)) .nil)))))
  (.cons (.asg 3 (.ref (.lst .nil)))
  (.cons (.for_ 4 (.rng (.cons (.idx (.var 1) (.con (.int 1))) .nil)) (.cons (.ex (.mth .append (.var 3) (.cons (.mth .join (.con (.str [])) (.cons (.comp0 5 (.rng (.cons (.idx (.var 1) (.con (.int 0))) .nil)) (.idx (.var 2) (.call .law_taken (.cons (.var 0) (.cons (.blt .len (.cons (.var 2) .nil)) .nil))))) .nil)) .nil)))
  .nil))
  (.cons (.ret (.blt .tuple (.cons (.var 3) .nil)))
  .nil))))
def B_law_field : Ss := (.cons (.asg 2 (.call .law_rows (.cons (.var 0) (.cons (.var 1) .nil))))
  (.cons (.asg 3 (.ife (.cmp .NotEq (.idx (.idx (.var 2) (.con (.int 0))) (.con (.int 0))) (.con (.str [35]))) (.idx (.var 2) (.con (.int 0))) (.bin .Add (.con (.str [46])) (.slc (.idx (.var 2) (.con (.int 0))) (.con (.int 1)) (.con .non)))))
  (.cons (.ret (.bin .Add (.tup (.cons (.var 3) .nil)) (.slc (.var 2) (.con (.int 1)) (.con .non))))
  .nil)))
def B_law_scene : Ss := (.cons (.asg 2 (.call .law_field (.cons (.var 0) (.cons (.var 1) .nil))))
  (.cons (.asg 3 (.call .law_taken (.cons (.var 0) (.cons (.idx (.var 1) (.con (.int 1))) .nil))))
  (.cons (.asg 4 (.call .law_taken (.cons (.var 0) (.cons (.idx (.var 1) (.con (.int 0))) .nil))))
  (.cons (.ifs (.cmp .Eq (.idx (.idx (.var 2) (.var 3)) (.var 4)) (.con (.str [35]))) (.cons (.unp [3, 4] (.tup (.cons (.con (.int 0)) (.cons (.con (.int 0)) .nil))))
  .nil) (.cons (.ifs (.and (.cmp .Eq (.call .law_taken (.cons (.var 0) (.cons (.con (.int 3)) .nil))) (.con (.int 2))) (.cmp .NotEq (.tup (.cons (.var 3) (.cons (.var 4) .nil))) (.tup (.cons (.con (.int 0)) (.cons (.con (.int 0)) .nil))))) (.cons (.asg 2 (.bin .Add (.tup (.cons (.bin .Add (.con (.str [35])) (.slc (.idx (.var 2) (.con (.int 0))) (.con (.int 1)) (.con .non))) .nil)) (.slc (.var 2) (.con (.int 1)) (.con .non))))
  .nil) .nil)
  .nil))
  (.cons (.ret (.tup (.cons (.var 2) (.cons (.var 3) (.cons (.var 4) (.cons (.call .law_taken (.cons (.var 0) (.cons (.con (.int 4)) .nil))) (.cons (.idx (.lst (.cons (.con (.int 0)) (.cons (.con (.int 1)) (.cons (.call .law_taken (.cons (.var 0) (.cons (.con (.int 37)) .nil))) .nil)))) (.call .law_taken (.cons (.var 0) (.cons (.con (.int 3)) .nil)))) .nil)))))))
  .nil)))))
def B_law_turned : Ss := (.cons (.unp [1, 2, 3, 4, 5] (.var 0))
  (.cons (.asg 6 (.ref (.lst .nil)))
  (.cons (.for_ 7 (.rng (.cons (.blt .len (.cons (.idx (.var 1) (.con (.int 0))) .nil)) .nil)) (.cons (.ex (.mth .append (.var 6) (.cons (.mth .join (.con (.str [])) (.cons (.comp0 8 (.rng (.cons (.blt .len (.cons (.var 1) .nil)) .nil)) (.idx (.idx (.var 1) (.bin .Sub (.bin .Sub (.blt .len (.cons (.var 1) .nil)) (.con (.int 1))) (.var 8))) (.var 7))) .nil)) .nil)))
  .nil))
  (.cons (.ret (.tup (.cons (.blt .tuple (.cons (.var 6) .nil)) (.cons (.var 3) (.cons (.bin .Sub (.bin .Sub (.blt .len (.cons (.var 1) .nil)) (.con (.int 1))) (.var 2)) (.cons (.bin .Mod (.bin .Add (.var 4) (.con (.int 1))) (.con (.int 4))) (.cons (.var 5) .nil)))))))
  .nil))))
def B_law_odd_rows : Ss := (.cons (.asg 2 (.call .law_taken (.cons (.var 0) (.cons (.con (.int 8)) .nil))))
  (.cons (.asg 3 (.call .law_taken (.cons (.var 0) (.cons (.blt .len (.cons (.var 1) .nil)) .nil))))
  (.cons (.asg 4 (.idx (.var 1) (.var 3)))
  (.cons (.asg 5 (.call .law_taken (.cons (.var 0) (.cons (.blt .len (.cons (.var 4) .nil)) .nil))))
  (.cons (.ifs (.cmp .Eq (.var 2) (.con (.int 0))) (.cons (.ret (.idx (.lst (.cons (.tup .nil) (.cons (.tup (.cons (.con (.str [])) .nil)) (.cons (.tup (.cons (.con (.str [])) (.cons (.con (.str [])) .nil))) .nil)))) (.call .law_taken (.cons (.var 0) (.cons (.con (.int 3)) .nil)))))
  .nil) .nil)
  (.cons (.ifs (.cmp .Eq (.var 2) (.con (.int 1))) (.cons (.ret (.slc (.bin .Mult (.var 1) (.con (.int 7))) (.con .non) (.bin .Add (.con (.int 7)) (.call .law_taken (.cons (.var 0) (.cons (.con (.int 2)) .nil))))))
  .nil) .nil)
  (.cons (.ifs (.cmp .Eq (.var 2) (.con (.int 2))) (.cons (.ret (.blt .tuple (.cons (.comp0 6 (.seq (.var 1)) (.slc (.bin .Mult (.var 6) (.con (.int 7))) (.con .non) (.con (.int 7)))) .nil)))
  .nil) .nil)
  (.cons (.ifs (.cmp .Eq (.var 2) (.con (.int 3))) (.cons (.ret (.bin .Add (.var 1) (.tup (.cons (.bin .Add (.idx (.var 1) (.con (.int 0))) (.con (.str [46]))) .nil))))
  .nil) .nil)
  (.cons (.ifs (.cmp .Eq (.var 2) (.con (.int 4))) (.cons (.ret (.bin .Add (.var 1) (.tup (.cons (.slc (.idx (.var 1) (.con (.int 0))) (.con (.int 1)) (.con .non)) .nil))))
  .nil) .nil)
  (.cons (.asg 7 (.idx (.lst (.cons (.con (.str [79])) (.cons (.con (.str [32])) (.cons (.con (.str [120])) (.cons (.con (.str [48])) (.cons (.con (.str [45])) (.cons (.con (.str [44])) (.cons (.con (.str [42])) .nil)))))))) (.call .law_taken (.cons (.var 0) (.cons (.con (.int 7)) .nil)))))
  (.cons (.ret (.bin .Add (.bin .Add (.slc (.var 1) (.con .non) (.var 3)) (.tup (.cons (.bin .Add (.bin .Add (.slc (.var 4) (.con .non) (.var 5)) (.var 7)) (.slc (.var 4) (.bin .Add (.var 5) (.con (.int 1))) (.con .non))) .nil))) (.slc (.var 1) (.bin .Add (.var 3) (.con (.int 1))) (.con .non))))
  .nil)))))))))))
def B_law_odd_scene : Ss := (.cons (.unp [2, 3, 4, 5, 6] (.var 1))
  (.cons (.asg 7 (.call .law_taken (.cons (.var 0) (.cons (.bin .Pow (.con (.int 10)) (.con (.int 6))) .nil))))
  (.cons (.asg 8 (.ref (.lst (.cons (.tup (.cons (.var 2) (.cons (.bin .Add (.blt .len (.cons (.var 2) .nil)) (.var 7)) (.cons (.var 4) (.cons (.var 5) (.cons (.var 6) .nil)))))) (.cons (.tup (.cons (.var 2) (.cons (.bin .Sub (.bin .Sub (.con (.int 0)) (.con (.int 1))) (.var 7)) (.cons (.var 4) (.cons (.var 5) (.cons (.var 6) .nil)))))) .nil)))))
  (.cons (.asg 8 (.ref (.bin .Add (.var 8) (.lst (.cons (.tup (.cons (.var 2) (.cons (.var 3) (.cons (.bin .Add (.blt .len (.cons (.idx (.var 2) (.con (.int 0))) .nil)) (.var 7)) (.cons (.var 5) (.cons (.var 6) .nil)))))) (.cons (.tup (.cons (.var 2) (.cons (.var 3) (.cons (.bin .Sub (.bin .Sub (.con (.int 0)) (.con (.int 1))) (.var 7)) (.cons (.var 5) (.cons (.var 6) .nil)))))) .nil))))))
  (.cons (.asg 8 (.ref (.bin .Add (.var 8) (.lst (.cons (.tup (.cons (.var 2) (.cons (.var 3) (.cons (.var 4) (.cons (.bin .Add (.con (.int 4)) (.var 7)) (.cons (.var 6) .nil)))))) (.cons (.tup (.cons (.var 2) (.cons (.var 3) (.cons (.var 4) (.cons (.bin .Sub (.bin .Sub (.con (.int 0)) (.con (.int 1))) (.var 7)) (.cons (.var 6) .nil)))))) .nil))))))
  (.cons (.asg 8 (.ref (.bin .Add (.var 8) (.lst (.cons (.tup (.cons (.var 2) (.cons (.var 3) (.cons (.var 4) (.cons (.var 5) (.cons (.bin .Add (.con (.int 37)) (.var 7)) .nil)))))) (.cons (.tup (.cons (.var 2) (.cons (.var 3) (.cons (.var 4) (.cons (.var 5) (.cons (.bin .Sub (.bin .Sub (.con (.int 0)) (.con (.int 1))) (.var 7)) .nil)))))) .nil))))))
  (.cons (.asg 9 (.bin .Add (.bin .Add (.slc (.idx (.var 2) (.var 3)) (.con .non) (.var 4)) (.con (.str [35]))) (.slc (.idx (.var 2) (.var 3)) (.bin .Add (.var 4) (.con (.int 1))) (.con .non))))
  (.cons (.ex (.mth .append (.var 8) (.cons (.tup (.cons (.bin .Add (.bin .Add (.slc (.var 2) (.con .non) (.var 3)) (.tup (.cons (.var 9) .nil))) (.slc (.var 2) (.bin .Add (.var 3) (.con (.int 1))) (.con .non))) (.cons (.var 3) (.cons (.var 4) (.cons (.var 5) (.cons (.var 6) .nil)))))) .nil)))
  (.cons (.ex (.mth .append (.var 8) (.cons (.tup (.cons (.call .law_odd_rows (.cons (.var 0) (.cons (.var 2) .nil))) (.cons (.var 3) (.cons (.var 4) (.cons (.var 5) (.cons (.var 6) .nil)))))) .nil)))
  (.cons (.ret (.idx (.var 8) (.call .law_taken (.cons (.var 0) (.cons (.con (.int 10)) .nil)))))
  .nil))))))))))
def B_law_refused_k01 : Ss := (.cons (.try_ .HandError (some 1) (.cons (.ex (.callC 0))
  .nil) (.cons (.asg 2 (.or (.isE 1 .BadNumber) (.or (.isE 1 .BadProgram) (.isE 1 .BadSize))))
  (.cons (.asg 2 (.or (.var 2) (.or (.isE 1 .BadText) (.isE 1 .BadWish))))
  (.cons (.ret (.and (.isE 1 .BadField) (.and (.isE 1 .ValueError) (.not (.var 2)))))
  .nil))))
  (.cons (.ret (.con (.bl false)))
  .nil))
def B_law_k01 : Ss := (.cons (.asg 1 (.ref (.lst (.cons (.var 0) (.cons (.con (.int 0)) (.cons (.con (.int 0)) (.cons (.con (.int 0)) .nil)))))))
  (.cons (.for_ 2 (.rng (.cons (.con (.int 6)) .nil)) (.cons (.asg 3 (.call .law_size (.cons (.var 1) (.cons (.con (.int 36)) .nil))))
  (.cons (.asg 4 (.call .law_field (.cons (.var 1) (.cons (.var 3) .nil))))
  (.cons (.ifs (.not (.call .law_alike (.cons (.call .begun (.cons (.var 4) .nil)) (.cons (.tup (.cons (.var 4) (.cons (.con (.int 0)) (.cons (.con (.int 0)) (.cons (.con (.int 0)) (.cons (.con (.int 0)) .nil)))))) .nil)))) (.cons (.ret (.con (.bl false)))
  .nil) .nil)
  (.cons (.asg 5 (.call .law_scene (.cons (.var 1) (.cons (.var 3) .nil))))
  (.cons (.asg 6 (.var 5))
  (.cons (.for_ 7 (.rng (.cons (.con (.int 4)) .nil)) (.cons (.ifs (.not (.call .law_alike (.cons (.call .turned (.cons (.var 6) .nil)) (.cons (.call .law_turned (.cons (.var 6) .nil)) .nil)))) (.cons (.ret (.con (.bl false)))
  .nil) .nil)
  (.cons (.asg 6 (.call .turned (.cons (.var 6) .nil)))
  .nil)))
  (.cons (.ifs (.not (.call .law_alike (.cons (.var 6) (.cons (.var 5) .nil)))) (.cons (.ret (.con (.bl false)))
  .nil) .nil)
  (.cons (.asg 8 (.idx (.lst (.cons (.call .law_odd_rows (.cons (.var 1) (.cons (.var 4) .nil))) (.cons (.bin .Add (.tup (.cons (.bin .Add (.con (.str [35])) (.slc (.idx (.var 4) (.con (.int 0))) (.con (.int 1)) (.con .non))) .nil)) (.slc (.var 4) (.con (.int 1)) (.con .non))) .nil))) (.call .law_taken (.cons (.var 1) (.cons (.con (.int 2)) .nil)))))
  (.cons (.ifs (.not (.call .law_refused_k01 (.cons (.call .law_begins (.cons (.var 8) .nil)) .nil))) (.cons (.ret (.con (.bl false)))
  .nil) .nil)
  (.cons (.asg 9 (.call .law_odd_scene (.cons (.var 1) (.cons (.var 5) .nil))))
  (.cons (.ifs (.cmp .NotEq (.comp1 10 (.seq (.call .law_works_k01 (.cons (.var 9) .nil))) (.not (.call .law_refused_k01 (.cons (.var 10) .nil))) (.var 10)) (.lst .nil)) (.cons (.ret (.con (.bl false)))
  .nil) .nil)
  .nil))))))))))))
  (.cons (.ret (.con (.bl true)))
  .nil)))
def B_steps_in : Ss := (.cons (.ex (.call .need_program (.cons (.var 0) .nil)))
  (.cons (.ret (.call .count_ (.cons (.var 0) .nil)))
  .nil))
def B_need_size : Ss := (.cons (.ifs (.or (.cmp .Lt (.blt .min1 (.cons (.var 0) .nil)) (.con (.int 1))) (.cmp .Gt (.bin .Mult (.idx (.var 0) (.con (.int 0))) (.idx (.var 0) (.con (.int 1)))) (.var 1))) (.cons (.raise .BadSize (.con (.str [110, 111, 32, 115, 117, 99, 104, 32, 115, 105, 122, 101])))
  .nil) .nil)
  .nil)
def B_need_wish : Ss := (.cons (.ifs (.or (.cmp .NotEq (.blt .lenSet (.cons (.var 0) .nil)) (.blt .len (.cons (.var 0) .nil))) (.cmp .NotEq (.comp1 1 (.seq (.var 0)) (.cmp .NotIn (.var 1) (.glo .WISHES)) (.var 1)) (.lst .nil))) (.cons (.raise .BadWish (.con (.str [110, 111, 32, 119, 105, 115, 104])))
  .nil) .nil)
  .nil)
def B_all_rows : Ss := (.cons (.asg 1 (.lst (.cons (.con (.str [])) .nil)))
  (.cons (.for_ 2 (.rng (.cons (.idx (.var 0) (.con (.int 0))) .nil)) (.cons (.asg 3 (.ref (.lst .nil)))
  (.cons (.for_ 4 (.seq (.var 1)) (.cons (.ex (.mth .extend (.var 3) (.cons (.comp0 5 (.seq (.blt .sorted (.cons (.glo .SIGNS) .nil))) (.bin .Add (.var 4) (.var 5))) .nil)))
  .nil))
  (.cons (.asg 1 (.var 3))
  .nil))))
  (.cons (.asg 6 (.lst (.cons (.tup .nil) .nil)))
  (.cons (.for_ 7 (.rng (.cons (.idx (.var 0) (.con (.int 1))) .nil)) (.cons (.asg 3 (.ref (.lst .nil)))
  (.cons (.for_ 8 (.seq (.var 6)) (.cons (.ex (.mth .extend (.var 3) (.cons (.comp0 4 (.seq (.var 1)) (.bin .Add (.var 8) (.tup (.cons (.var 4) .nil)))) .nil)))
  .nil))
  (.cons (.asg 6 (.var 3))
  .nil))))
  (.cons (.ret (.var 6))
  .nil)))))
def B_all_fields : Ss := (.cons (.ret (.ref (.comp1 1 (.seq (.call .all_rows (.cons (.var 0) .nil))) (.cmp .NotEq (.idx (.idx (.var 1) (.con (.int 0))) (.con (.int 0))) (.glo .WALL)) (.var 1))))
  .nil)
def B_is_kept : Ss := (.cons (.ifs (.cmp .Eq (.var 0) (.con (.str [104, 111, 109, 101]))) (.cons (.ret (.cmp .Eq (.slc (.var 2) (.con (.int 1)) (.con (.int 3))) (.tup (.cons (.con (.int 0)) (.cons (.con (.int 0)) .nil)))))
  .nil) .nil)
  (.cons (.ifs (.cmp .Eq (.var 0) (.con (.str [115, 97, 109, 101]))) (.cons (.ret (.cmp .Eq (.idx (.var 2) (.con (.int 0))) (.var 1)))
  .nil) .nil)
  (.cons (.ifs (.cmp .Eq (.var 0) (.con (.str [99, 108, 101, 97, 114]))) (.cons (.ret (.cmp .NotIn (.glo .STONE) (.idx (.mth .split (.idx (.idx (.var 2) (.con (.int 0))) (.con (.int 0))) (.cons (.glo .WALL) .nil)) (.con (.int 0)))))
  .nil) .nil)
  (.cons (.ifs (.cmp .Eq (.var 0) (.con (.str [115, 116, 117, 99, 107]))) (.cons (.ret (.not (.call .is_so (.cons (.var 2) (.cons (.con (.str [111, 112, 101, 110])) .nil)))))
  .nil) .nil)
  (.cons (.ret (.cmp .Eq (.idx (.var 2) (.con (.int 4))) (.con (.int 0))))
  .nil)))))
def B_keeps : Ss := (.cons (.asg 3 (.fld (.call .run_of (.cons (.var 0) (.cons (.call .begun (.cons (.var 1) .nil)) .nil))) .outcome))
  (.cons (.ifs (.cmp .NotEq (.idx (.var 3) (.con (.int 0))) (.con (.str [100, 111, 110, 101]))) (.cons (.ret (.con (.bl false)))
  .nil) .nil)
  (.cons (.ret (.cmp .Eq (.comp1 4 (.seq (.var 2)) (.not (.call .is_kept (.cons (.var 4) (.cons (.var 1) (.cons (.idx (.var 3) (.con (.int 1))) .nil))))) (.var 4)) (.lst .nil)))
  .nil)))
def B_first_failed : Ss := (.cons (.for_ 3 (.seq (.var 1)) (.cons (.ifs (.not (.call .keeps (.cons (.var 0) (.cons (.var 3) (.cons (.var 2) .nil))))) (.cons (.ret (.var 3))
  .nil) .nil)
  .nil))
  (.cons (.ret (.con .non))
  .nil))
def B_fails : Ss := (.cons (.ex (.call .need_size (.cons (.var 1) (.cons (.glo .MOST_CELLS) .nil))))
  (.cons (.ex (.call .need_program (.cons (.var 0) .nil)))
  (.cons (.ex (.call .need_wish (.cons (.var 2) .nil)))
  (.cons (.ret (.call .first_failed (.cons (.var 0) (.cons (.call .all_fields (.cons (.var 1) .nil)) (.cons (.var 2) .nil)))))
  .nil))))
def B_are_unlike : Ss := (.cons (.ret (.cmp .NotEq (.fld (.call .run_of (.cons (.var 0) (.cons (.var 2) .nil))) .outcome) (.fld (.call .run_of (.cons (.var 1) (.cons (.var 2) .nil))) .outcome)))
  .nil)
def B_parted : Ss := (.cons (.ex (.call .need_size (.cons (.var 2) (.cons (.glo .MOST_CELLS) .nil))))
  (.cons (.ex (.call .need_program (.cons (.var 0) .nil)))
  (.cons (.ex (.call .need_program (.cons (.var 1) .nil)))
  (.cons (.for_ 3 (.seq (.call .all_fields (.cons (.var 2) .nil))) (.cons (.ifs (.call .are_unlike (.cons (.var 0) (.cons (.var 1) (.cons (.call .begun (.cons (.var 3) .nil)) .nil)))) (.cons (.ret (.var 3))
  .nil) .nil)
  .nil))
  (.cons (.ret (.con .non))
  .nil)))))
def B_all_scenes : Ss := (.cons (.asg 1 (.ref (.lst .nil)))
  (.cons (.for_ 2 (.seq (.call .all_rows (.cons (.var 0) .nil))) (.cons (.for_ 3 (.rng (.cons (.bin .Mult (.idx (.var 0) (.con (.int 0))) (.idx (.var 0) (.con (.int 1)))) .nil)) (.cons (.asg 4 (.bin .FloorDiv (.var 3) (.idx (.var 0) (.con (.int 0)))))
  (.cons (.asg 5 (.bin .Mod (.var 3) (.idx (.var 0) (.con (.int 0)))))
  (.cons (.ifs (.cmp .NotEq (.idx (.idx (.var 2) (.var 4)) (.var 5)) (.glo .WALL)) (.cons (.for_ 6 (.rng (.cons (.blt .len (.cons (.glo .STEPS) .nil)) .nil)) (.cons (.ex (.mth .extend (.var 1) (.cons (.comp0 7 (.rng (.cons (.bin .Add (.bin .Mult (.idx (.var 0) (.con (.int 0))) (.idx (.var 0) (.con (.int 1)))) (.con (.int 1))) .nil)) (.tup (.cons (.var 2) (.cons (.var 4) (.cons (.var 5) (.cons (.var 6) (.cons (.var 7) .nil))))))) .nil)))
  .nil))
  .nil) .nil)
  .nil))))
  .nil))
  (.cons (.ret (.var 1))
  .nil)))
def B_everywhere : Ss := (.cons (.ex (.call .need_size (.cons (.var 2) (.cons (.glo .FEW_CELLS) .nil))))
  (.cons (.ex (.call .need_program (.cons (.var 0) .nil)))
  (.cons (.ex (.call .need_program (.cons (.var 1) .nil)))
  (.cons (.for_ 3 (.seq (.call .all_scenes (.cons (.var 2) .nil))) (.cons (.ifs (.call .are_unlike (.cons (.var 0) (.cons (.var 1) (.cons (.var 3) .nil)))) (.cons (.ret (.var 3))
  .nil) .nil)
  .nil))
  (.cons (.ret (.con .non))
  .nil)))))
def B_words_of : Ss := (.cons (.asg 1 (.ref (.lst .nil)))
  (.cons (.for_ 2 (.seq (.var 0)) (.cons (.ex (.mth .extend (.var 1) (.cons (.blt .list (.cons (.slc (.var 2) (.con .non) (.con (.int 2))) .nil)) .nil)))
  (.cons (.for_ 3 (.seq (.slc (.var 2) (.con (.int 2)) (.con .non))) (.cons (.ex (.mth .extend (.var 1) (.cons (.bin .Add (.bin .Add (.lst (.cons (.con (.str [40])) .nil)) (.call .words_of (.cons (.var 3) .nil))) (.lst (.cons (.con (.str [41])) .nil))) .nil)))
  .nil))
  .nil)))
  (.cons (.ret (.var 1))
  .nil)))
def B_text_of : Ss := (.cons (.ret (.mth .join (.con (.str [32])) (.cons (.call .words_of (.cons (.var 0) .nil)) .nil)))
  .nil)
def B_written : Ss := (.cons (.ex (.call .need_program (.cons (.var 0) .nil)))
  (.cons (.ret (.call .text_of (.cons (.var 0) .nil)))
  .nil))
def B_need_long : Ss := (.cons (.ifs (.not (.chain .LtE .LtE (.con (.int 0)) (.var 0) (.glo .MOST_LONG))) (.cons (.raise .BadNumber (.con (.str [110, 111, 32, 115, 117, 99, 104, 32, 110, 117, 109, 98, 101, 114, 32, 111, 102, 32, 115, 116, 101, 112, 115])))
  .nil) .nil)
  .nil)
def B_single : Ss := (.cons (.ifs (.cmp .Eq (.var 0) (.con (.int 1))) (.cons (.asg 2 (.ref (.comp0 3 (.seq (.glo .DOINGS)) (.tup (.cons (.var 3) .nil)))))
  .nil) (.cons (.asg 2 (.ref (.lst .nil)))
  .nil))
  (.cons (.for_ 4 (.seq (.glo .ASKS)) (.cons (.ex (.mth .extend (.var 2) (.cons (.comp0 5 (.seq (.idx (.var 1) (.bin .Sub (.var 0) (.con (.int 1))))) (.tup (.cons (.con (.str [119, 104, 105, 108, 101])) (.cons (.var 4) (.cons (.var 5) .nil))))) .nil)))
  (.cons (.for_ 6 (.rng (.cons (.var 0) .nil)) (.cons (.for_ 5 (.seq (.idx (.var 1) (.var 6))) (.cons (.ex (.mth .extend (.var 2) (.cons (.comp0 7 (.seq (.idx (.var 1) (.bin .Sub (.bin .Sub (.var 0) (.con (.int 1))) (.var 6)))) (.tup (.cons (.con (.str [105, 102])) (.cons (.var 4) (.cons (.var 5) (.cons (.var 7) .nil)))))) .nil)))
  .nil))
  .nil))
  .nil)))
  (.cons (.ret (.var 2))
  .nil)))
def B_all_programs : Ss := (.cons (.asg 1 (.ref (.lst (.cons (.lst (.cons (.tup .nil) .nil)) .nil))))
  (.cons (.asg 2 (.ref (.lst (.cons (.lst .nil) .nil))))
  (.cons (.for_ 3 (.rng (.cons (.con (.int 1)) (.cons (.bin .Add (.var 0) (.con (.int 1))) .nil))) (.cons (.ex (.mth .append (.var 2) (.cons (.call .single (.cons (.var 3) (.cons (.var 1) .nil))) .nil)))
  (.cons (.asg 4 (.ref (.lst .nil)))
  (.cons (.for_ 5 (.rng (.cons (.con (.int 1)) (.cons (.bin .Add (.var 3) (.con (.int 1))) .nil))) (.cons (.for_ 6 (.seq (.idx (.var 2) (.var 5))) (.cons (.ex (.mth .extend (.var 4) (.cons (.comp0 7 (.seq (.idx (.var 1) (.bin .Sub (.var 3) (.var 5)))) (.bin .Add (.tup (.cons (.var 6) .nil)) (.var 7))) .nil)))
  .nil))
  .nil))
  (.cons (.ex (.mth .append (.var 1) (.cons (.var 4) .nil)))
  .nil)))))
  (.cons (.asg 8 (.ref (.lst .nil)))
  (.cons (.for_ 9 (.seq (.var 1)) (.cons (.ex (.mth .extend (.var 8) (.cons (.sortK (.var 9) .text_of) .nil)))
  .nil))
  (.cons (.ret (.var 8))
  .nil))))))
def B_outcomes : Ss := (.cons (.ret (.comp0 2 (.seq (.var 1)) (.fld (.call .run_of (.cons (.var 0) (.cons (.call .begun (.cons (.var 2) .nil)) .nil))) .outcome)))
  .nil)
def B_likest : Ss := (.cons (.ex (.call .need_size (.cons (.var 1) (.cons (.glo .MOST_CELLS) .nil))))
  (.cons (.ex (.call .need_program (.cons (.var 0) .nil)))
  (.cons (.ex (.call .need_long (.cons (.var 2) .nil)))
  (.cons (.asg 3 (.call .all_fields (.cons (.var 1) .nil)))
  (.cons (.asg 4 (.call .outcomes (.cons (.var 0) (.cons (.var 3) .nil))))
  (.cons (.asg 5 (.ref (.lst .nil)))
  (.cons (.for_ 6 (.seq (.call .all_programs (.cons (.var 2) .nil))) (.cons (.ifs (.cmp .Eq (.comp1 7 (.seq (.var 5)) (.cmp .NotEq (.fld (.call .run_of (.cons (.var 6) (.cons (.call .begun (.cons (.idx (.var 3) (.var 7)) .nil)) .nil))) .outcome) (.idx (.var 4) (.var 7))) (.var 7)) (.lst .nil)) (.cons (.asg 8 (.call .outcomes (.cons (.var 6) (.cons (.var 3) .nil))))
  (.cons (.ifs (.cmp .Eq (.var 8) (.var 4)) (.cons (.ret (.tup (.cons (.var 6) (.cons (.ref (.comp0 7 (.seq (.var 5)) (.idx (.var 3) (.var 7)))) .nil))))
  .nil) .nil)
  (.cons (.ex (.mth .append (.var 5) (.cons (.idx (.comp1 7 (.rng (.cons (.blt .len (.cons (.var 3) .nil)) .nil)) (.cmp .NotEq (.idx (.var 8) (.var 7)) (.idx (.var 4) (.var 7))) (.var 7)) (.con (.int 0))) .nil)))
  .nil))) .nil)
  .nil))
  (.cons (.ret (.tup (.cons (.con .non) (.cons (.ref (.comp0 7 (.seq (.var 5)) (.idx (.var 3) (.var 7)))) .nil))))
  .nil))))))))
def B_law_body : Ss := (.cons (.asg 3 (.ref (.lst .nil)))
  (.cons (.for_ 4 (.rng (.cons (.call .law_taken (.cons (.var 0) (.cons (.con (.int 5)) .nil))) .nil)) (.cons (.ifs (.cmp .Gt (.idx (.var 1) (.con (.int 0))) (.con (.int 0))) (.cons (.setI (.var 1) (.con (.int 0)) (.bin .Sub (.idx (.var 1) (.con (.int 0))) (.con (.int 1))))
  (.cons (.ex (.mth .append (.var 3) (.cons (.call .law_step (.cons (.var 0) (.cons (.var 1) (.cons (.var 2) .nil)))) .nil)))
  .nil)) .nil)
  .nil))
  (.cons (.ret (.blt .tuple (.cons (.var 3) .nil)))
  .nil)))
def B_law_step : Ss := (.cons (.asg 3 (.call .law_taken (.cons (.var 0) (.cons (.idx (.lst (.cons (.con (.int 6)) (.cons (.con (.int 12)) .nil))) (.blt .int (.cons (.cmp .Gt (.var 2) (.con (.int 0))) .nil))) .nil))))
  (.cons (.ifs (.cmp .Lt (.var 3) (.con (.int 6))) (.cons (.ret (.tup (.cons (.idx (.lst (.cons (.con (.str [103, 111])) (.cons (.con (.str [103, 111])) (.cons (.con (.str [103, 111])) (.cons (.con (.str [116, 117, 114, 110])) (.cons (.con (.str [116, 97, 107, 101])) (.cons (.con (.str [112, 117, 116])) .nil))))))) (.var 3)) .nil)))
  .nil) .nil)
  (.cons (.asg 4 (.idx (.lst (.cons (.con (.str [111, 112, 101, 110])) (.cons (.con (.str [115, 116, 111, 110, 101])) (.cons (.con (.str [104, 101, 108, 100])) .nil)))) (.call .law_taken (.cons (.var 0) (.cons (.con (.int 3)) .nil)))))
  (.cons (.ifs (.cmp .Lt (.var 3) (.con (.int 9))) (.cons (.ret (.tup (.cons (.con (.str [119, 104, 105, 108, 101])) (.cons (.var 4) (.cons (.call .law_body (.cons (.var 0) (.cons (.var 1) (.cons (.bin .Sub (.var 2) (.con (.int 1))) .nil)))) .nil)))))
  .nil) .nil)
  (.cons (.ret (.tup (.cons (.con (.str [105, 102])) (.cons (.var 4) (.cons (.call .law_body (.cons (.var 0) (.cons (.var 1) (.cons (.bin .Sub (.var 2) (.con (.int 1))) .nil)))) (.cons (.call .law_body (.cons (.var 0) (.cons (.var 1) (.cons (.bin .Sub (.var 2) (.con (.int 1))) .nil)))) .nil))))))
  .nil)))))
def B_law_program_k02 : Ss := (.cons (.asg 2 (.lst (.cons (.tup (.cons (.con (.str [119, 104, 105, 108, 101])) (.cons (.con (.str [115, 116, 111, 110, 101])) (.cons (.tup (.cons (.tup (.cons (.con (.str [116, 97, 107, 101])) .nil)) .nil)) .nil)))) (.cons (.tup (.cons (.con (.str [119, 104, 105, 108, 101])) (.cons (.con (.str [111, 112, 101, 110])) (.cons (.tup (.cons (.tup (.cons (.con (.str [103, 111])) .nil)) .nil)) .nil)))) (.cons (.tup (.cons (.con (.str [105, 102])) (.cons (.con (.str [111, 112, 101, 110])) (.cons (.tup (.cons (.tup (.cons (.con (.str [103, 111])) .nil)) .nil)) (.cons (.tup (.cons (.tup (.cons (.con (.str [116, 117, 114, 110])) .nil)) .nil)) .nil))))) .nil)))))
  (.cons (.asg 2 (.bin .Add (.var 2) (.lst (.cons (.tup (.cons (.con (.str [105, 102])) (.cons (.con (.str [115, 116, 111, 110, 101])) (.cons (.tup (.cons (.tup (.cons (.con (.str [116, 97, 107, 101])) .nil)) .nil)) (.cons (.tup .nil) .nil))))) (.cons (.tup (.cons (.con (.str [105, 102])) (.cons (.con (.str [104, 101, 108, 100])) (.cons (.tup (.cons (.tup (.cons (.con (.str [112, 117, 116])) .nil)) .nil)) (.cons (.tup .nil) .nil))))) (.cons (.tup (.cons (.con (.str [119, 104, 105, 108, 101])) (.cons (.con (.str [104, 101, 108, 100])) (.cons (.tup (.cons (.tup (.cons (.con (.str [103, 111])) .nil)) .nil)) .nil)))) .nil))))))
  (.cons (.asg 3 (.ref (.lst (.cons (.var 1) .nil))))
  (.cons (.ifs (.and (.cmp .Gt (.var 1) (.con (.int 8))) (.cmp .Eq (.call .law_taken (.cons (.var 0) (.cons (.con (.int 2)) .nil))) (.con (.int 1)))) (.cons (.asg 4 (.ref (.lst .nil)))
  (.cons (.for_ 5 (.rng (.cons (.bin .Add (.con (.int 1)) (.call .law_taken (.cons (.var 0) (.cons (.con (.int 4)) .nil)))) .nil)) (.cons (.ex (.mth .append (.var 4) (.cons (.idx (.var 2) (.call .law_taken (.cons (.var 0) (.cons (.con (.int 6)) .nil)))) .nil)))
  .nil))
  (.cons (.asg 6 (.lst (.cons (.tup (.cons (.con (.str [119, 104, 105, 108, 101])) (.cons (.con (.str [111, 112, 101, 110])) (.cons (.blt .tuple (.cons (.var 4) .nil)) .nil)))) (.cons (.tup (.cons (.con (.str [119, 104, 105, 108, 101])) (.cons (.con (.str [115, 116, 111, 110, 101])) (.cons (.blt .tuple (.cons (.var 4) .nil)) .nil)))) .nil))))
  (.cons (.ret (.idx (.lst (.cons (.blt .tuple (.cons (.var 4) .nil)) (.cons (.tup (.cons (.idx (.var 6) (.call .law_taken (.cons (.var 0) (.cons (.con (.int 2)) .nil)))) .nil)) .nil))) (.call .law_taken (.cons (.var 0) (.cons (.con (.int 2)) .nil)))))
  .nil)))) .nil)
  (.cons (.ret (.call .law_body (.cons (.var 0) (.cons (.var 3) (.cons (.idx (.lst (.cons (.con (.int 1)) (.cons (.con (.int 2)) (.cons (.con (.int 4)) .nil)))) (.call .law_taken (.cons (.var 0) (.cons (.con (.int 3)) .nil)))) .nil)))))
  .nil)))))
def B_law_count : Ss := (.cons (.asg 1 (.con (.int 0)))
  (.cons (.for_ 2 (.seq (.var 0)) (.cons (.asg 1 (.bin .Add (.var 1) (.con (.int 1))))
  (.cons (.for_ 3 (.seq (.slc (.var 2) (.con (.int 2)) (.con .non))) (.cons (.asg 1 (.bin .Add (.var 1) (.call .law_count (.cons (.var 3) .nil))))
  .nil))
  .nil)))
  (.cons (.ret (.var 1))
  .nil)))
def B_law_is_program : Ss := (.cons (.ret (.and (.call .law_is_body_k02 (.cons (.var 0) (.cons (.con (.int 0)) .nil))) (.cmp .LtE (.call .law_count (.cons (.var 0) .nil)) (.con (.int 30)))))
  .nil)
def B_law_odd : Ss := (.cons (.asg 1 (.ref (.lst (.cons (.tup (.cons (.con (.str [119, 97, 108, 107])) .nil)) (.cons (.tup (.cons (.con (.str [])) .nil)) (.cons (.tup (.cons (.con (.str [103, 111])) (.cons (.con (.str [111, 112, 101, 110])) .nil))) (.cons (.tup (.cons (.con (.str [116, 117, 114, 110])) (.cons (.tup .nil) .nil))) (.cons (.tup (.cons (.con (.str [112, 117, 116])) (.cons (.con (.str [120])) .nil))) (.cons (.tup (.cons (.con (.str [105, 102])) (.cons (.con (.str [111, 112, 101, 110])) (.cons (.tup .nil) .nil)))) (.cons (.tup (.cons (.con (.str [119, 104, 105, 108, 101])) (.cons (.con (.str [111, 112, 101, 110])) (.cons (.tup .nil) (.cons (.tup .nil) .nil))))) .nil))))))))))
  (.cons (.asg 1 (.ref (.bin .Add (.var 1) (.lst (.cons (.tup (.cons (.con (.str [105, 102])) (.cons (.con (.str [119, 97, 108, 108])) (.cons (.tup .nil) (.cons (.tup .nil) .nil))))) (.cons (.tup (.cons (.con (.str [119, 104, 105, 108, 101])) (.cons (.con (.str [])) (.cons (.tup .nil) .nil)))) (.cons (.tup (.cons (.con (.str [119, 104, 105, 108, 101])) (.cons (.con (.str [83, 116, 111, 110, 101])) (.cons (.tup .nil) .nil)))) (.cons (.tup (.cons (.con (.str [105, 102])) .nil)) (.cons (.tup (.cons (.con (.str [119, 104, 105, 108, 101])) .nil)) .nil)))))))))
  (.cons (.asg 1 (.ref (.bin .Add (.var 1) (.lst (.cons (.tup (.cons (.con (.str [105, 102])) (.cons (.con (.str [104, 101, 108, 100])) .nil))) (.cons (.tup (.cons (.con (.str [105, 102])) (.cons (.con (.str [104, 101, 108, 100])) (.cons (.tup .nil) (.cons (.tup .nil) (.cons (.tup .nil) .nil)))))) (.cons (.tup (.cons (.con (.str [119, 104, 105, 108, 101])) (.cons (.con (.str [104, 101, 108, 100])) (.cons (.tup .nil) .nil)))) (.cons (.tup (.cons (.con (.str [105, 102])) (.cons (.con (.str [115, 116, 111, 110, 101])) (.cons (.tup .nil) (.cons (.tup .nil) .nil))))) .nil))))))))
  (.cons (.ex (.mth .append (.var 1) (.cons (.tup (.cons (.con (.str [116, 97, 107, 101])) .nil)) .nil)))
  (.cons (.ret (.idx (.var 1) (.call .law_taken (.cons (.var 0) (.cons (.con (.int 17)) .nil)))))
  .nil)))))
def B_law_around_k02 : Ss := (.cons (.for_ 3 (.rng (.cons (.var 2) .nil)) (.cons (.asg 4 (.lst (.cons (.tup (.cons (.con (.str [119, 104, 105, 108, 101])) (.cons (.con (.str [104, 101, 108, 100])) (.cons (.tup (.cons (.var 1) .nil)) .nil)))) (.cons (.tup (.cons (.con (.str [105, 102])) (.cons (.con (.str [111, 112, 101, 110])) (.cons (.tup (.cons (.var 1) .nil)) (.cons (.tup .nil) .nil))))) (.cons (.tup (.cons (.con (.str [105, 102])) (.cons (.con (.str [115, 116, 111, 110, 101])) (.cons (.tup (.cons (.tup (.cons (.con (.str [103, 111])) .nil)) .nil)) (.cons (.tup (.cons (.var 1) .nil)) .nil))))) .nil)))))
  (.cons (.asg 1 (.idx (.var 4) (.call .law_taken (.cons (.var 0) (.cons (.con (.int 3)) .nil)))))
  .nil)))
  (.cons (.ret (.var 1))
  .nil))
def B_law_spoilt : Ss := (.cons (.asg 2 (.call .law_taken (.cons (.var 0) (.cons (.bin .Add (.blt .len (.cons (.var 1) .nil)) (.con (.int 1))) .nil))))
  (.cons (.asg 3 (.call .law_taken (.cons (.var 0) (.cons (.con (.int 4)) .nil))))
  (.cons (.asg 4 (.tup (.cons (.con (.str [116, 117, 114, 110])) .nil)))
  (.cons (.ifs (.cmp .Eq (.var 3) (.con (.int 0))) (.cons (.ret (.bin .Add (.bin .Mult (.tup (.cons (.var 4) .nil)) (.bin .Add (.con (.int 27)) (.call .law_taken (.cons (.var 0) (.cons (.con (.int 3)) .nil))))) (.tup (.cons (.tup (.cons (.con (.str [119, 104, 105, 108, 101])) (.cons (.con (.str [104, 101, 108, 100])) (.cons (.bin .Mult (.tup (.cons (.var 4) .nil)) (.bin .Add (.con (.int 1)) (.call .law_taken (.cons (.var 0) (.cons (.con (.int 3)) .nil))))) .nil)))) .nil))))
  .nil) .nil)
  (.cons (.ifs (.cmp .Eq (.var 3) (.con (.int 1))) (.cons (.ret (.bin .Add (.slc (.slc (.var 1) (.con .non) (.var 2)) (.con .non) (.con (.int 4))) (.tup (.cons (.call .law_around_k02 (.cons (.var 0) (.cons (.var 4) (.cons (.bin .Add (.con (.int 3)) (.call .law_taken (.cons (.var 0) (.cons (.con (.int 4)) .nil)))) .nil)))) .nil))))
  .nil) .nil)
  (.cons (.ret (.bin .Add (.bin .Add (.slc (.var 1) (.con .non) (.var 2)) (.tup (.cons (.call .law_around_k02 (.cons (.var 0) (.cons (.call .law_odd (.cons (.var 0) .nil)) (.cons (.call .law_taken (.cons (.var 0) (.cons (.con (.int 4)) .nil))) .nil)))) .nil))) (.slc (.var 1) (.var 2) (.con .non))))
  .nil))))))
def B_law_word_k02 : Ss := (.cons (.try_ .HandError (some 1) (.cons (.ex (.callC 0))
  .nil) (.cons (.asg 2 (.lst (.cons (.isE 1 .BadProgram) (.cons (.isE 1 .BadSize) (.cons (.isE 1 .BadField) (.cons (.isE 1 .BadNumber) .nil))))))
  (.cons (.asg 2 (.bin .Add (.var 2) (.lst (.cons (.isE 1 .BadText) (.cons (.isE 1 .BadWish) .nil)))))
  (.cons (.ifs (.or (.cmp .NotEq (.mth .count (.var 2) (.cons (.con (.bl true)) .nil)) (.con (.int 1))) (.not (.isE 1 .ValueError))) (.cons (.ret (.con (.str [111, 116, 104, 101, 114])))
  .nil) .nil)
  (.cons (.ret (.idx (.lst (.cons (.con (.str [112, 114, 111, 103, 114, 97, 109])) (.cons (.con (.str [115, 105, 122, 101])) (.cons (.con (.str [111, 116, 104, 101, 114])) (.cons (.con (.str [111, 116, 104, 101, 114])) (.cons (.con (.str [111, 116, 104, 101, 114])) (.cons (.con (.str [111, 116, 104, 101, 114])) .nil))))))) (.mth .index (.var 2) (.cons (.con (.bl true)) .nil))))
  .nil)))))
  (.cons (.ret (.con .non))
  .nil))
def B_law_k02 : Ss := (.cons (.asg 1 (.ref (.lst (.cons (.var 0) (.cons (.con (.int 0)) (.cons (.con (.int 0)) (.cons (.con (.int 0)) .nil)))))))
  (.cons (.for_ 2 (.rng (.cons (.con (.int 6)) .nil)) (.cons (.asg 3 (.call .law_program_k02 (.cons (.var 1) (.cons (.con (.int 30)) .nil))))
  (.cons (.ifs (.cmp .Gt (.call .law_taken (.cons (.var 1) (.cons (.con (.int 6)) .nil))) (.con (.int 0))) (.cons (.asg 3 (.call .law_spoilt (.cons (.var 1) (.cons (.var 3) .nil))))
  .nil) .nil)
  (.cons (.asg 4 (.call .law_is_program (.cons (.var 3) .nil)))
  (.cons (.asg 5 (.idx (.lst (.cons (.con .non) (.cons (.con (.str [112, 114, 111, 103, 114, 97, 109])) .nil))) (.blt .int (.cons (.not (.var 4)) .nil))))
  (.cons (.ifs (.cmp .NotEq (.comp1 6 (.seq (.call .law_works_k02 (.cons (.var 3) (.cons (.blt .int (.cons (.not (.var 4)) .nil)) .nil)))) (.cmp .NotEq (.call .law_word_k02 (.cons (.var 6) .nil)) (.var 5)) (.var 6)) (.lst .nil)) (.cons (.ret (.con (.bl false)))
  .nil) .nil)
  (.cons (.ifs (.and (.var 4) (.cmp .NotEq (.call .steps_in (.cons (.var 3) .nil)) (.call .law_count (.cons (.var 3) .nil)))) (.cons (.ret (.con (.bl false)))
  .nil) .nil)
  (.cons (.ifs (.cmp .NotEq (.comp1 6 (.seq (.call .law_sizes (.cons (.var 3) .nil))) (.cmp .NotEq (.call .law_word_k02 (.cons (.var 6) .nil)) (.con (.str [115, 105, 122, 101]))) (.var 6)) (.lst .nil)) (.cons (.ret (.con (.bl false)))
  .nil) .nil)
  .nil))))))))
  (.cons (.ret (.con (.bl true)))
  .nil)))
def B_law_ahead : Ss := (.cons (.unp [1, 2, 3, 4, 5] (.var 0))
  (.cons (.asg 2 (.bin .Add (.var 2) (.idx (.lst (.cons (.con (.int 0)) (.cons (.con (.int 1)) (.cons (.con (.int 0)) (.cons (.bin .Sub (.con (.int 0)) (.con (.int 1))) .nil))))) (.var 4))))
  (.cons (.asg 3 (.bin .Add (.var 3) (.idx (.lst (.cons (.con (.int 1)) (.cons (.con (.int 0)) (.cons (.bin .Sub (.con (.int 0)) (.con (.int 1))) (.cons (.con (.int 0)) .nil))))) (.var 4))))
  (.cons (.ifs (.or (.cmp .Lt (.var 2) (.con (.int 0))) (.or (.cmp .Lt (.var 3) (.con (.int 0))) (.cmp .In (.slc (.idx (.bin .Add (.slc (.var 1) (.var 2) (.bin .Add (.var 2) (.con (.int 1)))) (.tup (.cons (.con (.str [])) .nil))) (.con (.int 0))) (.var 3) (.bin .Add (.var 3) (.con (.int 1)))) (.tup (.cons (.con (.str [])) (.cons (.con (.str [35])) .nil)))))) (.cons (.ret (.con .non))
  .nil) .nil)
  (.cons (.ret (.tup (.cons (.var 2) (.cons (.var 3) .nil))))
  .nil)))))
def B_law_so : Ss := (.cons (.ifs (.cmp .Eq (.var 1) (.con (.str [111, 112, 101, 110]))) (.cons (.ret (.cmp .IsNot (.call .law_ahead (.cons (.var 0) .nil)) (.con .non)))
  .nil) .nil)
  (.cons (.ret (.idx (.lst (.cons (.cmp .Gt (.idx (.var 0) (.con (.int 4))) (.con (.int 0))) (.cons (.cmp .Eq (.idx (.idx (.idx (.var 0) (.con (.int 0))) (.idx (.var 0) (.con (.int 1)))) (.idx (.var 0) (.con (.int 2)))) (.con (.str [111]))) .nil))) (.blt .int (.cons (.cmp .Eq (.var 1) (.con (.str [115, 116, 111, 110, 101]))) .nil))))
  .nil))
def B_law_done_k03 : Ss := (.cons (.unp [2, 3, 4, 5, 6] (.var 0))
  (.cons (.ifs (.cmp .Eq (.var 1) (.con (.str [116, 117, 114, 110]))) (.cons (.ret (.tup (.cons (.var 2) (.cons (.var 3) (.cons (.var 4) (.cons (.bin .Mod (.bin .Add (.var 5) (.con (.int 1))) (.con (.int 4))) (.cons (.var 6) .nil)))))))
  .nil) .nil)
  (.cons (.ifs (.cmp .Eq (.var 1) (.con (.str [103, 111]))) (.cons (.asg 7 (.call .law_ahead (.cons (.var 0) .nil)))
  (.cons (.ifs (.cmp .Is (.var 7) (.con .non)) (.cons (.ret (.con .non))
  .nil) .nil)
  (.cons (.ret (.tup (.cons (.var 2) (.cons (.idx (.var 7) (.con (.int 0))) (.cons (.idx (.var 7) (.con (.int 1))) (.cons (.var 5) (.cons (.var 6) .nil)))))))
  .nil))) .nil)
  (.cons (.asg 8 (.cmp .Eq (.idx (.idx (.var 2) (.var 3)) (.var 4)) (.con (.str [111]))))
  (.cons (.ifs (.or (.cmp .NotEq (.var 8) (.cmp .Eq (.var 1) (.con (.str [116, 97, 107, 101])))) (.and (.cmp .Eq (.var 1) (.con (.str [112, 117, 116]))) (.cmp .Eq (.var 6) (.con (.int 0))))) (.cons (.ret (.con .non))
  .nil) .nil)
  (.cons (.asg 9 (.bin .Add (.bin .Add (.slc (.idx (.var 2) (.var 3)) (.con .non) (.var 4)) (.idx (.lst (.cons (.con (.str [46])) (.cons (.con (.str [111])) .nil))) (.blt .int (.cons (.cmp .Eq (.var 1) (.con (.str [112, 117, 116]))) .nil)))) (.slc (.idx (.var 2) (.var 3)) (.bin .Add (.var 4) (.con (.int 1))) (.con .non))))
  (.cons (.asg 6 (.bin .Add (.var 6) (.idx (.lst (.cons (.bin .Sub (.con (.int 0)) (.con (.int 1))) (.cons (.con (.int 1)) .nil))) (.blt .int (.cons (.cmp .Eq (.var 1) (.con (.str [116, 97, 107, 101]))) .nil)))))
  (.cons (.ret (.tup (.cons (.bin .Add (.bin .Add (.slc (.var 2) (.con .non) (.var 3)) (.tup (.cons (.var 9) .nil))) (.slc (.var 2) (.bin .Add (.var 3) (.con (.int 1))) (.con .non))) (.cons (.var 3) (.cons (.var 4) (.cons (.var 5) (.cons (.var 6) .nil)))))))
  .nil))))))))
def B_law_walked_k03 : Ss := (.cons (.for_ 2 (.seq (.var 0)) (.cons (.asg 3 (.call .law_stepped_k03 (.cons (.var 2) (.cons (.var 1) .nil))))
  (.cons (.ifs (.cmp .NotEq (.idx (.var 3) (.con (.int 0))) (.con (.str [100, 111, 110, 101]))) (.cons (.ret (.var 3))
  .nil) .nil)
  (.cons (.asg 1 (.idx (.var 3) (.con (.int 1))))
  .nil))))
  (.cons (.ret (.tup (.cons (.con (.str [100, 111, 110, 101])) (.cons (.var 1) .nil))))
  .nil))
def B_law_stepped_k03 : Ss := (.cons (.ifs (.cmp .Eq (.idx (.var 0) (.con (.int 0))) (.con (.str [105, 102]))) (.cons (.ret (.call .law_walked_k03 (.cons (.idx (.var 0) (.bin .Sub (.con (.int 3)) (.blt .int (.cons (.call .law_so (.cons (.var 1) (.cons (.idx (.var 0) (.con (.int 1))) .nil))) .nil)))) (.cons (.var 1) .nil))))
  .nil) .nil)
  (.cons (.ifs (.cmp .NotEq (.idx (.var 0) (.con (.int 0))) (.con (.str [119, 104, 105, 108, 101]))) (.cons (.asg 2 (.call .law_done_k03 (.cons (.var 1) (.cons (.idx (.var 0) (.con (.int 0))) .nil))))
  (.cons (.ret (.ife (.cmp .Is (.var 2) (.con .non)) (.tup (.cons (.con (.str [98, 114, 111, 107, 101, 110])) (.cons (.idx (.var 0) (.con (.int 0))) (.cons (.var 1) .nil)))) (.tup (.cons (.con (.str [100, 111, 110, 101])) (.cons (.var 2) .nil)))))
  .nil)) .nil)
  (.cons (.asg 3 .dnew)
  (.cons (.whl (.call .law_so (.cons (.var 1) (.cons (.idx (.var 0) (.con (.int 1))) .nil))) (.cons (.ifs (.cmp .In (.var 1) (.var 3)) (.cons (.ret (.tup (.cons (.con (.str [102, 111, 114, 101, 118, 101, 114])) .nil)))
  .nil) .nil)
  (.cons (.setI (.var 3) (.var 1) (.con (.bl true)))
  (.cons (.asg 4 (.call .law_walked_k03 (.cons (.idx (.var 0) (.con (.int 2))) (.cons (.var 1) .nil))))
  (.cons (.ifs (.cmp .NotEq (.idx (.var 4) (.con (.int 0))) (.con (.str [100, 111, 110, 101]))) (.cons (.ret (.var 4))
  .nil) .nil)
  (.cons (.asg 1 (.idx (.var 4) (.con (.int 1))))
  .nil))))))
  (.cons (.ret (.tup (.cons (.con (.str [100, 111, 110, 101])) (.cons (.var 1) .nil))))
  .nil)))))
def B_law_refused_k03 : Ss := (.cons (.try_ .BadNumber (some 3) (.cons (.ex (.call .passed (.cons (.var 0) (.cons (.var 1) (.cons (.var 2) .nil)))))
  .nil) (.cons (.ret (.isE 3 .ValueError))
  .nil))
  (.cons (.ret (.con (.bl false)))
  .nil))
def B_law_k03 : Ss := (.cons (.asg 1 (.ref (.lst (.cons (.var 0) (.cons (.con (.int 0)) (.cons (.con (.int 0)) (.cons (.con (.int 0)) .nil)))))))
  (.cons (.for_ 2 (.rng (.cons (.con (.int 4)) .nil)) (.cons (.asg 3 (.call .law_scene (.cons (.var 1) (.cons (.call .law_size (.cons (.var 1) (.cons (.con (.int 36)) .nil))) .nil))))
  (.cons (.asg 4 (.ref (.lst .nil)))
  (.cons (.for_ 5 (.rng (.cons (.call .law_taken (.cons (.var 1) (.cons (.con (.int 25)) .nil))) .nil)) (.cons (.ex (.mth .append (.var 4) (.cons (.idx (.lst (.cons (.con (.str [103, 111])) (.cons (.con (.str [116, 117, 114, 110])) (.cons (.con (.str [116, 97, 107, 101])) (.cons (.con (.str [112, 117, 116])) (.cons (.con (.str [103, 111])) (.cons (.con (.str [116, 117, 114, 110])) .nil))))))) (.call .law_taken (.cons (.var 1) (.cons (.con (.int 6)) .nil)))) .nil)))
  .nil))
  (.cons (.asg 6 (.blt .tuple (.cons (.comp0 7 (.seq (.var 4)) (.tup (.cons (.var 7) .nil))) .nil)))
  (.cons (.asg 8 (.ref (.lst .nil)))
  (.cons (.asg 9 (.con .non))
  (.cons (.asg 10 (.var 3))
  (.cons (.for_ 7 (.seq (.var 4)) (.cons (.asg 11 (.call .law_done_k03 (.cons (.var 10) (.cons (.var 7) .nil))))
  (.cons (.ifs (.and (.cmp .Is (.var 9) (.con .non)) (.cmp .Is (.var 11) (.con .non))) (.cons (.asg 9 (.tup (.cons (.con (.str [98, 114, 111, 107, 101, 110])) (.cons (.var 7) (.cons (.var 10) .nil)))))
  .nil) .nil)
  (.cons (.ifs (.cmp .Is (.var 9) (.con .non)) (.cons (.asg 10 (.var 11))
  (.cons (.ex (.mth .append (.var 8) (.cons (.var 10) .nil)))
  .nil)) .nil)
  .nil))))
  (.cons (.ifs (.cmp .Is (.var 9) (.con .non)) (.cons (.asg 9 (.tup (.cons (.con (.str [100, 111, 110, 101])) (.cons (.var 10) .nil))))
  .nil) .nil)
  (.cons (.asg 12 (.call .law_taken (.cons (.var 1) (.cons (.con (.int 30)) .nil))))
  (.cons (.for_ 13 (.rng (.cons (.con (.int 2)) .nil)) (.cons (.asg 14 (.call .passed (.cons (.var 6) (.cons (.var 3) (.cons (.var 12) .nil)))))
  (.cons (.ifs (.or (.not (.call .law_alike (.cons (.var 14) (.cons (.slc (.var 8) (.con .non) (.var 12)) .nil)))) (.not (.call .law_alike (.cons (.call .ran (.cons (.var 6) (.cons (.var 3) .nil))) (.cons (.var 9) .nil))))) (.cons (.ret (.con (.bl false)))
  .nil) .nil)
  (.cons (.ex (.mth .append (.var 14) (.cons (.con (.int 7)) .nil)))
  .nil))))
  (.cons (.ifs (.not (.call .law_alike (.cons (.call .passed (.cons (.var 6) (.cons (.var 3) (.cons (.con (.int 1000)) .nil)))) (.cons (.var 8) .nil)))) (.cons (.ret (.con (.bl false)))
  .nil) .nil)
  (.cons (.asg 15 (.idx (.lst (.cons (.bin .Sub (.con (.int 0)) (.con (.int 1))) (.cons (.con (.int 1001)) (.cons (.bin .Add (.con (.int 1001)) (.call .law_taken (.cons (.var 1) (.cons (.bin .Pow (.con (.int 10)) (.con (.int 6))) .nil)))) (.cons (.bin .Sub (.bin .Sub (.con (.int 0)) (.con (.int 1))) (.call .law_taken (.cons (.var 1) (.cons (.bin .Pow (.con (.int 10)) (.con (.int 6))) .nil)))) .nil))))) (.call .law_taken (.cons (.var 1) (.cons (.con (.int 4)) .nil)))))
  (.cons (.ifs (.or (.cmp .IsNot (.call .ring (.cons (.var 6) (.cons (.var 3) .nil))) (.con .non)) (.not (.call .law_refused_k03 (.cons (.var 6) (.cons (.var 3) (.cons (.var 15) .nil)))))) (.cons (.ret (.con (.bl false)))
  .nil) .nil)
  .nil)))))))))))))))
  (.cons (.ret (.con (.bl true)))
  .nil)))
def B_law_program_k04 : Ss := (.cons (.asg 2 (.lst (.cons (.tup (.cons (.con (.str [119, 104, 105, 108, 101])) (.cons (.con (.str [115, 116, 111, 110, 101])) (.cons (.tup (.cons (.tup (.cons (.con (.str [116, 97, 107, 101])) .nil)) .nil)) .nil)))) (.cons (.tup (.cons (.con (.str [119, 104, 105, 108, 101])) (.cons (.con (.str [111, 112, 101, 110])) (.cons (.tup (.cons (.tup (.cons (.con (.str [103, 111])) .nil)) .nil)) .nil)))) (.cons (.tup (.cons (.con (.str [105, 102])) (.cons (.con (.str [111, 112, 101, 110])) (.cons (.tup (.cons (.tup (.cons (.con (.str [103, 111])) .nil)) .nil)) (.cons (.tup (.cons (.tup (.cons (.con (.str [116, 117, 114, 110])) .nil)) .nil)) .nil))))) .nil)))))
  (.cons (.asg 2 (.bin .Add (.var 2) (.lst (.cons (.tup (.cons (.con (.str [105, 102])) (.cons (.con (.str [115, 116, 111, 110, 101])) (.cons (.tup (.cons (.tup (.cons (.con (.str [116, 97, 107, 101])) .nil)) .nil)) (.cons (.tup .nil) .nil))))) (.cons (.tup (.cons (.con (.str [105, 102])) (.cons (.con (.str [104, 101, 108, 100])) (.cons (.tup (.cons (.tup (.cons (.con (.str [112, 117, 116])) .nil)) .nil)) (.cons (.tup .nil) .nil))))) (.cons (.tup (.cons (.con (.str [119, 104, 105, 108, 101])) (.cons (.con (.str [104, 101, 108, 100])) (.cons (.tup (.cons (.tup (.cons (.con (.str [103, 111])) .nil)) .nil)) .nil)))) .nil))))))
  (.cons (.asg 3 (.ref (.lst (.cons (.var 1) .nil))))
  (.cons (.ifs (.and (.cmp .Gt (.var 1) (.con (.int 8))) (.cmp .Eq (.call .law_taken (.cons (.var 0) (.cons (.con (.int 2)) .nil))) (.con (.int 1)))) (.cons (.asg 4 (.ref (.lst .nil)))
  (.cons (.for_ 5 (.rng (.cons (.bin .Add (.con (.int 1)) (.call .law_taken (.cons (.var 0) (.cons (.con (.int 4)) .nil)))) .nil)) (.cons (.ex (.mth .append (.var 4) (.cons (.idx (.var 2) (.call .law_taken (.cons (.var 0) (.cons (.con (.int 6)) .nil)))) .nil)))
  .nil))
  (.cons (.asg 6 (.lst (.cons (.tup (.cons (.con (.str [119, 104, 105, 108, 101])) (.cons (.con (.str [111, 112, 101, 110])) (.cons (.blt .tuple (.cons (.var 4) .nil)) .nil)))) (.cons (.tup (.cons (.con (.str [119, 104, 105, 108, 101])) (.cons (.con (.str [115, 116, 111, 110, 101])) (.cons (.blt .tuple (.cons (.var 4) .nil)) .nil)))) .nil))))
  (.cons (.ret (.idx (.lst (.cons (.blt .tuple (.cons (.var 4) .nil)) (.cons (.tup (.cons (.idx (.var 6) (.call .law_taken (.cons (.var 0) (.cons (.con (.int 2)) .nil)))) .nil)) .nil))) (.call .law_taken (.cons (.var 0) (.cons (.con (.int 2)) .nil)))))
  .nil)))) .nil)
  (.cons (.ret (.call .law_body (.cons (.var 0) (.cons (.var 3) (.cons (.idx (.lst (.cons (.con (.int 1)) (.cons (.con (.int 2)) (.cons (.con (.int 4)) .nil)))) (.call .law_taken (.cons (.var 0) (.cons (.con (.int 3)) .nil)))) .nil)))))
  .nil)))))
def B_law_walked_k04 : Ss := (.cons (.for_ 2 (.seq (.var 0)) (.cons (.asg 3 (.call .law_stepped_k04 (.cons (.var 2) (.cons (.var 1) .nil))))
  (.cons (.ifs (.cmp .NotEq (.idx (.var 3) (.con (.int 0))) (.con (.str [100, 111, 110, 101]))) (.cons (.ret (.var 3))
  .nil) .nil)
  (.cons (.asg 1 (.idx (.var 3) (.con (.int 1))))
  .nil))))
  (.cons (.ret (.tup (.cons (.con (.str [100, 111, 110, 101])) (.cons (.var 1) .nil))))
  .nil))
def B_law_stepped_k04 : Ss := (.cons (.ifs (.cmp .Eq (.idx (.var 0) (.con (.int 0))) (.con (.str [105, 102]))) (.cons (.ret (.call .law_walked_k04 (.cons (.idx (.var 0) (.bin .Sub (.con (.int 3)) (.blt .int (.cons (.call .law_so (.cons (.var 1) (.cons (.idx (.var 0) (.con (.int 1))) .nil))) .nil)))) (.cons (.var 1) .nil))))
  .nil) .nil)
  (.cons (.ifs (.cmp .NotEq (.idx (.var 0) (.con (.int 0))) (.con (.str [119, 104, 105, 108, 101]))) (.cons (.asg 2 (.call .law_done_k03 (.cons (.var 1) (.cons (.idx (.var 0) (.con (.int 0))) .nil))))
  (.cons (.ret (.ife (.cmp .Is (.var 2) (.con .non)) (.tup (.cons (.con (.str [98, 114, 111, 107, 101, 110])) (.cons (.idx (.var 0) (.con (.int 0))) (.cons (.var 1) .nil)))) (.tup (.cons (.con (.str [100, 111, 110, 101])) (.cons (.var 2) .nil)))))
  .nil)) .nil)
  (.cons (.asg 3 .dnew)
  (.cons (.whl (.call .law_so (.cons (.var 1) (.cons (.idx (.var 0) (.con (.int 1))) .nil))) (.cons (.ifs (.cmp .In (.var 1) (.var 3)) (.cons (.ret (.tup (.cons (.con (.str [102, 111, 114, 101, 118, 101, 114])) .nil)))
  .nil) .nil)
  (.cons (.setI (.var 3) (.var 1) (.con (.bl true)))
  (.cons (.asg 4 (.call .law_walked_k04 (.cons (.idx (.var 0) (.con (.int 2))) (.cons (.var 1) .nil))))
  (.cons (.ifs (.cmp .NotEq (.idx (.var 4) (.con (.int 0))) (.con (.str [100, 111, 110, 101]))) (.cons (.ret (.var 4))
  .nil) .nil)
  (.cons (.asg 1 (.idx (.var 4) (.con (.int 1))))
  .nil))))))
  (.cons (.ret (.tup (.cons (.con (.str [100, 111, 110, 101])) (.cons (.var 1) .nil))))
  .nil)))))
def B_law_has : Ss := (.cons (.for_ 2 (.seq (.var 0)) (.cons (.ifs (.or (.cmp .Eq (.idx (.var 2) (.con (.int 0))) (.var 1)) (.cmp .NotEq (.comp1 3 (.seq (.slc (.var 2) (.con (.int 2)) (.con .non))) (.call .law_has (.cons (.var 3) (.cons (.var 1) .nil))) (.var 3)) (.lst .nil))) (.cons (.ret (.con (.bl true)))
  .nil) .nil)
  .nil))
  (.cons (.ret (.con (.bl false)))
  .nil))
def B_law_cells : Ss := (.cons (.ret (.idx (.lst (.cons (.con (.int 36)) (.cons (.con (.int 9)) .nil))) (.blt .int (.cons (.and (.call .law_has (.cons (.var 0) (.cons (.con (.str [116, 97, 107, 101])) .nil))) (.call .law_has (.cons (.var 0) (.cons (.con (.str [112, 117, 116])) .nil)))) .nil))))
  .nil)
def B_law_k04 : Ss := (.cons (.asg 1 (.ref (.lst (.cons (.var 0) (.cons (.con (.int 0)) (.cons (.con (.int 0)) (.cons (.con (.int 0)) .nil)))))))
  (.cons (.for_ 2 (.rng (.cons (.con (.int 4)) .nil)) (.cons (.asg 3 (.call .law_program_k04 (.cons (.var 1) (.cons (.con (.int 30)) .nil))))
  (.cons (.for_ 4 (.rng (.cons (.con (.int 2)) .nil)) (.cons (.asg 5 (.call .law_scene (.cons (.var 1) (.cons (.call .law_size (.cons (.var 1) (.cons (.call .law_cells (.cons (.var 3) .nil)) .nil))) .nil))))
  (.cons (.ifs (.not (.call .law_alike (.cons (.call .ran (.cons (.var 3) (.cons (.var 5) .nil))) (.cons (.call .law_walked_k04 (.cons (.var 3) (.cons (.var 5) .nil))) .nil)))) (.cons (.ret (.con (.bl false)))
  .nil) .nil)
  .nil)))
  .nil)))
  (.cons (.ret (.con (.bl true)))
  .nil)))
def B_law_numbered : Ss := (.cons (.asg 2 (.ref (.lst .nil)))
  (.cons (.for_ 3 (.seq (.var 0)) (.cons (.ex (.mth .append (.var 1) (.cons (.con (.int 0)) .nil)))
  (.cons (.asg 4 (.blt .len (.cons (.var 1) .nil)))
  (.cons (.asg 5 (.blt .tuple (.cons (.comp0 6 (.seq (.slc (.var 3) (.con (.int 2)) (.con .non))) (.call .law_numbered (.cons (.var 6) (.cons (.var 1) .nil)))) .nil)))
  (.cons (.ex (.mth .append (.var 2) (.cons (.bin .Add (.bin .Add (.tup (.cons (.var 4) .nil)) (.slc (.var 3) (.con .non) (.con (.int 2)))) (.var 5)) .nil)))
  .nil)))))
  (.cons (.ret (.blt .tuple (.cons (.var 2) .nil)))
  .nil)))
def B_law_at_step : Ss := (.cons (.unp [2, 3] (.slc (.idx (.var 0) (.con (.int 0))) (.con .non) (.con (.int 2))))
  (.cons (.ifs (.cmp .NotIn (.var 3) (.tup (.cons (.con (.str [105, 102])) (.cons (.con (.str [119, 104, 105, 108, 101])) .nil)))) (.cons (.asg 4 (.call .law_done_k03 (.cons (.var 1) (.cons (.var 3) .nil))))
  (.cons (.ret (.ife (.cmp .Is (.var 4) (.con .non)) (.tup (.cons (.con .non) (.cons (.var 1) (.cons (.con (.bl false)) .nil)))) (.tup (.cons (.slc (.var 0) (.con (.int 1)) (.con .non)) (.cons (.var 4) (.cons (.con (.bl true)) .nil))))))
  .nil)) .nil)
  (.cons (.asg 5 (.call .law_so (.cons (.var 1) (.cons (.idx (.idx (.var 0) (.con (.int 0))) (.con (.int 2))) .nil))))
  (.cons (.ifs (.cmp .Eq (.var 3) (.con (.str [105, 102]))) (.cons (.ret (.tup (.cons (.bin .Add (.idx (.idx (.var 0) (.con (.int 0))) (.bin .Sub (.con (.int 4)) (.blt .int (.cons (.var 5) .nil)))) (.slc (.var 0) (.con (.int 1)) (.con .non))) (.cons (.var 1) (.cons (.con (.bl false)) .nil)))))
  .nil) .nil)
  (.cons (.ret (.tup (.cons (.ife (.var 5) (.bin .Add (.idx (.idx (.var 0) (.con (.int 0))) (.con (.int 3))) (.var 0)) (.slc (.var 0) (.con (.int 1)) (.con .non))) (.cons (.var 1) (.cons (.con (.bl false)) .nil)))))
  .nil)))))
def B_law_ring : Ss := (.cons (.asg 2 (.call .law_numbered (.cons (.var 0) (.cons (.ref (.lst .nil)) .nil))))
  (.cons (.asg 3 .dnew)
  (.cons (.asg 4 (.con (.int 0)))
  (.cons (.whl (.and (.cmp .IsNot (.var 2) (.con .non)) (.cmp .NotEq (.var 2) (.tup .nil))) (.cons (.asg 5 (.tup (.cons (.idx (.idx (.var 2) (.con (.int 0))) (.con (.int 0))) (.cons (.var 1) .nil))))
  (.cons (.ifs (.cmp .In (.var 5) (.var 3)) (.cons (.ret (.tup (.cons (.idx (.var 3) (.var 5)) (.cons (.bin .Sub (.var 4) (.idx (.var 3) (.var 5))) .nil))))
  .nil) .nil)
  (.cons (.setI (.var 3) (.var 5) (.var 4))
  (.cons (.unp [2, 1, 6] (.call .law_at_step (.cons (.var 2) (.cons (.var 1) .nil))))
  (.cons (.asg 4 (.bin .Add (.var 4) (.blt .int (.cons (.var 6) .nil))))
  .nil))))))
  (.cons (.ret (.con .non))
  .nil)))))
def B_law_passed : Ss := (.cons (.asg 3 (.call .law_ring (.cons (.var 0) (.cons (.var 1) .nil))))
  (.cons (.ifs (.and (.cmp .IsNot (.var 3) (.con .non)) (.cmp .Eq (.idx (.var 3) (.con (.int 1))) (.con (.int 0)))) (.cons (.asg 2 (.blt .min2 (.cons (.var 2) (.cons (.idx (.var 3) (.con (.int 0))) .nil))))
  .nil) .nil)
  (.cons (.asg 4 (.call .law_numbered (.cons (.var 0) (.cons (.ref (.lst .nil)) .nil))))
  (.cons (.asg 5 (.ref (.lst .nil)))
  (.cons (.whl (.and (.cmp .IsNot (.var 4) (.con .non)) (.and (.cmp .NotEq (.var 4) (.tup .nil)) (.cmp .Lt (.blt .len (.cons (.var 5) .nil)) (.var 2)))) (.cons (.unp [4, 1, 6] (.call .law_at_step (.cons (.var 4) (.cons (.var 1) .nil))))
  (.cons (.ex (.mth .extend (.var 5) (.cons (.slc (.lst (.cons (.var 1) .nil)) (.con .non) (.blt .int (.cons (.var 6) .nil))) .nil)))
  .nil)))
  (.cons (.ret (.var 5))
  .nil))))))
def B_law_counter : Ss := (.cons (.asg 0 (.tup (.cons (.tup (.cons (.con (.str [116, 117, 114, 110])) .nil)) (.cons (.tup (.cons (.con (.str [116, 117, 114, 110])) .nil)) (.cons (.tup (.cons (.con (.str [119, 104, 105, 108, 101])) (.cons (.con (.str [111, 112, 101, 110])) (.cons (.tup (.cons (.tup (.cons (.con (.str [103, 111])) .nil)) .nil)) .nil)))) (.cons (.tup (.cons (.con (.str [116, 117, 114, 110])) .nil)) (.cons (.tup (.cons (.con (.str [116, 117, 114, 110])) .nil)) .nil)))))))
  (.cons (.ret (.tup (.cons (.tup (.cons (.con (.str [119, 104, 105, 108, 101])) (.cons (.con (.str [111, 112, 101, 110])) (.cons (.bin .Add (.tup (.cons (.tup (.cons (.con (.str [119, 104, 105, 108, 101])) (.cons (.con (.str [115, 116, 111, 110, 101])) (.cons (.tup (.cons (.tup (.cons (.con (.str [116, 97, 107, 101])) .nil)) (.cons (.tup (.cons (.con (.str [103, 111])) .nil)) .nil))) .nil)))) (.cons (.tup (.cons (.con (.str [112, 117, 116])) .nil)) .nil))) (.var 0)) .nil)))) .nil)))
  .nil))
def B_law_k05 : Ss := (.cons (.asg 1 (.ref (.lst (.cons (.var 0) (.cons (.con (.int 0)) (.cons (.con (.int 0)) (.cons (.con (.int 0)) .nil)))))))
  (.cons (.for_ 2 (.rng (.cons (.con (.int 4)) .nil)) (.cons (.asg 3 (.call .law_program_k04 (.cons (.var 1) (.cons (.con (.int 30)) .nil))))
  (.cons (.for_ 4 (.rng (.cons (.con (.int 2)) .nil)) (.cons (.asg 5 (.call .law_scene (.cons (.var 1) (.cons (.call .law_size (.cons (.var 1) (.cons (.call .law_cells (.cons (.var 3) .nil)) .nil))) .nil))))
  (.cons (.ifs (.cmp .Eq (.call .law_taken (.cons (.var 1) (.cons (.con (.int 6)) .nil))) (.con (.int 5))) (.cons (.asg 3 (.call .law_counter .nil))
  (.cons (.asg 5 (.tup (.cons (.tup (.cons (.bin .Mult (.con (.str [46])) (.bin .Add (.con (.int 5)) (.var 4))) .nil)) (.cons (.con (.int 0)) (.cons (.con (.int 0)) (.cons (.con (.int 0)) (.cons (.bin .Add (.con (.int 6)) (.call .law_taken (.cons (.var 1) (.cons (.con (.int 9)) .nil)))) .nil)))))))
  .nil)) .nil)
  (.cons (.asg 6 (.call .law_ring (.cons (.var 3) (.cons (.var 5) .nil))))
  (.cons (.asg 7 (.call .ring (.cons (.var 3) (.cons (.var 5) .nil))))
  (.cons (.ifs (.or (.not (.call .law_alike (.cons (.var 7) (.cons (.var 6) .nil)))) (.cmp .NotEq (.cmp .Eq (.call .ran (.cons (.var 3) (.cons (.var 5) .nil))) (.tup (.cons (.con (.str [102, 111, 114, 101, 118, 101, 114])) .nil))) (.cmp .IsNot (.var 6) (.con .non)))) (.cons (.ret (.con (.bl false)))
  .nil) .nil)
  (.cons (.asg 8 (.idx (.lst (.cons (.call .law_taken (.cons (.var 1) (.cons (.con (.int 40)) .nil))) (.cons (.call .law_taken (.cons (.var 1) (.cons (.con (.int 200)) .nil))) .nil))) (.call .law_taken (.cons (.var 1) (.cons (.con (.int 2)) .nil)))))
  (.cons (.asg 9 (.call .passed (.cons (.var 3) (.cons (.var 5) (.cons (.var 8) .nil)))))
  (.cons (.ifs (.not (.call .law_alike (.cons (.var 9) (.cons (.call .law_passed (.cons (.var 3) (.cons (.var 5) (.cons (.var 8) .nil)))) .nil)))) (.cons (.ret (.con (.bl false)))
  .nil) .nil)
  (.cons (.ifs (.and (.cmp .IsNot (.var 6) (.con .non)) (.cmp .Gt (.idx (.var 6) (.con (.int 1))) (.con (.int 0)))) (.cons (.unp [10, 11] (.var 6))
  (.cons (.asg 12 (.slc (.call .passed (.cons (.var 3) (.cons (.var 5) (.cons (.blt .min2 (.cons (.con (.int 1000)) (.cons (.bin .Add (.var 10) (.bin .Mult (.con (.int 3)) (.var 11))) .nil))) .nil)))) (.var 10) (.con .non)))
  (.cons (.ifs (.cmp .NotEq (.slc (.var 12) (.var 11) (.con .non)) (.slc (.var 12) (.con .non) (.blt .max2 (.cons (.con (.int 0)) (.cons (.bin .Sub (.blt .len (.cons (.var 12) .nil)) (.var 11)) .nil))))) (.cons (.ret (.con (.bl false)))
  .nil) .nil)
  .nil))) .nil)
  (.cons (.ex (.mth .clear (.var 9) .nil))
  (.cons (.ifs (.not (.call .law_alike (.cons (.call .passed (.cons (.var 3) (.cons (.var 5) (.cons (.var 8) .nil)))) (.cons (.call .law_passed (.cons (.var 3) (.cons (.var 5) (.cons (.var 8) .nil)))) .nil)))) (.cons (.ret (.con (.bl false)))
  .nil) .nil)
  .nil))))))))))))
  .nil)))
  (.cons (.ret (.con (.bl true)))
  .nil)))
def B_law_k06 : Ss := (.cons (.asg 1 (.ref (.lst (.cons (.var 0) (.cons (.con (.int 0)) (.cons (.con (.int 0)) (.cons (.con (.int 0)) .nil)))))))
  (.cons (.for_ 2 (.rng (.cons (.con (.int 4)) .nil)) (.cons (.asg 3 (.call .law_program_k04 (.cons (.var 1) (.cons (.con (.int 30)) .nil))))
  (.cons (.for_ 4 (.rng (.cons (.con (.int 2)) .nil)) (.cons (.asg 5 (.call .law_scene (.cons (.var 1) (.cons (.call .law_size (.cons (.var 1) (.cons (.call .law_cells (.cons (.var 3) .nil)) .nil))) .nil))))
  (.cons (.asg 6 (.var 5))
  (.cons (.asg 7 (.call .ran (.cons (.var 3) (.cons (.var 5) .nil))))
  (.cons (.asg 8 (.call .passed (.cons (.var 3) (.cons (.var 5) (.cons (.con (.int 30)) .nil)))))
  (.cons (.for_ 9 (.rng (.cons (.bin .Add (.con (.int 1)) (.call .law_taken (.cons (.var 1) (.cons (.con (.int 3)) .nil)))) .nil)) (.cons (.asg 6 (.call .turned (.cons (.var 6) .nil)))
  (.cons (.asg 7 (.ife (.cmp .Eq (.var 7) (.tup (.cons (.con (.str [102, 111, 114, 101, 118, 101, 114])) .nil))) (.var 7) (.bin .Add (.slc (.var 7) (.con .non) (.neg (.con (.int 1)))) (.tup (.cons (.call .law_turned (.cons (.idx (.var 7) (.neg (.con (.int 1)))) .nil)) .nil)))))
  (.cons (.asg 8 (.comp0 10 (.seq (.var 8)) (.call .law_turned (.cons (.var 10) .nil))))
  .nil))))
  (.cons (.ifs (.or (.not (.call .law_alike (.cons (.call .ran (.cons (.var 3) (.cons (.var 6) .nil))) (.cons (.var 7) .nil)))) (.not (.call .law_alike (.cons (.call .passed (.cons (.var 3) (.cons (.var 6) (.cons (.con (.int 30)) .nil)))) (.cons (.var 8) .nil))))) (.cons (.ret (.con (.bl false)))
  .nil) .nil)
  (.cons (.ifs (.not (.call .law_alike (.cons (.call .ring (.cons (.var 3) (.cons (.var 6) .nil))) (.cons (.call .ring (.cons (.var 3) (.cons (.var 5) .nil))) .nil)))) (.cons (.ret (.con (.bl false)))
  .nil) .nil)
  .nil))))))))
  .nil)))
  (.cons (.ret (.con (.bl true)))
  .nil)))
def B_fields : Ss := (.cons (.ex (.call .need_size (.cons (.var 0) (.cons (.glo .MOST_CELLS) .nil))))
  (.cons (.ret (.call .all_fields (.cons (.var 0) .nil)))
  .nil))
def B_law_fields_k07 : Ss := (.cons (.asg 1 (.lst (.cons (.con (.str [])) .nil)))
  (.cons (.for_ 2 (.rng (.cons (.bin .Mult (.idx (.var 0) (.con (.int 0))) (.idx (.var 0) (.con (.int 1)))) .nil)) (.cons (.asg 3 (.ref (.lst .nil)))
  (.cons (.for_ 4 (.seq (.var 1)) (.cons (.ex (.mth .extend (.var 3) (.cons (.comp0 5 (.seq (.slc (.con (.str [35, 46, 111])) (.blt .int (.cons (.cmp .Eq (.var 2) (.con (.int 0))) .nil)) (.con .non))) (.bin .Add (.var 4) (.var 5))) .nil)))
  .nil))
  (.cons (.asg 1 (.var 3))
  .nil))))
  (.cons (.ret (.comp0 4 (.seq (.var 1)) (.blt .tuple (.cons (.comp0 6 (.rng (.cons (.con (.int 0)) (.cons (.blt .len (.cons (.var 4) .nil)) (.cons (.idx (.var 0) (.con (.int 0))) .nil)))) (.slc (.var 4) (.var 6) (.bin .Add (.var 6) (.idx (.var 0) (.con (.int 0)))))) .nil))))
  .nil)))
def B_law_refused_k07 : Ss := (.cons (.try_ .HandError (some 1) (.cons (.ex (.call .fields (.cons (.var 0) .nil)))
  .nil) (.cons (.asg 2 (.or (.isE 1 .BadField) (.or (.isE 1 .BadNumber) (.isE 1 .BadProgram))))
  (.cons (.asg 2 (.or (.var 2) (.or (.isE 1 .BadText) (.isE 1 .BadWish))))
  (.cons (.ret (.and (.isE 1 .BadSize) (.and (.isE 1 .ValueError) (.not (.var 2)))))
  .nil))))
  (.cons (.ret (.con (.bl false)))
  .nil))
def B_law_is_far : Ss := (.cons (.try_ .BadSize none (.cons (.ex (.call .everywhere (.cons (.tup .nil) (.cons (.tup .nil) (.cons (.var 0) .nil)))))
  .nil) (.cons (.ret (.con (.bl true)))
  .nil))
  (.cons (.ret (.con (.bl false)))
  .nil))
def B_law_k07 : Ss := (.cons (.asg 1 (.ref (.lst (.cons (.var 0) (.cons (.con (.int 0)) (.cons (.con (.int 0)) (.cons (.con (.int 0)) .nil)))))))
  (.cons (.asg 2 (.bin .Add (.con (.int 1)) (.call .law_taken (.cons (.var 1) (.cons (.con (.int 6)) .nil)))))
  (.cons (.asg 3 (.tup (.cons (.var 2) (.cons (.bin .Add (.con (.int 1)) (.call .law_taken (.cons (.var 1) (.cons (.bin .FloorDiv (.con (.int 6)) (.var 2)) .nil)))) .nil))))
  (.cons (.for_ 4 (.rng (.cons (.con (.int 2)) .nil)) (.cons (.asg 5 (.call .fields (.cons (.var 3) .nil)))
  (.cons (.ifs (.not (.call .law_alike (.cons (.var 5) (.cons (.call .law_fields_k07 (.cons (.var 3) .nil)) .nil)))) (.cons (.ret (.con (.bl false)))
  .nil) .nil)
  (.cons (.ex (.mth .reverse (.var 5) .nil))
  (.cons (.ex (.mth .append (.var 5) (.cons (.tup .nil) .nil)))
  .nil)))))
  (.cons (.for_ 6 (.rng (.cons (.con (.int 6)) .nil)) (.cons (.asg 7 (.bin .Sub (.call .law_taken (.cons (.var 1) (.cons (.con (.int 12)) .nil))) (.con (.int 2))))
  (.cons (.asg 8 (.bin .Sub (.call .law_taken (.cons (.var 1) (.cons (.con (.int 12)) .nil))) (.con (.int 2))))
  (.cons (.ifs (.and (.or (.cmp .Lt (.var 7) (.con (.int 1))) (.or (.cmp .Lt (.var 8) (.con (.int 1))) (.cmp .Gt (.bin .Mult (.var 7) (.var 8)) (.con (.int 6))))) (.not (.call .law_refused_k07 (.cons (.tup (.cons (.var 7) (.cons (.var 8) .nil))) .nil)))) (.cons (.ret (.con (.bl false)))
  .nil) .nil)
  (.cons (.ifs (.cmp .NotEq (.call .law_is_far (.cons (.tup (.cons (.var 7) (.cons (.var 8) .nil))) .nil)) (.or (.cmp .Lt (.var 7) (.con (.int 1))) (.or (.cmp .Lt (.var 8) (.con (.int 1))) (.cmp .Gt (.bin .Mult (.var 7) (.var 8)) (.con (.int 4)))))) (.cons (.ret (.con (.bl false)))
  .nil) .nil)
  .nil)))))
  (.cons (.ret (.con (.bl true)))
  .nil))))))
def B_law_fields_k08 : Ss := (.cons (.asg 1 (.lst (.cons (.con (.str [])) .nil)))
  (.cons (.for_ 2 (.rng (.cons (.bin .Mult (.idx (.var 0) (.con (.int 0))) (.idx (.var 0) (.con (.int 1)))) .nil)) (.cons (.asg 3 (.ref (.lst .nil)))
  (.cons (.for_ 4 (.seq (.var 1)) (.cons (.ex (.mth .extend (.var 3) (.cons (.comp0 5 (.seq (.slc (.con (.str [35, 46, 111])) (.blt .int (.cons (.cmp .Eq (.var 2) (.con (.int 0))) .nil)) (.con .non))) (.bin .Add (.var 4) (.var 5))) .nil)))
  .nil))
  (.cons (.asg 1 (.var 3))
  .nil))))
  (.cons (.ret (.comp0 4 (.seq (.var 1)) (.blt .tuple (.cons (.comp0 6 (.rng (.cons (.con (.int 0)) (.cons (.blt .len (.cons (.var 4) .nil)) (.cons (.idx (.var 0) (.con (.int 0))) .nil)))) (.slc (.var 4) (.var 6) (.bin .Add (.var 6) (.idx (.var 0) (.con (.int 0)))))) .nil))))
  .nil)))
def B_law_wish : Ss := (.cons (.asg 1 (.ref (.lst (.cons (.con (.str [104, 111, 109, 101])) (.cons (.con (.str [115, 97, 109, 101])) (.cons (.con (.str [99, 108, 101, 97, 114])) (.cons (.con (.str [115, 116, 117, 99, 107])) (.cons (.con (.str [101, 109, 112, 116, 121])) .nil))))))))
  (.cons (.asg 2 (.ref (.lst .nil)))
  (.cons (.for_ 3 (.rng (.cons (.idx (.lst (.cons (.con (.int 0)) (.cons (.con (.int 1)) (.cons (.con (.int 1)) (.cons (.con (.int 1)) (.cons (.con (.int 2)) (.cons (.con (.int 2)) (.cons (.con (.int 3)) .nil)))))))) (.call .law_taken (.cons (.var 0) (.cons (.con (.int 7)) .nil)))) .nil)) (.cons (.ex (.mth .append (.var 2) (.cons (.mth .pop (.var 1) (.cons (.call .law_taken (.cons (.var 0) (.cons (.blt .len (.cons (.var 1) .nil)) .nil))) .nil)) .nil)))
  .nil))
  (.cons (.ret (.blt .tuple (.cons (.var 2) .nil)))
  .nil))))
def B_law_refused_k08 : Ss := (.cons (.try_ .HandError (some 3) (.cons (.ex (.call .fails (.cons (.var 0) (.cons (.var 1) (.cons (.var 2) .nil)))))
  .nil) (.cons (.asg 4 (.or (.isE 3 .BadField) (.or (.isE 3 .BadNumber) (.isE 3 .BadProgram))))
  (.cons (.asg 4 (.or (.var 4) (.or (.isE 3 .BadText) (.isE 3 .BadSize))))
  (.cons (.ret (.and (.isE 3 .BadWish) (.and (.isE 3 .ValueError) (.not (.var 4)))))
  .nil))))
  (.cons (.ret (.con (.bl false)))
  .nil))
def B_law_k08 : Ss := (.cons (.asg 1 (.ref (.lst (.cons (.var 0) (.cons (.con (.int 0)) (.cons (.con (.int 0)) (.cons (.con (.int 0)) .nil)))))))
  (.cons (.for_ 2 (.rng (.cons (.con (.int 3)) .nil)) (.cons (.asg 3 (.call .law_program_k04 (.cons (.var 1) (.cons (.con (.int 12)) .nil))))
  (.cons (.asg 4 (.call .law_size (.cons (.var 1) (.cons (.idx (.lst (.cons (.con (.int 4)) (.cons (.con (.int 4)) (.cons (.con (.int 4)) (.cons (.con (.int 6)) .nil))))) (.call .law_taken (.cons (.var 1) (.cons (.con (.int 4)) .nil)))) .nil))))
  (.cons (.asg 5 (.call .law_wish (.cons (.var 1) .nil)))
  (.cons (.asg 6 (.comp1 7 (.seq (.call .law_fields_k08 (.cons (.var 4) .nil))) (.not (.call .law_keeps_k08 (.cons (.var 3) (.cons (.var 7) (.cons (.var 5) .nil))))) (.var 7)))
  (.cons (.ifs (.not (.call .law_alike (.cons (.call .fails (.cons (.var 3) (.cons (.var 4) (.cons (.var 5) .nil)))) (.cons (.idx (.bin .Add (.var 6) (.lst (.cons (.con .non) .nil))) (.con (.int 0))) .nil)))) (.cons (.ret (.con (.bl false)))
  .nil) .nil)
  (.cons (.asg 8 (.lst (.cons (.bin .Add (.var 5) (.tup (.cons (.con (.str [])) .nil))) (.cons (.bin .Add (.var 5) (.tup (.cons (.con (.str [72, 111, 109, 101])) .nil))) (.cons (.tup (.cons (.con (.str [104, 111, 109, 101])) (.cons (.con (.str [115, 97, 109, 101])) (.cons (.con (.str [104, 111, 109, 101])) .nil)))) (.cons (.bin .Add (.tup (.cons (.con (.str [99, 108, 101, 97, 110])) .nil)) (.var 5)) (.cons (.bin .Add (.var 5) (.tup (.cons (.con (.str [102, 117, 108, 108])) .nil))) .nil)))))))
  (.cons (.ifs (.not (.call .law_refused_k08 (.cons (.var 3) (.cons (.var 4) (.cons (.idx (.var 8) (.call .law_taken (.cons (.var 1) (.cons (.con (.int 5)) .nil)))) .nil))))) (.cons (.ret (.con (.bl false)))
  .nil) .nil)
  .nil))))))))
  (.cons (.ret (.con (.bl true)))
  .nil)))
def B_law_other : Ss := (.cons (.asg 2 (.call .law_taken (.cons (.var 0) (.cons (.bin .Add (.blt .len (.cons (.var 1) .nil)) (.con (.int 1))) .nil))))
  (.cons (.asg 3 (.call .law_taken (.cons (.var 0) (.cons (.con (.int 4)) .nil))))
  (.cons (.ifs (.cmp .Eq (.var 3) (.con (.int 0))) (.cons (.ret (.call .law_program_k04 (.cons (.var 0) (.cons (.con (.int 10)) .nil))))
  .nil) .nil)
  (.cons (.ifs (.cmp .Eq (.var 3) (.con (.int 1))) (.cons (.ret (.var 1))
  .nil) .nil)
  (.cons (.ifs (.cmp .Eq (.var 3) (.con (.int 2))) (.cons (.ret (.bin .Add (.slc (.var 1) (.con .non) (.var 2)) (.slc (.var 1) (.bin .Add (.var 2) (.con (.int 1))) (.con .non))))
  .nil) .nil)
  (.cons (.asg 4 (.lst (.cons (.tup (.cons (.con (.str [116, 117, 114, 110])) .nil)) (.cons (.tup (.cons (.con (.str [103, 111])) .nil)) (.cons (.tup (.cons (.con (.str [116, 97, 107, 101])) .nil)) (.cons (.tup (.cons (.con (.str [105, 102])) (.cons (.con (.str [104, 101, 108, 100])) (.cons (.tup (.cons (.tup (.cons (.con (.str [112, 117, 116])) .nil)) .nil)) (.cons (.tup .nil) .nil))))) (.cons (.tup (.cons (.con (.str [119, 104, 105, 108, 101])) (.cons (.con (.str [115, 116, 111, 110, 101])) (.cons (.tup (.cons (.tup (.cons (.con (.str [116, 97, 107, 101])) .nil)) .nil)) .nil)))) .nil)))))))
  (.cons (.ret (.bin .Add (.bin .Add (.slc (.var 1) (.con .non) (.var 2)) (.tup (.cons (.idx (.var 4) (.call .law_taken (.cons (.var 0) (.cons (.con (.int 5)) .nil)))) .nil))) (.slc (.var 1) (.var 2) (.con .non))))
  .nil)))))))
def B_law_k09 : Ss := (.cons (.asg 1 (.ref (.lst (.cons (.var 0) (.cons (.con (.int 0)) (.cons (.con (.int 0)) (.cons (.con (.int 0)) .nil)))))))
  (.cons (.for_ 2 (.rng (.cons (.con (.int 3)) .nil)) (.cons (.asg 3 (.call .law_program_k04 (.cons (.var 1) (.cons (.con (.int 10)) .nil))))
  (.cons (.asg 4 (.call .law_other (.cons (.var 1) (.cons (.var 3) .nil))))
  (.cons (.asg 5 (.call .law_size (.cons (.var 1) (.cons (.idx (.lst (.cons (.con (.int 4)) (.cons (.con (.int 4)) (.cons (.con (.int 4)) (.cons (.con (.int 6)) .nil))))) (.call .law_taken (.cons (.var 1) (.cons (.con (.int 4)) .nil)))) .nil))))
  (.cons (.asg 6 (.con .non))
  (.cons (.for_ 7 (.seq (.call .law_fields_k08 (.cons (.var 5) .nil))) (.cons (.asg 8 (.tup (.cons (.var 7) (.cons (.con (.int 0)) (.cons (.con (.int 0)) (.cons (.con (.int 0)) (.cons (.con (.int 0)) .nil)))))))
  (.cons (.ifs (.and (.cmp .Is (.var 6) (.con .non)) (.cmp .NotEq (.call .law_walked_k04 (.cons (.var 3) (.cons (.var 8) .nil))) (.call .law_walked_k04 (.cons (.var 4) (.cons (.var 8) .nil))))) (.cons (.asg 6 (.var 7))
  .nil) .nil)
  .nil)))
  (.cons (.ifs (.or (.not (.call .law_alike (.cons (.call .parted (.cons (.var 3) (.cons (.var 4) (.cons (.var 5) .nil)))) (.cons (.var 6) .nil)))) (.not (.call .law_alike (.cons (.call .parted (.cons (.var 4) (.cons (.var 3) (.cons (.var 5) .nil)))) (.cons (.var 6) .nil))))) (.cons (.ret (.con (.bl false)))
  .nil) .nil)
  .nil)))))))
  (.cons (.ret (.con (.bl true)))
  .nil)))
def B_law_scenes : Ss := (.cons (.asg 1 (.ref (.lst .nil)))
  (.cons (.for_ 2 (.seq (.call .law_fields_k08 (.cons (.var 0) .nil))) (.cons (.ex (.mth .extend (.var 1) (.cons (.slc (.lst (.cons (.var 2) (.cons (.bin .Add (.tup (.cons (.bin .Add (.con (.str [35])) (.slc (.idx (.var 2) (.con (.int 0))) (.con (.int 1)) (.con .non))) .nil)) (.slc (.var 2) (.con (.int 1)) (.con .non))) .nil))) (.con .non) (.bin .Add (.con (.int 1)) (.blt .int (.cons (.cmp .Eq (.idx (.idx (.var 2) (.con (.int 0))) (.con (.int 0))) (.con (.str [46]))) .nil)))) .nil)))
  .nil))
  (.cons (.asg 3 (.ref (.lst .nil)))
  (.cons (.for_ 2 (.seq (.blt .sorted (.cons (.var 1) .nil))) (.cons (.for_ 4 (.rng (.cons (.bin .Mult (.idx (.var 0) (.con (.int 0))) (.idx (.var 0) (.con (.int 1)))) .nil)) (.cons (.unp [5, 6] (.tup (.cons (.bin .FloorDiv (.var 4) (.idx (.var 0) (.con (.int 0)))) (.cons (.bin .Mod (.var 4) (.idx (.var 0) (.con (.int 0)))) .nil))))
  (.cons (.for_ 7 (.rng (.cons (.bin .Mult (.con (.int 4)) (.blt .int (.cons (.cmp .NotEq (.idx (.idx (.var 2) (.var 5)) (.var 6)) (.con (.str [35]))) .nil))) .nil)) (.cons (.ex (.mth .extend (.var 3) (.cons (.comp0 8 (.rng (.cons (.bin .Add (.bin .Mult (.idx (.var 0) (.con (.int 0))) (.idx (.var 0) (.con (.int 1)))) (.con (.int 1))) .nil)) (.tup (.cons (.var 2) (.cons (.var 5) (.cons (.var 6) (.cons (.var 7) (.cons (.var 8) .nil))))))) .nil)))
  .nil))
  .nil)))
  .nil))
  (.cons (.ret (.var 3))
  .nil)))))
def B_law_same : Ss := (.cons (.asg 2 (.idx (.lst (.cons (.con (.str [111, 112, 101, 110])) (.cons (.con (.str [115, 116, 111, 110, 101])) (.cons (.con (.str [104, 101, 108, 100])) .nil)))) (.call .law_taken (.cons (.var 0) (.cons (.con (.int 3)) .nil)))))
  (.cons (.asg 3 (.call .law_taken (.cons (.var 0) (.cons (.con (.int 9)) .nil))))
  (.cons (.asg 4 (.call .law_taken (.cons (.var 0) (.cons (.bin .Add (.blt .len (.cons (.var 1) .nil)) (.con (.int 1))) .nil))))
  (.cons (.ifs (.cmp .Eq (.var 3) (.con (.int 0))) (.cons (.ret (.bin .Add (.bin .Add (.slc (.var 1) (.con .non) (.var 4)) (.bin .Mult (.tup (.cons (.tup (.cons (.con (.str [116, 117, 114, 110])) .nil)) .nil)) (.idx (.lst (.cons (.con (.int 4)) (.cons (.con (.int 4)) (.cons (.con (.int 8)) (.cons (.con (.int 3)) .nil))))) (.call .law_taken (.cons (.var 0) (.cons (.con (.int 4)) .nil)))))) (.slc (.var 1) (.var 4) (.con .non))))
  .nil) .nil)
  (.cons (.ifs (.cmp .Eq (.var 3) (.con (.int 1))) (.cons (.ret (.tup (.cons (.tup (.cons (.con (.str [105, 102])) (.cons (.var 2) (.cons (.var 1) (.cons (.var 1) .nil))))) .nil)))
  .nil) .nil)
  (.cons (.ifs (.cmp .Eq (.var 3) (.con (.int 2))) (.cons (.ret (.tup (.cons (.tup (.cons (.con (.str [105, 102])) (.cons (.var 2) (.cons (.tup (.cons (.tup (.cons (.con (.str [119, 104, 105, 108, 101])) (.cons (.var 2) (.cons (.var 1) .nil)))) .nil)) (.cons (.tup .nil) .nil))))) .nil)))
  .nil) .nil)
  (.cons (.ifs (.cmp .Eq (.var 3) (.con (.int 3))) (.cons (.ret (.tup (.cons (.tup (.cons (.con (.str [105, 102])) (.cons (.var 2) (.cons (.bin .Add (.var 1) (.tup (.cons (.tup (.cons (.con (.str [119, 104, 105, 108, 101])) (.cons (.var 2) (.cons (.var 1) .nil)))) .nil))) (.cons (.tup .nil) .nil))))) .nil)))
  .nil) .nil)
  (.cons (.ifs (.cmp .Eq (.var 3) (.con (.int 4))) (.cons (.ret (.bin .Add (.tup (.cons (.tup (.cons (.con (.str [105, 102])) (.cons (.con (.str [115, 116, 111, 110, 101])) (.cons (.tup (.cons (.tup (.cons (.con (.str [116, 97, 107, 101])) .nil)) (.cons (.tup (.cons (.con (.str [112, 117, 116])) .nil)) .nil))) (.cons (.tup .nil) .nil))))) .nil)) (.var 1)))
  .nil) .nil)
  (.cons (.ifs (.cmp .Eq (.var 3) (.con (.int 5))) (.cons (.ret (.tup (.cons (.tup (.cons (.con (.str [105, 102])) (.cons (.var 2) (.cons (.tup (.cons (.tup (.cons (.con (.str [105, 102])) (.cons (.var 2) (.cons (.var 1) (.cons (.tup (.cons (.tup (.cons (.con (.str [103, 111])) .nil)) .nil)) .nil))))) .nil)) (.cons (.var 1) .nil))))) .nil)))
  .nil) .nil)
  (.cons (.ifs (.cmp .Eq (.var 3) (.con (.int 6))) (.cons (.ret (.bin .Add (.var 1) (.tup (.cons (.tup (.cons (.con (.str [119, 104, 105, 108, 101])) (.cons (.var 2) (.cons (.tup (.cons (.tup (.cons (.con (.str [119, 104, 105, 108, 101])) (.cons (.var 2) (.cons (.tup .nil) .nil)))) .nil)) .nil)))) .nil))))
  .nil) .nil)
  (.cons (.ret (.ife (.cmp .Eq (.var 3) (.con (.int 7))) (.call .law_body (.cons (.var 0) (.cons (.ref (.lst (.cons (.con (.int 6)) .nil))) (.cons (.con (.int 1)) .nil)))) (.bin .Add (.slc (.var 1) (.con .non) (.var 4)) (.slc (.var 1) (.bin .Add (.var 4) (.con (.int 1))) (.con .non)))))
  .nil)))))))))))
def B_law_pair : Ss := (.cons (.asg 1 (.call .law_body (.cons (.var 0) (.cons (.ref (.lst (.cons (.con (.int 6)) .nil))) (.cons (.con (.int 1)) .nil)))))
  (.cons (.asg 2 (.call .law_same (.cons (.var 0) (.cons (.var 1) .nil))))
  (.cons (.ifs (.and (.cmp .Eq (.blt .len (.cons (.var 2) .nil)) (.con (.int 1))) (.and (.cmp .Eq (.idx (.idx (.var 2) (.con (.int 0))) (.con (.int 0))) (.con (.str [105, 102]))) (.cmp .Gt (.call .law_taken (.cons (.var 0) (.cons (.con (.int 4)) .nil))) (.con (.int 0))))) (.cons (.asg 3 (.slc (.idx (.idx (.var 2) (.con (.int 0))) (.con (.int 2))) (.neg (.con (.int 1))) (.con .non)))
  (.cons (.ifs (.and (.cmp .NotEq (.var 3) (.tup .nil)) (.and (.cmp .Eq (.idx (.idx (.var 3) (.con (.int 0))) (.con (.int 0))) (.con (.str [119, 104, 105, 108, 101]))) (.cmp .Eq (.idx (.idx (.var 3) (.con (.int 0))) (.con (.int 2))) (.var 1)))) (.cons (.asg 1 (.var 3))
  .nil) .nil)
  .nil)) .nil)
  (.cons (.ret (.tup (.cons (.var 1) (.cons (.var 2) .nil))))
  .nil))))
def B_law_around_k10 : Ss := (.cons (.asg 2 (.call .law_taken (.cons (.var 0) (.cons (.con (.int 5)) .nil))))
  (.cons (.asg 3 (.idx (.lst (.cons (.con (.str [111, 112, 101, 110])) (.cons (.con (.str [115, 116, 111, 110, 101])) (.cons (.con (.str [104, 101, 108, 100])) .nil)))) (.call .law_taken (.cons (.var 0) (.cons (.con (.int 3)) .nil)))))
  (.cons (.asg 4 (.call .law_body (.cons (.var 0) (.cons (.ref (.lst (.cons (.con (.int 4)) .nil))) (.cons (.con (.int 2)) .nil)))))
  (.cons (.asg 5 (.ref (.lst .nil)))
  (.cons (.for_ 6 (.seq (.var 1)) (.cons (.asg 7 (.lst (.cons (.bin .Add (.var 4) (.var 6)) (.cons (.bin .Add (.var 6) (.var 4)) (.cons (.tup (.cons (.tup (.cons (.con (.str [119, 104, 105, 108, 101])) (.cons (.var 3) (.cons (.bin .Add (.var 6) (.var 4)) .nil)))) .nil)) (.cons (.tup (.cons (.tup (.cons (.con (.str [105, 102])) (.cons (.var 3) (.cons (.var 6) (.cons (.var 4) .nil))))) .nil)) .nil))))))
  (.cons (.ex (.mth .append (.var 5) (.cons (.idx (.bin .Add (.var 7) (.lst (.cons (.tup (.cons (.tup (.cons (.con (.str [105, 102])) (.cons (.con (.str [115, 116, 111, 110, 101])) (.cons (.tup (.cons (.tup (.cons (.con (.str [116, 97, 107, 101])) .nil)) .nil)) (.cons (.tup .nil) .nil))))) (.cons (.tup (.cons (.con (.str [119, 104, 105, 108, 101])) (.cons (.var 3) (.cons (.bin .Add (.var 4) (.var 6)) .nil)))) .nil))) .nil))) (.var 2)) .nil)))
  .nil)))
  (.cons (.ret (.var 5))
  .nil))))))
def B_law_k10 : Ss := (.cons (.asg 1 (.ref (.lst (.cons (.var 0) (.cons (.con (.int 0)) (.cons (.con (.int 0)) (.cons (.con (.int 0)) .nil)))))))
  (.cons (.unp [2, 3] (.call .law_pair (.cons (.var 1) .nil)))
  (.cons (.asg 4 (.call .law_size (.cons (.var 1) (.cons (.idx (.lst (.cons (.con (.int 2)) (.cons (.con (.int 3)) (.cons (.con (.int 3)) (.cons (.con (.int 4)) .nil))))) (.call .law_taken (.cons (.var 1) (.cons (.con (.int 4)) .nil)))) .nil))))
  (.cons (.asg 5 (.con .non))
  (.cons (.for_ 6 (.seq (.call .law_scenes (.cons (.var 4) .nil))) (.cons (.ifs (.and (.cmp .Is (.var 5) (.con .non)) (.cmp .NotEq (.call .law_walked_k04 (.cons (.var 2) (.cons (.var 6) .nil))) (.call .law_walked_k04 (.cons (.var 3) (.cons (.var 6) .nil))))) (.cons (.asg 5 (.var 6))
  .nil) .nil)
  .nil))
  (.cons (.ifs (.not (.call .law_alike (.cons (.call .everywhere (.cons (.var 2) (.cons (.var 3) (.cons (.var 4) .nil)))) (.cons (.var 5) .nil)))) (.cons (.ret (.con (.bl false)))
  .nil) .nil)
  (.cons (.for_ 7 (.rng (.cons (.bin .Mult (.con (.int 4)) (.blt .int (.cons (.cmp .Is (.var 5) (.con .non)) .nil))) .nil)) (.cons (.unpL [8, 9] (.call .law_around_k10 (.cons (.var 1) (.cons (.lst (.cons (.var 2) (.cons (.var 3) .nil))) .nil))))
  (.cons (.ifs (.cmp .IsNot (.call .parted (.cons (.var 8) (.cons (.var 9) (.cons (.var 4) .nil)))) (.con .non)) (.cons (.ret (.con (.bl false)))
  .nil) .nil)
  (.cons (.for_ 10 (.seq (.call .law_fields_k08 (.cons (.var 4) .nil))) (.cons (.ifs (.cmp .NotEq (.call .law_walked_k04 (.cons (.var 8) (.cons (.tup (.cons (.var 10) (.cons (.con (.int 0)) (.cons (.con (.int 0)) (.cons (.con (.int 0)) (.cons (.con (.int 0)) .nil)))))) .nil))) (.call .law_walked_k04 (.cons (.var 9) (.cons (.tup (.cons (.var 10) (.cons (.con (.int 0)) (.cons (.con (.int 0)) (.cons (.con (.int 0)) (.cons (.con (.int 0)) .nil)))))) .nil)))) (.cons (.ret (.con (.bl false)))
  .nil) .nil)
  .nil))
  .nil))))
  (.cons (.ret (.con (.bl true)))
  .nil))))))))
def B_shortest : Ss := (.cons (.ex (.call .need_size (.cons (.var 0) (.cons (.glo .MOST_CELLS) .nil))))
  (.cons (.ex (.call .need_wish (.cons (.var 1) .nil)))
  (.cons (.ex (.call .need_long (.cons (.var 2) .nil)))
  (.cons (.asg 3 (.call .all_fields (.cons (.var 0) .nil)))
  (.cons (.asg 4 (.ref (.lst .nil)))
  (.cons (.for_ 5 (.seq (.call .all_programs (.cons (.var 2) .nil))) (.cons (.ifs (.cmp .Is (.call .first_failed (.cons (.var 5) (.cons (.var 4) (.cons (.var 1) .nil)))) (.con .non)) (.cons (.asg 6 (.call .first_failed (.cons (.var 5) (.cons (.var 3) (.cons (.var 1) .nil)))))
  (.cons (.ifs (.cmp .Is (.var 6) (.con .non)) (.cons (.ret (.tup (.cons (.var 5) (.cons (.var 4) .nil))))
  .nil) .nil)
  (.cons (.ex (.mth .append (.var 4) (.cons (.var 6) .nil)))
  .nil))) .nil)
  .nil))
  (.cons (.ret (.tup (.cons (.con .non) (.cons (.var 4) .nil))))
  .nil)))))))
def B_law_done_k11 : Ss := (.cons (.unp [2, 3, 4, 5, 6] (.var 0))
  (.cons (.ifs (.cmp .Eq (.var 1) (.con (.str [116, 117, 114, 110]))) (.cons (.ret (.tup (.cons (.var 2) (.cons (.var 3) (.cons (.var 4) (.cons (.bin .Mod (.bin .Add (.var 5) (.con (.int 1))) (.con (.int 4))) (.cons (.var 6) .nil)))))))
  .nil) .nil)
  (.cons (.ifs (.cmp .Eq (.var 1) (.con (.str [103, 111]))) (.cons (.asg 7 (.call .law_ahead (.cons (.var 0) .nil)))
  (.cons (.ifs (.cmp .Is (.var 7) (.con .non)) (.cons (.ret (.con .non))
  .nil) .nil)
  (.cons (.ret (.tup (.cons (.var 2) (.cons (.idx (.var 7) (.con (.int 0))) (.cons (.idx (.var 7) (.con (.int 1))) (.cons (.var 5) (.cons (.var 6) .nil)))))))
  .nil))) .nil)
  (.cons (.asg 8 (.cmp .Eq (.idx (.idx (.var 2) (.var 3)) (.var 4)) (.con (.str [111]))))
  (.cons (.ifs (.or (.cmp .NotEq (.var 8) (.cmp .Eq (.var 1) (.con (.str [116, 97, 107, 101])))) (.and (.cmp .Eq (.var 1) (.con (.str [112, 117, 116]))) (.cmp .Eq (.var 6) (.con (.int 0))))) (.cons (.ret (.con .non))
  .nil) .nil)
  (.cons (.asg 9 (.bin .Add (.bin .Add (.slc (.idx (.var 2) (.var 3)) (.con .non) (.var 4)) (.idx (.lst (.cons (.con (.str [46])) (.cons (.con (.str [111])) .nil))) (.blt .int (.cons (.cmp .Eq (.var 1) (.con (.str [112, 117, 116]))) .nil)))) (.slc (.idx (.var 2) (.var 3)) (.bin .Add (.var 4) (.con (.int 1))) (.con .non))))
  (.cons (.asg 6 (.bin .Add (.var 6) (.idx (.lst (.cons (.bin .Sub (.con (.int 0)) (.con (.int 1))) (.cons (.con (.int 1)) .nil))) (.blt .int (.cons (.cmp .Eq (.var 1) (.con (.str [116, 97, 107, 101]))) .nil)))))
  (.cons (.ret (.tup (.cons (.bin .Add (.bin .Add (.slc (.var 2) (.con .non) (.var 3)) (.tup (.cons (.var 9) .nil))) (.slc (.var 2) (.bin .Add (.var 3) (.con (.int 1))) (.con .non))) (.cons (.var 3) (.cons (.var 4) (.cons (.var 5) (.cons (.var 6) .nil)))))))
  .nil))))))))
def B_law_words_k11 : Ss := (.cons (.asg 1 (.lst .nil))
  (.cons (.for_ 2 (.seq (.var 0)) (.cons (.asg 1 (.bin .Add (.var 1) (.blt .list (.cons (.slc (.var 2) (.con .non) (.con (.int 2))) .nil))))
  (.cons (.for_ 3 (.seq (.slc (.var 2) (.con (.int 2)) (.con .non))) (.cons (.asg 1 (.bin .Add (.bin .Add (.bin .Add (.var 1) (.lst (.cons (.con (.str [40])) .nil))) (.call .law_words_k11 (.cons (.var 3) .nil))) (.lst (.cons (.con (.str [41])) .nil))))
  .nil))
  .nil)))
  (.cons (.ret (.var 1))
  .nil)))
def B_law_long_k11 : Ss := (.cons (.asg 2 (.slc (.comp0 3 (.seq (.tup (.cons (.con (.str [103, 111])) (.cons (.con (.str [116, 117, 114, 110])) (.cons (.con (.str [116, 97, 107, 101])) (.cons (.con (.str [112, 117, 116])) .nil)))))) (.tup (.cons (.var 3) .nil))) (.con .non) (.bin .Mult (.con (.int 4)) (.blt .int (.cons (.cmp .Eq (.var 0) (.con (.int 1))) .nil)))))
  (.cons (.for_ 4 (.seq (.tup (.cons (.con (.str [111, 112, 101, 110])) (.cons (.con (.str [115, 116, 111, 110, 101])) (.cons (.con (.str [104, 101, 108, 100])) .nil))))) (.cons (.asg 2 (.bin .Add (.var 2) (.comp0 5 (.seq (.idx (.var 1) (.bin .Sub (.var 0) (.con (.int 1))))) (.tup (.cons (.con (.str [119, 104, 105, 108, 101])) (.cons (.var 4) (.cons (.var 5) .nil)))))))
  (.cons (.for_ 6 (.rng (.cons (.var 0) .nil)) (.cons (.for_ 5 (.seq (.idx (.var 1) (.var 6))) (.cons (.asg 2 (.bin .Add (.var 2) (.comp0 7 (.seq (.idx (.var 1) (.bin .Sub (.bin .Sub (.var 0) (.con (.int 1))) (.var 6)))) (.tup (.cons (.con (.str [105, 102])) (.cons (.var 4) (.cons (.var 5) (.cons (.var 7) .nil))))))))
  .nil))
  .nil))
  .nil)))
  (.cons (.ret (.var 2))
  .nil)))
def B_law_all_k11 : Ss := (.cons (.asg 1 (.ref (.lst (.cons (.lst (.cons (.tup .nil) .nil)) .nil))))
  (.cons (.for_ 2 (.rng (.cons (.con (.int 1)) (.cons (.bin .Add (.var 0) (.con (.int 1))) .nil))) (.cons (.asg 3 (.ref (.lst .nil)))
  (.cons (.for_ 4 (.rng (.cons (.con (.int 1)) (.cons (.bin .Add (.var 2) (.con (.int 1))) .nil))) (.cons (.for_ 5 (.seq (.call .law_long_k11 (.cons (.var 4) (.cons (.var 1) .nil)))) (.cons (.ex (.mth .extend (.var 3) (.cons (.comp0 6 (.seq (.idx (.var 1) (.bin .Sub (.var 2) (.var 4)))) (.bin .Add (.tup (.cons (.var 5) .nil)) (.var 6))) .nil)))
  .nil))
  .nil))
  (.cons (.ex (.mth .append (.var 1) (.cons (.var 3) .nil)))
  .nil))))
  (.cons (.asg 7 (.lst .nil))
  (.cons (.for_ 3 (.seq (.var 1)) (.cons (.asg 7 (.bin .Add (.var 7) (.comp0 8 (.seq (.blt .sorted (.cons (.comp0 9 (.seq (.var 3)) (.tup (.cons (.mth .join (.con (.str [32])) (.cons (.call .law_words_k11 (.cons (.var 9) .nil)) .nil)) (.cons (.var 9) .nil)))) .nil))) (.idx (.var 8) (.con (.int 1))))))
  .nil))
  (.cons (.ret (.var 7))
  .nil)))))
def B_law_word_k11 : Ss := (.cons (.try_ .HandError (some 3) (.cons (.ex (.call .shortest (.cons (.var 0) (.cons (.var 1) (.cons (.var 2) .nil)))))
  .nil) (.cons (.asg 4 (.lst (.cons (.isE 3 .BadWish) (.cons (.isE 3 .BadNumber) .nil))))
  (.cons (.ret (.ife (.cmp .Eq (.mth .count (.var 4) (.cons (.con (.bl true)) .nil)) (.con (.int 1))) (.idx (.lst (.cons (.con (.str [119, 105, 115, 104])) (.cons (.con (.str [110, 117, 109, 98, 101, 114])) .nil))) (.mth .index (.var 4) (.cons (.con (.bl true)) .nil))) (.con (.str [111, 116, 104, 101, 114]))))
  .nil)))
  (.cons (.ret (.con .non))
  .nil))
def B_law_shown_k11 : Ss := (.cons (.for_ 4 (.seq (.call .law_all_k11 (.cons (.var 3) .nil))) (.cons (.ifs (.cmp .Eq (.var 4) (.var 0)) (.cons (.ret (.con (.bl true)))
  .nil) .nil)
  (.cons (.ifs (.cmp .Eq (.comp1 5 (.seq (.var 1)) (.not (.call .law_keeps_k11 (.cons (.var 4) (.cons (.var 5) (.cons (.var 2) .nil))))) (.var 5)) (.lst .nil)) (.cons (.ret (.con (.bl false)))
  .nil) .nil)
  .nil)))
  (.cons (.ret (.cmp .Is (.var 0) (.con .non)))
  .nil))
def B_law_k11 : Ss := (.cons (.asg 1 (.ref (.lst (.cons (.var 0) (.cons (.con (.int 0)) (.cons (.con (.int 0)) (.cons (.con (.int 0)) .nil)))))))
  (.cons (.asg 2 (.call .law_size (.cons (.var 1) (.cons (.idx (.lst (.cons (.con (.int 4)) (.cons (.con (.int 4)) (.cons (.con (.int 4)) (.cons (.con (.int 6)) .nil))))) (.call .law_taken (.cons (.var 1) (.cons (.con (.int 4)) .nil)))) .nil))))
  (.cons (.asg 3 (.call .law_wish (.cons (.var 1) .nil)))
  (.cons (.asg 4 (.idx (.lst (.cons (.con (.int 0)) (.cons (.con (.int 1)) (.cons (.con (.int 1)) (.cons (.con (.int 2)) (.cons (.con (.int 2)) (.cons (.con (.int 2)) (.cons (.con (.int 2)) (.cons (.con (.int 3)) .nil))))))))) (.call .law_taken (.cons (.var 1) (.cons (.con (.int 8)) .nil)))))
  (.cons (.asg 5 (.call .law_fields_k08 (.cons (.var 2) .nil)))
  (.cons (.asg 6 (.call .shortest (.cons (.var 2) (.cons (.var 3) (.cons (.var 4) .nil)))))
  (.cons (.ifs (.or (.not (.isi (.var 6) [.tuple])) (.or (.cmp .NotEq (.blt .len (.cons (.var 6) .nil)) (.con (.int 2))) (.not (.isi (.idx (.var 6) (.con (.int 1))) [.list])))) (.cons (.ret (.con (.bl false)))
  .nil) .nil)
  (.cons (.unp [7, 8] (.var 6))
  (.cons (.ifs (.or (.cmp .NotEq (.comp1 9 (.seq (.var 8)) (.cmp .NotIn (.var 9) (.var 5)) (.var 9)) (.lst .nil)) (.not (.call .law_shown_k11 (.cons (.var 7) (.cons (.var 8) (.cons (.var 3) (.cons (.var 4) .nil))))))) (.cons (.ret (.con (.bl false)))
  .nil) .nil)
  (.cons (.ifs (.cmp .IsNot (.var 7) (.con .non)) (.cons (.ifs (.cmp .NotEq (.comp1 9 (.seq (.var 5)) (.not (.call .law_keeps_k11 (.cons (.var 7) (.cons (.var 9) (.cons (.var 3) .nil))))) (.var 9)) (.lst .nil)) (.cons (.ret (.con (.bl false)))
  .nil) .nil)
  .nil) .nil)
  (.cons (.ex (.mth .append (.var 8) (.cons (.tup (.cons (.con (.str [122, 122])) .nil)) .nil)))
  (.cons (.asg 10 (.call .shortest (.cons (.var 2) (.cons (.var 3) (.cons (.var 4) .nil)))))
  (.cons (.ifs (.or (.not (.call .law_alike (.cons (.idx (.var 10) (.con (.int 0))) (.cons (.var 7) .nil)))) (.not (.call .law_shown_k11 (.cons (.var 7) (.cons (.idx (.var 10) (.con (.int 1))) (.cons (.var 3) (.cons (.var 4) .nil))))))) (.cons (.ret (.con (.bl false)))
  .nil) .nil)
  (.cons (.asg 11 (.idx (.lst (.cons (.bin .Sub (.con (.int 0)) (.con (.int 1))) (.cons (.con (.int 4)) (.cons (.con (.int 100)) .nil)))) (.call .law_taken (.cons (.var 1) (.cons (.con (.int 3)) .nil)))))
  (.cons (.ret (.and (.cmp .Eq (.call .law_word_k11 (.cons (.var 2) (.cons (.var 3) (.cons (.var 11) .nil)))) (.con (.str [110, 117, 109, 98, 101, 114]))) (.cmp .Eq (.call .law_word_k11 (.cons (.var 2) (.cons (.bin .Add (.var 3) (.tup (.cons (.con (.str [119, 97, 114, 109])) .nil))) (.cons (.var 11) .nil)))) (.con (.str [119, 105, 115, 104])))))
  .nil)))))))))))))))
def B_law_words_k12 : Ss := (.cons (.asg 1 (.lst .nil))
  (.cons (.for_ 2 (.seq (.var 0)) (.cons (.asg 1 (.bin .Add (.var 1) (.blt .list (.cons (.slc (.var 2) (.con .non) (.con (.int 2))) .nil))))
  (.cons (.for_ 3 (.seq (.slc (.var 2) (.con (.int 2)) (.con .non))) (.cons (.asg 1 (.bin .Add (.bin .Add (.bin .Add (.var 1) (.lst (.cons (.con (.str [40])) .nil))) (.call .law_words_k12 (.cons (.var 3) .nil))) (.lst (.cons (.con (.str [41])) .nil))))
  .nil))
  .nil)))
  (.cons (.ret (.var 1))
  .nil)))
def B_law_long_k12 : Ss := (.cons (.asg 2 (.slc (.comp0 3 (.seq (.tup (.cons (.con (.str [103, 111])) (.cons (.con (.str [116, 117, 114, 110])) (.cons (.con (.str [116, 97, 107, 101])) (.cons (.con (.str [112, 117, 116])) .nil)))))) (.tup (.cons (.var 3) .nil))) (.con .non) (.bin .Mult (.con (.int 4)) (.blt .int (.cons (.cmp .Eq (.var 0) (.con (.int 1))) .nil)))))
  (.cons (.for_ 4 (.seq (.tup (.cons (.con (.str [111, 112, 101, 110])) (.cons (.con (.str [115, 116, 111, 110, 101])) (.cons (.con (.str [104, 101, 108, 100])) .nil))))) (.cons (.asg 2 (.bin .Add (.var 2) (.comp0 5 (.seq (.idx (.var 1) (.bin .Sub (.var 0) (.con (.int 1))))) (.tup (.cons (.con (.str [119, 104, 105, 108, 101])) (.cons (.var 4) (.cons (.var 5) .nil)))))))
  (.cons (.for_ 6 (.rng (.cons (.var 0) .nil)) (.cons (.for_ 5 (.seq (.idx (.var 1) (.var 6))) (.cons (.asg 2 (.bin .Add (.var 2) (.comp0 7 (.seq (.idx (.var 1) (.bin .Sub (.bin .Sub (.var 0) (.con (.int 1))) (.var 6)))) (.tup (.cons (.con (.str [105, 102])) (.cons (.var 4) (.cons (.var 5) (.cons (.var 7) .nil))))))))
  .nil))
  .nil))
  .nil)))
  (.cons (.ret (.var 2))
  .nil)))
def B_law_all_k12 : Ss := (.cons (.asg 1 (.ref (.lst (.cons (.lst (.cons (.tup .nil) .nil)) .nil))))
  (.cons (.for_ 2 (.rng (.cons (.con (.int 1)) (.cons (.bin .Add (.var 0) (.con (.int 1))) .nil))) (.cons (.asg 3 (.ref (.lst .nil)))
  (.cons (.for_ 4 (.rng (.cons (.con (.int 1)) (.cons (.bin .Add (.var 2) (.con (.int 1))) .nil))) (.cons (.for_ 5 (.seq (.call .law_long_k12 (.cons (.var 4) (.cons (.var 1) .nil)))) (.cons (.ex (.mth .extend (.var 3) (.cons (.comp0 6 (.seq (.idx (.var 1) (.bin .Sub (.var 2) (.var 4)))) (.bin .Add (.tup (.cons (.var 5) .nil)) (.var 6))) .nil)))
  .nil))
  .nil))
  (.cons (.ex (.mth .append (.var 1) (.cons (.var 3) .nil)))
  .nil))))
  (.cons (.asg 7 (.lst .nil))
  (.cons (.for_ 3 (.seq (.var 1)) (.cons (.asg 7 (.bin .Add (.var 7) (.comp0 8 (.seq (.blt .sorted (.cons (.comp0 9 (.seq (.var 3)) (.tup (.cons (.mth .join (.con (.str [32])) (.cons (.call .law_words_k12 (.cons (.var 9) .nil)) .nil)) (.cons (.var 9) .nil)))) .nil))) (.idx (.var 8) (.con (.int 1))))))
  .nil))
  (.cons (.ret (.var 7))
  .nil)))))
def B_law_told_k12 : Ss := (.cons (.asg 1 (.call .law_taken (.cons (.var 0) (.cons (.con (.int 4)) .nil))))
  (.cons (.ifs (.cmp .Eq (.var 1) (.con (.int 0))) (.cons (.ret (.call .law_program_k04 (.cons (.var 0) (.cons (.con (.int 6)) .nil))))
  .nil) .nil)
  (.cons (.ifs (.cmp .Eq (.var 1) (.con (.int 1))) (.cons (.ret (.call .law_program_k04 (.cons (.var 0) (.cons (.con (.int 9)) .nil))))
  .nil) .nil)
  (.cons (.asg 2 (.call .law_body (.cons (.var 0) (.cons (.ref (.lst (.cons (.con (.int 2)) .nil))) (.cons (.con (.int 1)) .nil)))))
  (.cons (.ifs (.cmp .Eq (.var 1) (.con (.int 2))) (.cons (.ret (.bin .Add (.bin .Add (.var 2) (.bin .Mult (.tup (.cons (.tup (.cons (.con (.str [116, 117, 114, 110])) .nil)) .nil)) (.con (.int 4)))) (.bin .Mult (.tup (.cons (.tup (.cons (.con (.str [105, 102])) (.cons (.con (.str [104, 101, 108, 100])) (.cons (.tup (.cons (.tup (.cons (.con (.str [103, 111])) .nil)) (.cons (.tup (.cons (.con (.str [103, 111])) .nil)) .nil))) (.cons (.tup .nil) .nil))))) .nil)) (.call .law_taken (.cons (.var 0) (.cons (.con (.int 2)) .nil))))))
  .nil) .nil)
  (.cons (.ret (.tup (.cons (.tup (.cons (.con (.str [105, 102])) (.cons (.idx (.lst (.cons (.con (.str [111, 112, 101, 110])) (.cons (.con (.str [115, 116, 111, 110, 101])) (.cons (.con (.str [104, 101, 108, 100])) .nil)))) (.call .law_taken (.cons (.var 0) (.cons (.con (.int 3)) .nil)))) (.cons (.var 2) (.cons (.var 2) .nil))))) .nil)))
  .nil))))))
def B_law_outs : Ss := (.cons (.ret (.comp0 2 (.seq (.var 1)) (.call .law_walked_k04 (.cons (.var 0) (.cons (.tup (.cons (.var 2) (.cons (.con (.int 0)) (.cons (.con (.int 0)) (.cons (.con (.int 0)) (.cons (.con (.int 0)) .nil)))))) .nil)))))
  .nil)
def B_law_shown_k12 : Ss := (.cons (.asg 4 (.call .law_outs (.cons (.var 1) (.cons (.var 2) .nil))))
  (.cons (.for_ 5 (.seq (.call .law_all_k12 (.cons (.var 3) .nil))) (.cons (.ifs (.cmp .Eq (.var 5) (.var 0)) (.cons (.ret (.con (.bl true)))
  .nil) .nil)
  (.cons (.ifs (.cmp .Eq (.call .law_outs (.cons (.var 5) (.cons (.var 2) .nil))) (.var 4)) (.cons (.ret (.con (.bl false)))
  .nil) .nil)
  .nil)))
  (.cons (.ret (.cmp .Is (.var 0) (.con .non)))
  .nil)))
def B_law_k12 : Ss := (.cons (.asg 1 (.ref (.lst (.cons (.var 0) (.cons (.con (.int 0)) (.cons (.con (.int 0)) (.cons (.con (.int 0)) .nil)))))))
  (.cons (.asg 2 (.call .law_size (.cons (.var 1) (.cons (.idx (.lst (.cons (.con (.int 4)) (.cons (.con (.int 4)) (.cons (.con (.int 4)) (.cons (.con (.int 6)) .nil))))) (.call .law_taken (.cons (.var 1) (.cons (.con (.int 4)) .nil)))) .nil))))
  (.cons (.asg 3 (.call .law_told_k12 (.cons (.var 1) .nil)))
  (.cons (.asg 4 (.idx (.lst (.cons (.con (.int 0)) (.cons (.con (.int 1)) (.cons (.con (.int 1)) (.cons (.con (.int 2)) (.cons (.con (.int 2)) (.cons (.con (.int 2)) (.cons (.con (.int 2)) (.cons (.con (.int 3)) .nil))))))))) (.call .law_taken (.cons (.var 1) (.cons (.con (.int 8)) .nil)))))
  (.cons (.asg 5 (.call .law_fields_k08 (.cons (.var 2) .nil)))
  (.cons (.asg 6 (.call .likest (.cons (.var 3) (.cons (.var 2) (.cons (.var 4) .nil)))))
  (.cons (.ifs (.or (.not (.isi (.var 6) [.tuple])) (.or (.cmp .NotEq (.blt .len (.cons (.var 6) .nil)) (.con (.int 2))) (.not (.isi (.idx (.var 6) (.con (.int 1))) [.list])))) (.cons (.ret (.con (.bl false)))
  .nil) .nil)
  (.cons (.unp [7, 8] (.var 6))
  (.cons (.ifs (.or (.cmp .NotEq (.comp1 9 (.seq (.var 8)) (.cmp .NotIn (.var 9) (.var 5)) (.var 9)) (.lst .nil)) (.not (.call .law_shown_k12 (.cons (.var 7) (.cons (.var 3) (.cons (.var 8) (.cons (.var 4) .nil))))))) (.cons (.ret (.con (.bl false)))
  .nil) .nil)
  (.cons (.ifs (.and (.cmp .IsNot (.var 7) (.con .non)) (.cmp .NotEq (.call .law_outs (.cons (.var 7) (.cons (.var 5) .nil))) (.call .law_outs (.cons (.var 3) (.cons (.var 5) .nil))))) (.cons (.ret (.con (.bl false)))
  .nil) .nil)
  (.cons (.ex (.mth .append (.var 8) (.cons (.tup (.cons (.con (.str [122, 122])) .nil)) .nil)))
  (.cons (.asg 10 (.call .likest (.cons (.var 3) (.cons (.var 2) (.cons (.var 4) .nil)))))
  (.cons (.ifs (.or (.not (.call .law_alike (.cons (.idx (.var 10) (.con (.int 0))) (.cons (.var 7) .nil)))) (.not (.call .law_shown_k12 (.cons (.var 7) (.cons (.var 3) (.cons (.idx (.var 10) (.con (.int 1))) (.cons (.var 4) .nil))))))) (.cons (.ret (.con (.bl false)))
  .nil) .nil)
  (.cons (.try_ .BadNumber (some 11) (.cons (.ex (.call .likest (.cons (.var 3) (.cons (.var 2) (.cons (.idx (.lst (.cons (.bin .Sub (.con (.int 0)) (.con (.int 1))) (.cons (.con (.int 4)) (.cons (.con (.int 100)) .nil)))) (.call .law_taken (.cons (.var 1) (.cons (.con (.int 3)) .nil)))) .nil)))))
  .nil) (.cons (.ret (.isE 11 .ValueError))
  .nil))
  (.cons (.ret (.con (.bl false)))
  .nil)))))))))))))))
def B_must : Ss := (.cons (.ifs (.or (.cmp .GtE (.var 1) (.blt .len (.cons (.var 0) .nil))) (.cmp .NotIn (.idx (.var 0) (.var 1)) (.var 2))) (.cons (.par 0 0 (.callC 0) (.callC 0))
  .nil) .nil)
  .nil)
def B_body_at : Ss := (.cons (.asg 2 (.ref (.lst .nil)))
  (.cons (.whl (.and (.cmp .Lt (.var 1) (.blt .len (.cons (.var 0) .nil))) (.inG true (.idx (.var 0) (.var 1)))) (.cons (.asg 3 (.idx (.var 0) (.var 1)))
  (.cons (.asg 1 (.bin .Add (.var 1) (.con (.int 1))))
  (.cons (.ifs (.cmp .In (.var 3) (.glo .DOINGS)) (.cons (.ex (.mth .append (.var 2) (.cons (.tup (.cons (.var 3) .nil)) .nil)))
  .nil) (.cons (.ex (.call .must (.cons (.var 0) (.cons (.var 1) (.cons (.glo .ASKS) .nil)))))
  (.cons (.asg 4 (.ref (.lst (.cons (.var 3) (.cons (.idx (.var 0) (.var 1)) .nil)))))
  (.cons (.asg 1 (.bin .Add (.var 1) (.con (.int 1))))
  (.cons (.for_ 5 (.rng (.cons (.bin .Sub (.getG (.var 3)) (.con (.int 2))) .nil)) (.cons (.ex (.call .must (.cons (.var 0) (.cons (.var 1) (.cons (.tup (.cons (.con (.str [40])) .nil)) .nil)))))
  (.cons (.unp [6, 1] (.call .body_at (.cons (.var 0) (.cons (.bin .Add (.var 1) (.con (.int 1))) .nil))))
  (.cons (.ex (.call .must (.cons (.var 0) (.cons (.var 1) (.cons (.tup (.cons (.con (.str [41])) .nil)) .nil)))))
  (.cons (.ex (.mth .append (.var 4) (.cons (.var 6) .nil)))
  (.cons (.asg 1 (.bin .Add (.var 1) (.con (.int 1))))
  .nil))))))
  (.cons (.ex (.mth .append (.var 2) (.cons (.blt .tuple (.cons (.var 4) .nil)) .nil)))
  .nil))))))
  .nil))))
  (.cons (.ret (.tup (.cons (.blt .tuple (.cons (.var 2) .nil)) (.cons (.var 1) .nil))))
  .nil)))
def B_read : Ss := (.cons (.asg 1 (.ife (.cmp .NotEq (.var 0) (.con (.str []))) (.mth .split (.var 0) (.cons (.con (.str [32])) .nil)) (.lst .nil)))
  (.cons (.unp [2, 3] (.call .body_at (.cons (.var 1) (.cons (.con (.int 0)) .nil))))
  (.cons (.ifs (.cmp .Lt (.var 3) (.blt .len (.cons (.var 1) .nil))) (.cons (.par 0 0 (.callC 0) (.callC 0))
  .nil) .nil)
  (.cons (.ex (.call .need_program (.cons (.var 2) .nil)))
  (.cons (.ret (.var 2))
  .nil)))))
def B_law_k13 : Ss := (.cons (.asg 1 (.ref (.lst (.cons (.var 0) (.cons (.con (.int 0)) (.cons (.con (.int 0)) (.cons (.con (.int 0)) .nil)))))))
  (.cons (.for_ 2 (.rng (.cons (.con (.int 4)) .nil)) (.cons (.asg 3 (.call .law_program_k04 (.cons (.var 1) (.cons (.con (.int 30)) .nil))))
  (.cons (.asg 4 (.mth .join (.con (.str [32])) (.cons (.call .law_words_k12 (.cons (.var 3) .nil)) .nil)))
  (.cons (.asg 5 (.call .read (.cons (.var 4) .nil)))
  (.cons (.ifs (.or (.not (.call .law_alike (.cons (.call .written (.cons (.var 3) .nil)) (.cons (.var 4) .nil)))) (.or (.not (.call .law_alike (.cons (.var 5) (.cons (.var 3) .nil)))) (.cmp .NotEq (.call .written (.cons (.var 5) .nil)) (.var 4)))) (.cons (.ret (.con (.bl false)))
  .nil) .nil)
  (.cons (.asg 6 (.call .law_scene (.cons (.var 1) (.cons (.call .law_size (.cons (.var 1) (.cons (.call .law_cells (.cons (.var 3) .nil)) .nil))) .nil))))
  (.cons (.ifs (.not (.call .law_alike (.cons (.call .ran (.cons (.var 5) (.cons (.var 6) .nil))) (.cons (.call .law_walked_k04 (.cons (.var 3) (.cons (.var 6) .nil))) .nil)))) (.cons (.ret (.con (.bl false)))
  .nil) .nil)
  .nil)))))))
  (.cons (.ret (.con (.bl true)))
  .nil)))
def B_law_took : Ss := (.cons (.asg 2 (.idx (.var 0) (.neg (.con (.int 1)))))
  (.cons (.ifs (.and (.cmp .NotEq (.var 2) (.lst .nil)) (.isi (.idx (.var 2) (.con (.int 0))) [.str])) (.cons (.ifs (.cmp .Eq (.blt .len (.cons (.var 2) .nil)) (.con (.int 1))) (.cons (.ex (.mth .append (.var 2) (.cons (.var 1) .nil)))
  (.cons (.ret (.cmp .In (.var 1) (.tup (.cons (.con (.str [111, 112, 101, 110])) (.cons (.con (.str [115, 116, 111, 110, 101])) (.cons (.con (.str [104, 101, 108, 100])) .nil))))))
  .nil)) .nil)
  (.cons (.ex (.mth .append (.var 0) (.cons (.lst .nil) .nil)))
  (.cons (.ret (.cmp .Eq (.var 1) (.con (.str [40]))))
  .nil))) .nil)
  (.cons (.ifs (.cmp .In (.var 1) (.tup (.cons (.con (.str [103, 111])) (.cons (.con (.str [116, 117, 114, 110])) (.cons (.con (.str [116, 97, 107, 101])) (.cons (.con (.str [112, 117, 116])) .nil)))))) (.cons (.ex (.mth .append (.var 2) (.cons (.tup (.cons (.var 1) .nil)) .nil)))
  (.cons (.ret (.con (.bl true)))
  .nil)) .nil)
  (.cons (.ifs (.and (.cmp .Eq (.var 1) (.con (.str [41]))) (.cmp .Gt (.blt .len (.cons (.var 0) .nil)) (.con (.int 1)))) (.cons (.ex (.call .law_closed (.cons (.var 0) .nil)))
  (.cons (.ret (.con (.bl true)))
  .nil)) .nil)
  (.cons (.ex (.mth .append (.var 0) (.cons (.lst (.cons (.var 1) .nil)) .nil)))
  (.cons (.ret (.cmp .In (.var 1) (.tup (.cons (.con (.str [105, 102])) (.cons (.con (.str [119, 104, 105, 108, 101])) .nil)))))
  .nil))))))
def B_law_reading : Ss := (.cons (.asg 1 (.ife (.cmp .NotEq (.var 0) (.con (.str []))) (.mth .split (.var 0) (.cons (.con (.str [32])) .nil)) (.lst .nil)))
  (.cons (.asg 2 (.lst (.cons (.lst .nil) .nil)))
  (.cons (.for_ 3 (.rng (.cons (.blt .len (.cons (.var 1) .nil)) .nil)) (.cons (.ifs (.not (.call .law_took (.cons (.var 2) (.cons (.idx (.var 1) (.var 3)) .nil)))) (.cons (.ret (.tup (.cons (.con (.str [112, 108, 97, 99, 101])) (.cons (.var 3) .nil))))
  .nil) .nil)
  .nil))
  (.cons (.ifs (.cmp .Gt (.blt .len (.cons (.var 2) .nil)) (.con (.int 1))) (.cons (.ret (.tup (.cons (.con (.str [112, 108, 97, 99, 101])) (.cons (.blt .len (.cons (.var 1) .nil)) .nil))))
  .nil) .nil)
  (.cons (.asg 4 (.blt .tuple (.cons (.idx (.var 2) (.con (.int 0))) .nil)))
  (.cons (.ret (.ife (.call .law_is_program (.cons (.var 4) .nil)) (.tup (.cons (.con (.str [114, 101, 97, 100])) (.cons (.var 4) .nil))) (.tup (.cons (.con (.str [112, 114, 111, 103, 114, 97, 109])) .nil))))
  .nil))))))
def B_law_told_k14 : Ss := (.cons (.try_ .HandError (some 1) (.cons (.ret (.tup (.cons (.con (.str [114, 101, 97, 100])) (.cons (.call .read (.cons (.var 0) .nil)) .nil))))
  .nil) (.cons (.asg 2 (.or (.isE 1 .BadField) (.or (.isE 1 .BadNumber) (.or (.isE 1 .BadSize) (.isE 1 .BadWish)))))
  (.cons (.asg 3 (.lst (.cons (.isE 1 .BadText) (.cons (.isE 1 .BadProgram) (.cons (.var 2) (.cons (.not (.isE 1 .ValueError)) .nil))))))
  (.cons (.ifs (.cmp .Eq (.var 3) (.lst (.cons (.con (.bl true)) (.cons (.con (.bl false)) (.cons (.con (.bl false)) (.cons (.con (.bl false)) .nil)))))) (.cons (.ret (.tup (.cons (.con (.str [112, 108, 97, 99, 101])) (.cons (.place 1) .nil))))
  .nil) .nil)
  (.cons (.ret (.ife (.cmp .Eq (.var 3) (.lst (.cons (.con (.bl false)) (.cons (.con (.bl true)) (.cons (.con (.bl false)) (.cons (.con (.bl false)) .nil)))))) (.tup (.cons (.con (.str [112, 114, 111, 103, 114, 97, 109])) .nil)) (.tup (.cons (.con (.str [111, 116, 104, 101, 114])) .nil))))
  .nil)))))
  .nil)
def B_law_changed : Ss := (.cons (.asg 2 (.call .law_taken (.cons (.var 0) (.cons (.con (.int 9)) .nil))))
  (.cons (.asg 3 (.call .law_taken (.cons (.var 0) (.cons (.bin .Add (.blt .len (.cons (.var 1) .nil)) (.con (.int 1))) .nil))))
  (.cons (.asg 4 (.idx (.con (.str [103, 111, 116, 117, 114, 110, 97, 107, 101, 112, 105, 102, 119, 104, 108, 115, 100, 32, 40, 41, 46])) (.call .law_taken (.cons (.var 0) (.cons (.con (.int 21)) .nil)))))
  (.cons (.ifs (.cmp .Lt (.var 2) (.con (.int 3))) (.cons (.ret (.bin .Add (.bin .Add (.slc (.var 1) (.con .non) (.var 3)) (.idx (.lst (.cons (.var 4) (.cons (.con (.str [])) (.cons (.con (.str [32])) .nil)))) (.var 2))) (.slc (.var 1) (.bin .Add (.var 3) (.blt .int (.cons (.cmp .Gt (.var 2) (.con (.int 0))) .nil))) (.con .non))))
  .nil) .nil)
  (.cons (.asg 5 (.mth .split (.var 1) (.cons (.con (.str [32])) .nil)))
  (.cons (.asg 6 (.call .law_taken (.cons (.var 0) (.cons (.blt .len (.cons (.var 5) .nil)) .nil))))
  (.cons (.asg 7 (.lst (.cons (.con (.str [])) (.cons (.con (.str [40])) (.cons (.con (.str [41])) (.cons (.con (.str [103, 111])) (.cons (.con (.str [105, 102])) (.cons (.con (.str [119, 104, 105, 108, 101])) (.cons (.con (.str [111, 112, 101, 110])) (.cons (.con (.str [115, 116, 111, 110, 101])) (.cons (.con (.str [104, 101, 108, 100])) (.cons (.con (.str [71, 111])) (.cons (.con (.str [40, 41])) (.cons (.con (.str [112, 117, 116])) (.cons (.con (.str [101, 108, 115, 101])) .nil)))))))))))))))
  (.cons (.ifs (.cmp .Eq (.var 2) (.con (.int 3))) (.cons (.asg 5 (.bin .Add (.slc (.var 5) (.con .non) (.var 6)) (.slc (.var 5) (.bin .Add (.var 6) (.con (.int 1))) (.con .non))))
  .nil) .nil)
  (.cons (.ifs (.cmp .Eq (.var 2) (.con (.int 4))) (.cons (.asg 5 (.bin .Add (.slc (.var 5) (.con .non) (.bin .Add (.var 6) (.con (.int 1)))) (.slc (.var 5) (.var 6) (.con .non))))
  .nil) .nil)
  (.cons (.ifs (.cmp .Eq (.var 2) (.con (.int 5))) (.cons (.asg 8 (.bin .Add (.slc (.var 5) (.con .non) (.var 6)) (.slc (.var 5) (.bin .Add (.var 6) (.con (.int 1))) (.con .non))))
  (.cons (.asg 9 (.call .law_taken (.cons (.var 0) (.cons (.bin .Add (.blt .len (.cons (.var 8) .nil)) (.con (.int 1))) .nil))))
  (.cons (.asg 5 (.bin .Add (.bin .Add (.slc (.var 8) (.con .non) (.var 9)) (.slc (.var 5) (.var 6) (.bin .Add (.var 6) (.con (.int 1))))) (.slc (.var 8) (.var 9) (.con .non))))
  .nil))) .nil)
  (.cons (.ifs (.cmp .Eq (.var 2) (.con (.int 6))) (.cons (.asg 5 (.bin .Add (.bin .Add (.slc (.var 5) (.con .non) (.var 6)) (.lst (.cons (.idx (.var 7) (.call .law_taken (.cons (.var 0) (.cons (.con (.int 13)) .nil)))) .nil))) (.slc (.var 5) (.bin .Add (.var 6) (.con (.int 1))) (.con .non))))
  .nil) .nil)
  (.cons (.ifs (.cmp .Eq (.var 2) (.con (.int 7))) (.cons (.asg 5 (.bin .Add (.bin .Mult (.lst (.cons (.con (.str [119, 104, 105, 108, 101])) (.cons (.con (.str [104, 101, 108, 100])) (.cons (.con (.str [40])) .nil)))) (.bin .Add (.con (.int 3)) (.call .law_taken (.cons (.var 0) (.cons (.con (.int 4)) .nil))))) (.slc (.var 5) (.con .non) (.con (.int 8)))))
  (.cons (.asg 5 (.bin .Add (.var 5) (.bin .Mult (.lst (.cons (.con (.str [41])) .nil)) (.bin .Add (.con (.int 3)) (.call .law_taken (.cons (.var 0) (.cons (.con (.int 4)) .nil)))))))
  .nil)) .nil)
  (.cons (.ifs (.cmp .Eq (.var 2) (.con (.int 8))) (.cons (.asg 5 (.slc (.bin .Add (.bin .Mult (.lst (.cons (.con (.str [103, 111])) .nil)) (.bin .Add (.con (.int 20)) (.call .law_taken (.cons (.var 0) (.cons (.con (.int 13)) .nil))))) (.var 5)) (.con .non) (.con (.int 60))))
  .nil) .nil)
  (.cons (.ret (.slc (.mth .join (.con (.str [32])) (.cons (.var 5) .nil)) (.con .non) (.con (.int 400))))
  .nil))))))))))))))
def B_law_k14 : Ss := (.cons (.asg 1 (.ref (.lst (.cons (.var 0) (.cons (.con (.int 0)) (.cons (.con (.int 0)) (.cons (.con (.int 0)) .nil)))))))
  (.cons (.asg 2 (.lst (.cons (.con (.str [])) (.cons (.con (.str [32])) (.cons (.con (.str [40])) (.cons (.con (.str [41])) (.cons (.con (.str [103, 111, 32, 103, 111])) (.cons (.con (.str [103, 111, 32, 32, 103, 111])) (.cons (.con (.str [105, 102])) (.cons (.con (.str [105, 102, 32, 111, 112, 101, 110])) (.cons (.con (.str [105, 102, 32, 111, 112, 101, 110, 32, 40])) (.cons (.con (.str [105, 102, 32, 111, 112, 101, 110, 32, 40, 32, 41])) (.cons (.con (.str [105, 102, 32, 111, 112, 101, 110, 32, 40, 32, 41, 32, 40])) (.cons (.con (.str [119, 104, 105, 108, 101])) .nil))))))))))))))
  (.cons (.asg 2 (.bin .Add (.var 2) (.lst (.cons (.con (.str [105, 102, 32, 111, 112, 101, 110, 32, 40, 32, 41, 32, 40, 32, 41])) (.cons (.con (.str [119, 104, 105, 108, 101, 32, 104, 101, 108, 100, 32, 40, 32, 41, 32, 40, 32, 41])) (.cons (.con (.str [119, 104, 105, 108, 101, 32, 104, 101, 108, 100, 32, 40, 32, 41])) (.cons (.con (.str [119, 104, 105, 108, 101, 32, 111, 112, 101, 110, 32, 103, 111])) (.cons (.con (.str [103, 111, 32, 41])) (.cons (.con (.str [32, 103, 111])) (.cons (.con (.str [103, 111, 32])) .nil))))))))))
  (.cons (.for_ 3 (.rng (.cons (.con (.int 5)) .nil)) (.cons (.asg 4 (.slc (.mth .join (.con (.str [32])) (.cons (.call .law_words_k12 (.cons (.call .law_program_k04 (.cons (.var 1) (.cons (.con (.int 30)) .nil))) .nil)) .nil)) (.con .non) (.con (.int 400))))
  (.cons (.for_ 5 (.rng (.cons (.bin .Add (.con (.int 1)) (.call .law_taken (.cons (.var 1) (.cons (.con (.int 3)) .nil)))) .nil)) (.cons (.ifs (.not (.call .law_alike (.cons (.call .law_told_k14 (.cons (.var 4) .nil)) (.cons (.call .law_reading (.cons (.var 4) .nil)) .nil)))) (.cons (.ret (.con (.bl false)))
  .nil) .nil)
  (.cons (.asg 4 (.call .law_changed (.cons (.var 1) (.cons (.var 4) .nil))))
  .nil)))
  (.cons (.for_ 6 (.seq (.lst (.cons (.var 4) (.cons (.idx (.var 2) (.call .law_taken (.cons (.var 1) (.cons (.con (.int 19)) .nil)))) .nil)))) (.cons (.ifs (.not (.call .law_alike (.cons (.call .law_told_k14 (.cons (.var 6) .nil)) (.cons (.call .law_reading (.cons (.var 6) .nil)) .nil)))) (.cons (.ret (.con (.bl false)))
  .nil) .nil)
  .nil))
  .nil))))
  (.cons (.ret (.con (.bl true)))
  .nil)))))
def B_law_asked : Ss := (.cons (.ifs (.cmp .Eq (.var 0) (.con (.int 0))) (.cons (.ret (.lst (.cons (.call .ran (.cons (.var 1) (.cons (.var 2) .nil))) (.cons (.call .ring (.cons (.var 1) (.cons (.var 2) .nil))) (.cons (.call .turned (.cons (.var 2) .nil)) .nil)))))
  .nil) .nil)
  (.cons (.ifs (.cmp .Eq (.var 0) (.con (.int 1))) (.cons (.ret (.call .passed (.cons (.var 1) (.cons (.var 2) (.cons (.con (.int 20)) .nil)))))
  .nil) .nil)
  (.cons (.ifs (.cmp .Eq (.var 0) (.con (.int 2))) (.cons (.ret (.call .fields (.cons (.var 3) .nil)))
  .nil) .nil)
  (.cons (.ifs (.cmp .Eq (.var 0) (.con (.int 3))) (.cons (.ret (.lst (.cons (.call .fails (.cons (.var 1) (.cons (.var 3) (.cons (.var 4) .nil)))) (.cons (.call .parted (.cons (.var 1) (.cons (.tup (.cons (.tup (.cons (.con (.str [116, 117, 114, 110])) .nil)) .nil)) (.cons (.var 3) .nil)))) (.cons (.call .begun (.cons (.tup (.cons (.con (.str [46, 111])) (.cons (.con (.str [111, 35])) .nil))) .nil)) .nil)))))
  .nil) .nil)
  (.cons (.ifs (.cmp .Eq (.var 0) (.con (.int 4))) (.cons (.ret (.blt .list (.cons (.call .shortest (.cons (.var 3) (.cons (.var 4) (.cons (.con (.int 1)) .nil)))) .nil)))
  .nil) .nil)
  (.cons (.ifs (.cmp .Eq (.var 0) (.con (.int 5))) (.cons (.ret (.blt .list (.cons (.call .likest (.cons (.var 1) (.cons (.var 3) (.cons (.con (.int 1)) .nil)))) .nil)))
  .nil) .nil)
  (.cons (.ret (.lst (.cons (.call .written (.cons (.var 1) .nil)) (.cons (.call .read (.cons (.call .written (.cons (.var 1) .nil)) .nil)) .nil))))
  .nil)))))))
def B_law_copied : Ss := (.cons (.ret (.comp0 1 (.seq (.var 0)) (.ife (.isi (.var 1) [.list]) (.blt .list (.cons (.var 1) .nil)) (.var 1))))
  .nil)
def B_law_k15 : Ss := (.cons (.asg 1 (.ref (.lst (.cons (.var 0) (.cons (.con (.int 0)) (.cons (.con (.int 0)) (.cons (.con (.int 0)) .nil)))))))
  (.cons (.asg 2 (.ref (.lst .nil)))
  (.cons (.for_ 3 (.rng (.cons (.con (.int 2)) .nil)) (.cons (.asg 4 (.call .law_program_k04 (.cons (.var 1) (.cons (.con (.int 6)) .nil))))
  (.cons (.ex (.mth .append (.var 2) (.cons (.tup (.cons (.var 4) (.cons (.call .law_scene (.cons (.var 1) (.cons (.call .law_size (.cons (.var 1) (.cons (.con (.int 36)) .nil))) .nil))) (.cons (.call .law_size (.cons (.var 1) (.cons (.con (.int 4)) .nil))) (.cons (.call .law_wish (.cons (.var 1) .nil)) .nil))))) .nil)))
  .nil)))
  (.cons (.asg 5 (.ref (.lst .nil)))
  (.cons (.forT [4, 6, 7, 8] (.seq (.var 2)) (.cons (.ex (.mth .append (.var 5) (.cons (.comp0 9 (.rng (.cons (.con (.int 7)) .nil)) (.call .law_copied (.cons (.call .law_asked (.cons (.var 9) (.cons (.var 4) (.cons (.var 6) (.cons (.var 7) (.cons (.var 8) .nil)))))) .nil))) .nil)))
  .nil))
  (.cons (.for_ 10 (.rng (.cons (.bin .Add (.con (.int 1)) (.call .law_taken (.cons (.var 1) (.cons (.con (.int 12)) .nil)))) .nil)) (.cons (.asg 3 (.call .law_taken (.cons (.var 1) (.cons (.con (.int 2)) .nil))))
  (.cons (.asg 9 (.call .law_taken (.cons (.var 1) (.cons (.con (.int 7)) .nil))))
  (.cons (.unp [4, 6, 7, 8] (.idx (.var 2) (.var 3)))
  (.cons (.asg 11 (.call .law_asked (.cons (.var 9) (.cons (.var 4) (.cons (.var 6) (.cons (.var 7) (.cons (.var 8) .nil)))))))
  (.cons (.ifs (.not (.call .law_alike (.cons (.var 11) (.cons (.idx (.idx (.var 5) (.var 3)) (.var 9)) .nil)))) (.cons (.ret (.con (.bl false)))
  .nil) .nil)
  (.cons (.for_ 12 (.seq (.var 11)) (.cons (.ifs (.isi (.var 12) [.list]) (.cons (.ex (.mth .append (.var 12) (.cons (.tup (.cons (.con (.str [122, 122])) .nil)) .nil)))
  (.cons (.ex (.mth .reverse (.var 12) .nil))
  .nil)) .nil)
  .nil))
  (.cons (.ex (.mth .append (.var 11) (.cons (.tup (.cons (.con (.str [122, 122])) .nil)) .nil)))
  (.cons (.ex (.mth .reverse (.var 11) .nil))
  .nil)))))))))
  (.cons (.ret (.con (.bl true)))
  .nil)))))))
def Gam : F → Fn
  | .are_rows => ⟨1, 3, B_are_rows⟩
  | .need_scene => ⟨1, 6, B_need_scene⟩
  | .begun => ⟨1, 2, B_begun⟩
  | .turned => ⟨1, 9, B_turned⟩
  | .cell_ahead => ⟨1, 6, B_cell_ahead⟩
  | .is_so => ⟨2, 7, B_is_so⟩
  | .with_sign => ⟨4, 5, B_with_sign⟩
  | .behind => ⟨2, 8, B_behind⟩
  | .are_steps => ⟨2, 4, B_are_steps⟩
  | .count_ => ⟨1, 3, B_count_⟩
  | .need_program => ⟨1, 1, B_need_program⟩
  | .lines_of => ⟨2, 9, B_lines_of⟩
  | .Run_init => ⟨3, 3, B_Run_init⟩
  | .Run_go_on => ⟨1, 2, B_Run_go_on⟩
  | .Run_step => ⟨1, 3, B_Run_step⟩
  | .run_of => ⟨2, 3, B_run_of⟩
  | .ran => ⟨2, 2, B_ran⟩
  | .ring => ⟨2, 2, B_ring⟩
  | .passed => ⟨3, 5, B_passed⟩
  | .law_taken => ⟨2, 4, B_law_taken⟩
  | .law_alike => ⟨2, 3, B_law_alike⟩
  | .law_size => ⟨2, 3, B_law_size⟩
  | .law_rows => ⟨2, 6, B_law_rows⟩
  | .law_field => ⟨2, 4, B_law_field⟩
  | .law_scene => ⟨2, 5, B_law_scene⟩
  | .law_turned => ⟨1, 9, B_law_turned⟩
  | .law_odd_rows => ⟨2, 8, B_law_odd_rows⟩
  | .law_odd_scene => ⟨2, 10, B_law_odd_scene⟩
  | .law_refused_k01 => ⟨1, 3, B_law_refused_k01⟩
  | .law_k01 => ⟨1, 11, B_law_k01⟩
  | .steps_in => ⟨1, 1, B_steps_in⟩
  | .need_size => ⟨2, 2, B_need_size⟩
  | .need_wish => ⟨1, 2, B_need_wish⟩
  | .all_rows => ⟨1, 9, B_all_rows⟩
  | .all_fields => ⟨1, 2, B_all_fields⟩
  | .is_kept => ⟨3, 3, B_is_kept⟩
  | .keeps => ⟨3, 5, B_keeps⟩
  | .first_failed => ⟨3, 4, B_first_failed⟩
  | .fails => ⟨3, 3, B_fails⟩
  | .are_unlike => ⟨3, 3, B_are_unlike⟩
  | .parted => ⟨3, 4, B_parted⟩
  | .all_scenes => ⟨1, 8, B_all_scenes⟩
  | .everywhere => ⟨3, 4, B_everywhere⟩
  | .words_of => ⟨1, 4, B_words_of⟩
  | .text_of => ⟨1, 1, B_text_of⟩
  | .written => ⟨1, 1, B_written⟩
  | .need_long => ⟨1, 1, B_need_long⟩
  | .single => ⟨2, 8, B_single⟩
  | .all_programs => ⟨1, 10, B_all_programs⟩
  | .outcomes => ⟨2, 3, B_outcomes⟩
  | .likest => ⟨3, 9, B_likest⟩
  | .law_body => ⟨3, 5, B_law_body⟩
  | .law_step => ⟨3, 5, B_law_step⟩
  | .law_program_k02 => ⟨2, 7, B_law_program_k02⟩
  | .law_count => ⟨1, 4, B_law_count⟩
  | .law_is_program => ⟨1, 1, B_law_is_program⟩
  | .law_odd => ⟨1, 2, B_law_odd⟩
  | .law_around_k02 => ⟨3, 5, B_law_around_k02⟩
  | .law_spoilt => ⟨2, 5, B_law_spoilt⟩
  | .law_word_k02 => ⟨1, 3, B_law_word_k02⟩
  | .law_k02 => ⟨1, 7, B_law_k02⟩
  | .law_ahead => ⟨1, 6, B_law_ahead⟩
  | .law_so => ⟨2, 2, B_law_so⟩
  | .law_done_k03 => ⟨2, 10, B_law_done_k03⟩
  | .law_walked_k03 => ⟨2, 4, B_law_walked_k03⟩
  | .law_stepped_k03 => ⟨2, 5, B_law_stepped_k03⟩
  | .law_refused_k03 => ⟨3, 4, B_law_refused_k03⟩
  | .law_k03 => ⟨1, 16, B_law_k03⟩
  | .law_program_k04 => ⟨2, 7, B_law_program_k04⟩
  | .law_walked_k04 => ⟨2, 4, B_law_walked_k04⟩
  | .law_stepped_k04 => ⟨2, 5, B_law_stepped_k04⟩
  | .law_has => ⟨2, 4, B_law_has⟩
  | .law_cells => ⟨1, 1, B_law_cells⟩
  | .law_k04 => ⟨1, 6, B_law_k04⟩
  | .law_numbered => ⟨2, 7, B_law_numbered⟩
  | .law_at_step => ⟨2, 6, B_law_at_step⟩
  | .law_ring => ⟨2, 7, B_law_ring⟩
  | .law_passed => ⟨3, 7, B_law_passed⟩
  | .law_counter => ⟨0, 1, B_law_counter⟩
  | .law_k05 => ⟨1, 13, B_law_k05⟩
  | .law_k06 => ⟨1, 11, B_law_k06⟩
  | .fields => ⟨1, 1, B_fields⟩
  | .law_fields_k07 => ⟨1, 7, B_law_fields_k07⟩
  | .law_refused_k07 => ⟨1, 3, B_law_refused_k07⟩
  | .law_is_far => ⟨1, 1, B_law_is_far⟩
  | .law_k07 => ⟨1, 9, B_law_k07⟩
  | .law_fields_k08 => ⟨1, 7, B_law_fields_k08⟩
  | .law_wish => ⟨1, 4, B_law_wish⟩
  | .law_refused_k08 => ⟨3, 5, B_law_refused_k08⟩
  | .law_k08 => ⟨1, 9, B_law_k08⟩
  | .law_other => ⟨2, 5, B_law_other⟩
  | .law_k09 => ⟨1, 9, B_law_k09⟩
  | .law_scenes => ⟨1, 9, B_law_scenes⟩
  | .law_same => ⟨2, 5, B_law_same⟩
  | .law_pair => ⟨1, 4, B_law_pair⟩
  | .law_around_k10 => ⟨2, 8, B_law_around_k10⟩
  | .law_k10 => ⟨1, 11, B_law_k10⟩
  | .shortest => ⟨3, 7, B_shortest⟩
  | .law_done_k11 => ⟨2, 10, B_law_done_k11⟩
  | .law_words_k11 => ⟨1, 4, B_law_words_k11⟩
  | .law_long_k11 => ⟨2, 8, B_law_long_k11⟩
  | .law_all_k11 => ⟨1, 10, B_law_all_k11⟩
  | .law_word_k11 => ⟨3, 5, B_law_word_k11⟩
  | .law_shown_k11 => ⟨4, 6, B_law_shown_k11⟩
  | .law_k11 => ⟨1, 12, B_law_k11⟩
  | .law_words_k12 => ⟨1, 4, B_law_words_k12⟩
  | .law_long_k12 => ⟨2, 8, B_law_long_k12⟩
  | .law_all_k12 => ⟨1, 10, B_law_all_k12⟩
  | .law_told_k12 => ⟨1, 3, B_law_told_k12⟩
  | .law_outs => ⟨2, 3, B_law_outs⟩
  | .law_shown_k12 => ⟨4, 6, B_law_shown_k12⟩
  | .law_k12 => ⟨1, 12, B_law_k12⟩
  | .must => ⟨3, 3, B_must⟩
  | .body_at => ⟨2, 7, B_body_at⟩
  | .read => ⟨1, 4, B_read⟩
  | .law_k13 => ⟨1, 7, B_law_k13⟩
  | .law_took => ⟨2, 3, B_law_took⟩
  | .law_reading => ⟨1, 5, B_law_reading⟩
  | .law_told_k14 => ⟨1, 4, B_law_told_k14⟩
  | .law_changed => ⟨2, 10, B_law_changed⟩
  | .law_k14 => ⟨1, 7, B_law_k14⟩
  | .law_asked => ⟨5, 5, B_law_asked⟩
  | .law_copied => ⟨1, 2, B_law_copied⟩
  | .law_k15 => ⟨1, 13, B_law_k15⟩
  | _ => ⟨0, 0, .nil⟩
theorem c_are_rows (fu k : Nat) (a0 : D) (μ : Store) : callK Gam fu (k + 1) .are_rows [a0] μ = (exs (callK Gam fu k) fu B_are_rows none [some a0, none, none] μ).res := rfl
theorem c_need_scene (fu k : Nat) (a0 : D) (μ : Store) : callK Gam fu (k + 1) .need_scene [a0] μ = (exs (callK Gam fu k) fu B_need_scene none [some a0, none, none, none, none, none] μ).res := rfl
theorem c_begun (fu k : Nat) (a0 : D) (μ : Store) : callK Gam fu (k + 1) .begun [a0] μ = (exs (callK Gam fu k) fu B_begun none [some a0, none] μ).res := rfl
theorem c_turned (fu k : Nat) (a0 : D) (μ : Store) : callK Gam fu (k + 1) .turned [a0] μ = (exs (callK Gam fu k) fu B_turned none [some a0, none, none, none, none, none, none, none, none] μ).res := rfl
theorem c_cell_ahead (fu k : Nat) (a0 : D) (μ : Store) : callK Gam fu (k + 1) .cell_ahead [a0] μ = (exs (callK Gam fu k) fu B_cell_ahead none [some a0, none, none, none, none, none] μ).res := rfl
theorem c_is_so (fu k : Nat) (a0 a1 : D) (μ : Store) : callK Gam fu (k + 1) .is_so [a0, a1] μ = (exs (callK Gam fu k) fu B_is_so none [some a0, some a1, none, none, none, none, none] μ).res := rfl
theorem c_with_sign (fu k : Nat) (a0 a1 a2 a3 : D) (μ : Store) : callK Gam fu (k + 1) .with_sign [a0, a1, a2, a3] μ = (exs (callK Gam fu k) fu B_with_sign none [some a0, some a1, some a2, some a3, none] μ).res := rfl
theorem c_behind (fu k : Nat) (a0 a1 : D) (μ : Store) : callK Gam fu (k + 1) .behind [a0, a1] μ = (exs (callK Gam fu k) fu B_behind none [some a0, some a1, none, none, none, none, none, none] μ).res := rfl
theorem c_are_steps (fu k : Nat) (a0 a1 : D) (μ : Store) : callK Gam fu (k + 1) .are_steps [a0, a1] μ = (exs (callK Gam fu k) fu B_are_steps none [some a0, some a1, none, none] μ).res := rfl
theorem c_count_ (fu k : Nat) (a0 : D) (μ : Store) : callK Gam fu (k + 1) .count_ [a0] μ = (exs (callK Gam fu k) fu B_count_ none [some a0, none, none] μ).res := rfl
theorem c_need_program (fu k : Nat) (a0 : D) (μ : Store) : callK Gam fu (k + 1) .need_program [a0] μ = (exs (callK Gam fu k) fu B_need_program none [some a0] μ).res := rfl
theorem c_lines_of (fu k : Nat) (a0 a1 : D) (μ : Store) : callK Gam fu (k + 1) .lines_of [a0, a1] μ = (exs (callK Gam fu k) fu B_lines_of none [some a0, some a1, none, none, none, none, none, none, none] μ).res := rfl
theorem c_Run_init (fu k : Nat) (a0 a1 a2 : D) (μ : Store) : callK Gam fu (k + 1) .Run_init [a0, a1, a2] μ = (exs (callK Gam fu k) fu B_Run_init none [some a0, some a1, some a2] μ).res := rfl
theorem c_Run_go_on (fu k : Nat) (a0 : D) (μ : Store) : callK Gam fu (k + 1) .Run_go_on [a0] μ = (exs (callK Gam fu k) fu B_Run_go_on none [some a0, none] μ).res := rfl
theorem c_Run_step (fu k : Nat) (a0 : D) (μ : Store) : callK Gam fu (k + 1) .Run_step [a0] μ = (exs (callK Gam fu k) fu B_Run_step none [some a0, none, none] μ).res := rfl
theorem c_run_of (fu k : Nat) (a0 a1 : D) (μ : Store) : callK Gam fu (k + 1) .run_of [a0, a1] μ = (exs (callK Gam fu k) fu B_run_of none [some a0, some a1, none] μ).res := rfl
theorem c_ran (fu k : Nat) (a0 a1 : D) (μ : Store) : callK Gam fu (k + 1) .ran [a0, a1] μ = (exs (callK Gam fu k) fu B_ran none [some a0, some a1] μ).res := rfl
theorem c_ring (fu k : Nat) (a0 a1 : D) (μ : Store) : callK Gam fu (k + 1) .ring [a0, a1] μ = (exs (callK Gam fu k) fu B_ring none [some a0, some a1] μ).res := rfl
theorem c_passed (fu k : Nat) (a0 a1 a2 : D) (μ : Store) : callK Gam fu (k + 1) .passed [a0, a1, a2] μ = (exs (callK Gam fu k) fu B_passed none [some a0, some a1, some a2, none, none] μ).res := rfl
theorem c_law_taken (fu k : Nat) (a0 a1 : D) (μ : Store) : callK Gam fu (k + 1) .law_taken [a0, a1] μ = (exs (callK Gam fu k) fu B_law_taken none [some a0, some a1, none, none] μ).res := rfl
theorem c_law_alike (fu k : Nat) (a0 a1 : D) (μ : Store) : callK Gam fu (k + 1) .law_alike [a0, a1] μ = (exs (callK Gam fu k) fu B_law_alike none [some a0, some a1, none] μ).res := rfl
theorem c_law_size (fu k : Nat) (a0 a1 : D) (μ : Store) : callK Gam fu (k + 1) .law_size [a0, a1] μ = (exs (callK Gam fu k) fu B_law_size none [some a0, some a1, none] μ).res := rfl
theorem c_law_rows (fu k : Nat) (a0 a1 : D) (μ : Store) : callK Gam fu (k + 1) .law_rows [a0, a1] μ = (exs (callK Gam fu k) fu B_law_rows none [some a0, some a1, none, none, none, none] μ).res := rfl
theorem c_law_field (fu k : Nat) (a0 a1 : D) (μ : Store) : callK Gam fu (k + 1) .law_field [a0, a1] μ = (exs (callK Gam fu k) fu B_law_field none [some a0, some a1, none, none] μ).res := rfl
theorem c_law_scene (fu k : Nat) (a0 a1 : D) (μ : Store) : callK Gam fu (k + 1) .law_scene [a0, a1] μ = (exs (callK Gam fu k) fu B_law_scene none [some a0, some a1, none, none, none] μ).res := rfl
theorem c_law_turned (fu k : Nat) (a0 : D) (μ : Store) : callK Gam fu (k + 1) .law_turned [a0] μ = (exs (callK Gam fu k) fu B_law_turned none [some a0, none, none, none, none, none, none, none, none] μ).res := rfl
theorem c_law_odd_rows (fu k : Nat) (a0 a1 : D) (μ : Store) : callK Gam fu (k + 1) .law_odd_rows [a0, a1] μ = (exs (callK Gam fu k) fu B_law_odd_rows none [some a0, some a1, none, none, none, none, none, none] μ).res := rfl
theorem c_law_odd_scene (fu k : Nat) (a0 a1 : D) (μ : Store) : callK Gam fu (k + 1) .law_odd_scene [a0, a1] μ = (exs (callK Gam fu k) fu B_law_odd_scene none [some a0, some a1, none, none, none, none, none, none, none, none] μ).res := rfl
theorem c_law_refused_k01 (fu k : Nat) (a0 : D) (μ : Store) : callK Gam fu (k + 1) .law_refused_k01 [a0] μ = (exs (callK Gam fu k) fu B_law_refused_k01 none [some a0, none, none] μ).res := rfl
theorem c_law_k01 (fu k : Nat) (a0 : D) (μ : Store) : callK Gam fu (k + 1) .law_k01 [a0] μ = (exs (callK Gam fu k) fu B_law_k01 none [some a0, none, none, none, none, none, none, none, none, none, none] μ).res := rfl
theorem c_steps_in (fu k : Nat) (a0 : D) (μ : Store) : callK Gam fu (k + 1) .steps_in [a0] μ = (exs (callK Gam fu k) fu B_steps_in none [some a0] μ).res := rfl
theorem c_need_size (fu k : Nat) (a0 a1 : D) (μ : Store) : callK Gam fu (k + 1) .need_size [a0, a1] μ = (exs (callK Gam fu k) fu B_need_size none [some a0, some a1] μ).res := rfl
theorem c_need_wish (fu k : Nat) (a0 : D) (μ : Store) : callK Gam fu (k + 1) .need_wish [a0] μ = (exs (callK Gam fu k) fu B_need_wish none [some a0, none] μ).res := rfl
theorem c_all_rows (fu k : Nat) (a0 : D) (μ : Store) : callK Gam fu (k + 1) .all_rows [a0] μ = (exs (callK Gam fu k) fu B_all_rows none [some a0, none, none, none, none, none, none, none, none] μ).res := rfl
theorem c_all_fields (fu k : Nat) (a0 : D) (μ : Store) : callK Gam fu (k + 1) .all_fields [a0] μ = (exs (callK Gam fu k) fu B_all_fields none [some a0, none] μ).res := rfl
theorem c_is_kept (fu k : Nat) (a0 a1 a2 : D) (μ : Store) : callK Gam fu (k + 1) .is_kept [a0, a1, a2] μ = (exs (callK Gam fu k) fu B_is_kept none [some a0, some a1, some a2] μ).res := rfl
theorem c_keeps (fu k : Nat) (a0 a1 a2 : D) (μ : Store) : callK Gam fu (k + 1) .keeps [a0, a1, a2] μ = (exs (callK Gam fu k) fu B_keeps none [some a0, some a1, some a2, none, none] μ).res := rfl
theorem c_first_failed (fu k : Nat) (a0 a1 a2 : D) (μ : Store) : callK Gam fu (k + 1) .first_failed [a0, a1, a2] μ = (exs (callK Gam fu k) fu B_first_failed none [some a0, some a1, some a2, none] μ).res := rfl
theorem c_fails (fu k : Nat) (a0 a1 a2 : D) (μ : Store) : callK Gam fu (k + 1) .fails [a0, a1, a2] μ = (exs (callK Gam fu k) fu B_fails none [some a0, some a1, some a2] μ).res := rfl
theorem c_are_unlike (fu k : Nat) (a0 a1 a2 : D) (μ : Store) : callK Gam fu (k + 1) .are_unlike [a0, a1, a2] μ = (exs (callK Gam fu k) fu B_are_unlike none [some a0, some a1, some a2] μ).res := rfl
theorem c_parted (fu k : Nat) (a0 a1 a2 : D) (μ : Store) : callK Gam fu (k + 1) .parted [a0, a1, a2] μ = (exs (callK Gam fu k) fu B_parted none [some a0, some a1, some a2, none] μ).res := rfl
theorem c_all_scenes (fu k : Nat) (a0 : D) (μ : Store) : callK Gam fu (k + 1) .all_scenes [a0] μ = (exs (callK Gam fu k) fu B_all_scenes none [some a0, none, none, none, none, none, none, none] μ).res := rfl
theorem c_everywhere (fu k : Nat) (a0 a1 a2 : D) (μ : Store) : callK Gam fu (k + 1) .everywhere [a0, a1, a2] μ = (exs (callK Gam fu k) fu B_everywhere none [some a0, some a1, some a2, none] μ).res := rfl
theorem c_words_of (fu k : Nat) (a0 : D) (μ : Store) : callK Gam fu (k + 1) .words_of [a0] μ = (exs (callK Gam fu k) fu B_words_of none [some a0, none, none, none] μ).res := rfl
theorem c_text_of (fu k : Nat) (a0 : D) (μ : Store) : callK Gam fu (k + 1) .text_of [a0] μ = (exs (callK Gam fu k) fu B_text_of none [some a0] μ).res := rfl
theorem c_written (fu k : Nat) (a0 : D) (μ : Store) : callK Gam fu (k + 1) .written [a0] μ = (exs (callK Gam fu k) fu B_written none [some a0] μ).res := rfl
theorem c_need_long (fu k : Nat) (a0 : D) (μ : Store) : callK Gam fu (k + 1) .need_long [a0] μ = (exs (callK Gam fu k) fu B_need_long none [some a0] μ).res := rfl
theorem c_single (fu k : Nat) (a0 a1 : D) (μ : Store) : callK Gam fu (k + 1) .single [a0, a1] μ = (exs (callK Gam fu k) fu B_single none [some a0, some a1, none, none, none, none, none, none] μ).res := rfl
theorem c_all_programs (fu k : Nat) (a0 : D) (μ : Store) : callK Gam fu (k + 1) .all_programs [a0] μ = (exs (callK Gam fu k) fu B_all_programs none [some a0, none, none, none, none, none, none, none, none, none] μ).res := rfl
theorem c_outcomes (fu k : Nat) (a0 a1 : D) (μ : Store) : callK Gam fu (k + 1) .outcomes [a0, a1] μ = (exs (callK Gam fu k) fu B_outcomes none [some a0, some a1, none] μ).res := rfl
theorem c_likest (fu k : Nat) (a0 a1 a2 : D) (μ : Store) : callK Gam fu (k + 1) .likest [a0, a1, a2] μ = (exs (callK Gam fu k) fu B_likest none [some a0, some a1, some a2, none, none, none, none, none, none] μ).res := rfl
theorem c_law_body (fu k : Nat) (a0 a1 a2 : D) (μ : Store) : callK Gam fu (k + 1) .law_body [a0, a1, a2] μ = (exs (callK Gam fu k) fu B_law_body none [some a0, some a1, some a2, none, none] μ).res := rfl
theorem c_law_step (fu k : Nat) (a0 a1 a2 : D) (μ : Store) : callK Gam fu (k + 1) .law_step [a0, a1, a2] μ = (exs (callK Gam fu k) fu B_law_step none [some a0, some a1, some a2, none, none] μ).res := rfl
theorem c_law_program_k02 (fu k : Nat) (a0 a1 : D) (μ : Store) : callK Gam fu (k + 1) .law_program_k02 [a0, a1] μ = (exs (callK Gam fu k) fu B_law_program_k02 none [some a0, some a1, none, none, none, none, none] μ).res := rfl
theorem c_law_count (fu k : Nat) (a0 : D) (μ : Store) : callK Gam fu (k + 1) .law_count [a0] μ = (exs (callK Gam fu k) fu B_law_count none [some a0, none, none, none] μ).res := rfl
theorem c_law_is_program (fu k : Nat) (a0 : D) (μ : Store) : callK Gam fu (k + 1) .law_is_program [a0] μ = (exs (callK Gam fu k) fu B_law_is_program none [some a0] μ).res := rfl
theorem c_law_odd (fu k : Nat) (a0 : D) (μ : Store) : callK Gam fu (k + 1) .law_odd [a0] μ = (exs (callK Gam fu k) fu B_law_odd none [some a0, none] μ).res := rfl
theorem c_law_around_k02 (fu k : Nat) (a0 a1 a2 : D) (μ : Store) : callK Gam fu (k + 1) .law_around_k02 [a0, a1, a2] μ = (exs (callK Gam fu k) fu B_law_around_k02 none [some a0, some a1, some a2, none, none] μ).res := rfl
theorem c_law_spoilt (fu k : Nat) (a0 a1 : D) (μ : Store) : callK Gam fu (k + 1) .law_spoilt [a0, a1] μ = (exs (callK Gam fu k) fu B_law_spoilt none [some a0, some a1, none, none, none] μ).res := rfl
theorem c_law_word_k02 (fu k : Nat) (a0 : D) (μ : Store) : callK Gam fu (k + 1) .law_word_k02 [a0] μ = (exs (callK Gam fu k) fu B_law_word_k02 none [some a0, none, none] μ).res := rfl
theorem c_law_k02 (fu k : Nat) (a0 : D) (μ : Store) : callK Gam fu (k + 1) .law_k02 [a0] μ = (exs (callK Gam fu k) fu B_law_k02 none [some a0, none, none, none, none, none, none] μ).res := rfl
theorem c_law_ahead (fu k : Nat) (a0 : D) (μ : Store) : callK Gam fu (k + 1) .law_ahead [a0] μ = (exs (callK Gam fu k) fu B_law_ahead none [some a0, none, none, none, none, none] μ).res := rfl
theorem c_law_so (fu k : Nat) (a0 a1 : D) (μ : Store) : callK Gam fu (k + 1) .law_so [a0, a1] μ = (exs (callK Gam fu k) fu B_law_so none [some a0, some a1] μ).res := rfl
theorem c_law_done_k03 (fu k : Nat) (a0 a1 : D) (μ : Store) : callK Gam fu (k + 1) .law_done_k03 [a0, a1] μ = (exs (callK Gam fu k) fu B_law_done_k03 none [some a0, some a1, none, none, none, none, none, none, none, none] μ).res := rfl
theorem c_law_walked_k03 (fu k : Nat) (a0 a1 : D) (μ : Store) : callK Gam fu (k + 1) .law_walked_k03 [a0, a1] μ = (exs (callK Gam fu k) fu B_law_walked_k03 none [some a0, some a1, none, none] μ).res := rfl
theorem c_law_stepped_k03 (fu k : Nat) (a0 a1 : D) (μ : Store) : callK Gam fu (k + 1) .law_stepped_k03 [a0, a1] μ = (exs (callK Gam fu k) fu B_law_stepped_k03 none [some a0, some a1, none, none, none] μ).res := rfl
theorem c_law_refused_k03 (fu k : Nat) (a0 a1 a2 : D) (μ : Store) : callK Gam fu (k + 1) .law_refused_k03 [a0, a1, a2] μ = (exs (callK Gam fu k) fu B_law_refused_k03 none [some a0, some a1, some a2, none] μ).res := rfl
theorem c_law_k03 (fu k : Nat) (a0 : D) (μ : Store) : callK Gam fu (k + 1) .law_k03 [a0] μ = (exs (callK Gam fu k) fu B_law_k03 none [some a0, none, none, none, none, none, none, none, none, none, none, none, none, none, none, none] μ).res := rfl
theorem c_law_program_k04 (fu k : Nat) (a0 a1 : D) (μ : Store) : callK Gam fu (k + 1) .law_program_k04 [a0, a1] μ = (exs (callK Gam fu k) fu B_law_program_k04 none [some a0, some a1, none, none, none, none, none] μ).res := rfl
theorem c_law_walked_k04 (fu k : Nat) (a0 a1 : D) (μ : Store) : callK Gam fu (k + 1) .law_walked_k04 [a0, a1] μ = (exs (callK Gam fu k) fu B_law_walked_k04 none [some a0, some a1, none, none] μ).res := rfl
theorem c_law_stepped_k04 (fu k : Nat) (a0 a1 : D) (μ : Store) : callK Gam fu (k + 1) .law_stepped_k04 [a0, a1] μ = (exs (callK Gam fu k) fu B_law_stepped_k04 none [some a0, some a1, none, none, none] μ).res := rfl
theorem c_law_has (fu k : Nat) (a0 a1 : D) (μ : Store) : callK Gam fu (k + 1) .law_has [a0, a1] μ = (exs (callK Gam fu k) fu B_law_has none [some a0, some a1, none, none] μ).res := rfl
theorem c_law_cells (fu k : Nat) (a0 : D) (μ : Store) : callK Gam fu (k + 1) .law_cells [a0] μ = (exs (callK Gam fu k) fu B_law_cells none [some a0] μ).res := rfl
theorem c_law_k04 (fu k : Nat) (a0 : D) (μ : Store) : callK Gam fu (k + 1) .law_k04 [a0] μ = (exs (callK Gam fu k) fu B_law_k04 none [some a0, none, none, none, none, none] μ).res := rfl
theorem c_law_numbered (fu k : Nat) (a0 a1 : D) (μ : Store) : callK Gam fu (k + 1) .law_numbered [a0, a1] μ = (exs (callK Gam fu k) fu B_law_numbered none [some a0, some a1, none, none, none, none, none] μ).res := rfl
theorem c_law_at_step (fu k : Nat) (a0 a1 : D) (μ : Store) : callK Gam fu (k + 1) .law_at_step [a0, a1] μ = (exs (callK Gam fu k) fu B_law_at_step none [some a0, some a1, none, none, none, none] μ).res := rfl
theorem c_law_ring (fu k : Nat) (a0 a1 : D) (μ : Store) : callK Gam fu (k + 1) .law_ring [a0, a1] μ = (exs (callK Gam fu k) fu B_law_ring none [some a0, some a1, none, none, none, none, none] μ).res := rfl
theorem c_law_passed (fu k : Nat) (a0 a1 a2 : D) (μ : Store) : callK Gam fu (k + 1) .law_passed [a0, a1, a2] μ = (exs (callK Gam fu k) fu B_law_passed none [some a0, some a1, some a2, none, none, none, none] μ).res := rfl
theorem c_law_counter (fu k : Nat) (μ : Store) : callK Gam fu (k + 1) .law_counter [] μ = (exs (callK Gam fu k) fu B_law_counter none [none] μ).res := rfl
theorem c_law_k05 (fu k : Nat) (a0 : D) (μ : Store) : callK Gam fu (k + 1) .law_k05 [a0] μ = (exs (callK Gam fu k) fu B_law_k05 none [some a0, none, none, none, none, none, none, none, none, none, none, none, none] μ).res := rfl
theorem c_law_k06 (fu k : Nat) (a0 : D) (μ : Store) : callK Gam fu (k + 1) .law_k06 [a0] μ = (exs (callK Gam fu k) fu B_law_k06 none [some a0, none, none, none, none, none, none, none, none, none, none] μ).res := rfl
theorem c_fields (fu k : Nat) (a0 : D) (μ : Store) : callK Gam fu (k + 1) .fields [a0] μ = (exs (callK Gam fu k) fu B_fields none [some a0] μ).res := rfl
theorem c_law_fields_k07 (fu k : Nat) (a0 : D) (μ : Store) : callK Gam fu (k + 1) .law_fields_k07 [a0] μ = (exs (callK Gam fu k) fu B_law_fields_k07 none [some a0, none, none, none, none, none, none] μ).res := rfl
theorem c_law_refused_k07 (fu k : Nat) (a0 : D) (μ : Store) : callK Gam fu (k + 1) .law_refused_k07 [a0] μ = (exs (callK Gam fu k) fu B_law_refused_k07 none [some a0, none, none] μ).res := rfl
theorem c_law_is_far (fu k : Nat) (a0 : D) (μ : Store) : callK Gam fu (k + 1) .law_is_far [a0] μ = (exs (callK Gam fu k) fu B_law_is_far none [some a0] μ).res := rfl
theorem c_law_k07 (fu k : Nat) (a0 : D) (μ : Store) : callK Gam fu (k + 1) .law_k07 [a0] μ = (exs (callK Gam fu k) fu B_law_k07 none [some a0, none, none, none, none, none, none, none, none] μ).res := rfl
theorem c_law_fields_k08 (fu k : Nat) (a0 : D) (μ : Store) : callK Gam fu (k + 1) .law_fields_k08 [a0] μ = (exs (callK Gam fu k) fu B_law_fields_k08 none [some a0, none, none, none, none, none, none] μ).res := rfl
theorem c_law_wish (fu k : Nat) (a0 : D) (μ : Store) : callK Gam fu (k + 1) .law_wish [a0] μ = (exs (callK Gam fu k) fu B_law_wish none [some a0, none, none, none] μ).res := rfl
theorem c_law_refused_k08 (fu k : Nat) (a0 a1 a2 : D) (μ : Store) : callK Gam fu (k + 1) .law_refused_k08 [a0, a1, a2] μ = (exs (callK Gam fu k) fu B_law_refused_k08 none [some a0, some a1, some a2, none, none] μ).res := rfl
theorem c_law_k08 (fu k : Nat) (a0 : D) (μ : Store) : callK Gam fu (k + 1) .law_k08 [a0] μ = (exs (callK Gam fu k) fu B_law_k08 none [some a0, none, none, none, none, none, none, none, none] μ).res := rfl
theorem c_law_other (fu k : Nat) (a0 a1 : D) (μ : Store) : callK Gam fu (k + 1) .law_other [a0, a1] μ = (exs (callK Gam fu k) fu B_law_other none [some a0, some a1, none, none, none] μ).res := rfl
theorem c_law_k09 (fu k : Nat) (a0 : D) (μ : Store) : callK Gam fu (k + 1) .law_k09 [a0] μ = (exs (callK Gam fu k) fu B_law_k09 none [some a0, none, none, none, none, none, none, none, none] μ).res := rfl
theorem c_law_scenes (fu k : Nat) (a0 : D) (μ : Store) : callK Gam fu (k + 1) .law_scenes [a0] μ = (exs (callK Gam fu k) fu B_law_scenes none [some a0, none, none, none, none, none, none, none, none] μ).res := rfl
theorem c_law_same (fu k : Nat) (a0 a1 : D) (μ : Store) : callK Gam fu (k + 1) .law_same [a0, a1] μ = (exs (callK Gam fu k) fu B_law_same none [some a0, some a1, none, none, none] μ).res := rfl
theorem c_law_pair (fu k : Nat) (a0 : D) (μ : Store) : callK Gam fu (k + 1) .law_pair [a0] μ = (exs (callK Gam fu k) fu B_law_pair none [some a0, none, none, none] μ).res := rfl
theorem c_law_around_k10 (fu k : Nat) (a0 a1 : D) (μ : Store) : callK Gam fu (k + 1) .law_around_k10 [a0, a1] μ = (exs (callK Gam fu k) fu B_law_around_k10 none [some a0, some a1, none, none, none, none, none, none] μ).res := rfl
theorem c_law_k10 (fu k : Nat) (a0 : D) (μ : Store) : callK Gam fu (k + 1) .law_k10 [a0] μ = (exs (callK Gam fu k) fu B_law_k10 none [some a0, none, none, none, none, none, none, none, none, none, none] μ).res := rfl
theorem c_shortest (fu k : Nat) (a0 a1 a2 : D) (μ : Store) : callK Gam fu (k + 1) .shortest [a0, a1, a2] μ = (exs (callK Gam fu k) fu B_shortest none [some a0, some a1, some a2, none, none, none, none] μ).res := rfl
theorem c_law_done_k11 (fu k : Nat) (a0 a1 : D) (μ : Store) : callK Gam fu (k + 1) .law_done_k11 [a0, a1] μ = (exs (callK Gam fu k) fu B_law_done_k11 none [some a0, some a1, none, none, none, none, none, none, none, none] μ).res := rfl
theorem c_law_words_k11 (fu k : Nat) (a0 : D) (μ : Store) : callK Gam fu (k + 1) .law_words_k11 [a0] μ = (exs (callK Gam fu k) fu B_law_words_k11 none [some a0, none, none, none] μ).res := rfl
theorem c_law_long_k11 (fu k : Nat) (a0 a1 : D) (μ : Store) : callK Gam fu (k + 1) .law_long_k11 [a0, a1] μ = (exs (callK Gam fu k) fu B_law_long_k11 none [some a0, some a1, none, none, none, none, none, none] μ).res := rfl
theorem c_law_all_k11 (fu k : Nat) (a0 : D) (μ : Store) : callK Gam fu (k + 1) .law_all_k11 [a0] μ = (exs (callK Gam fu k) fu B_law_all_k11 none [some a0, none, none, none, none, none, none, none, none, none] μ).res := rfl
theorem c_law_word_k11 (fu k : Nat) (a0 a1 a2 : D) (μ : Store) : callK Gam fu (k + 1) .law_word_k11 [a0, a1, a2] μ = (exs (callK Gam fu k) fu B_law_word_k11 none [some a0, some a1, some a2, none, none] μ).res := rfl
theorem c_law_shown_k11 (fu k : Nat) (a0 a1 a2 a3 : D) (μ : Store) : callK Gam fu (k + 1) .law_shown_k11 [a0, a1, a2, a3] μ = (exs (callK Gam fu k) fu B_law_shown_k11 none [some a0, some a1, some a2, some a3, none, none] μ).res := rfl
theorem c_law_k11 (fu k : Nat) (a0 : D) (μ : Store) : callK Gam fu (k + 1) .law_k11 [a0] μ = (exs (callK Gam fu k) fu B_law_k11 none [some a0, none, none, none, none, none, none, none, none, none, none, none] μ).res := rfl
theorem c_law_words_k12 (fu k : Nat) (a0 : D) (μ : Store) : callK Gam fu (k + 1) .law_words_k12 [a0] μ = (exs (callK Gam fu k) fu B_law_words_k12 none [some a0, none, none, none] μ).res := rfl
theorem c_law_long_k12 (fu k : Nat) (a0 a1 : D) (μ : Store) : callK Gam fu (k + 1) .law_long_k12 [a0, a1] μ = (exs (callK Gam fu k) fu B_law_long_k12 none [some a0, some a1, none, none, none, none, none, none] μ).res := rfl
theorem c_law_all_k12 (fu k : Nat) (a0 : D) (μ : Store) : callK Gam fu (k + 1) .law_all_k12 [a0] μ = (exs (callK Gam fu k) fu B_law_all_k12 none [some a0, none, none, none, none, none, none, none, none, none] μ).res := rfl
theorem c_law_told_k12 (fu k : Nat) (a0 : D) (μ : Store) : callK Gam fu (k + 1) .law_told_k12 [a0] μ = (exs (callK Gam fu k) fu B_law_told_k12 none [some a0, none, none] μ).res := rfl
theorem c_law_outs (fu k : Nat) (a0 a1 : D) (μ : Store) : callK Gam fu (k + 1) .law_outs [a0, a1] μ = (exs (callK Gam fu k) fu B_law_outs none [some a0, some a1, none] μ).res := rfl
theorem c_law_shown_k12 (fu k : Nat) (a0 a1 a2 a3 : D) (μ : Store) : callK Gam fu (k + 1) .law_shown_k12 [a0, a1, a2, a3] μ = (exs (callK Gam fu k) fu B_law_shown_k12 none [some a0, some a1, some a2, some a3, none, none] μ).res := rfl
theorem c_law_k12 (fu k : Nat) (a0 : D) (μ : Store) : callK Gam fu (k + 1) .law_k12 [a0] μ = (exs (callK Gam fu k) fu B_law_k12 none [some a0, none, none, none, none, none, none, none, none, none, none, none] μ).res := rfl
theorem c_must (fu k : Nat) (a0 a1 a2 : D) (μ : Store) : callK Gam fu (k + 1) .must [a0, a1, a2] μ = (exs (callK Gam fu k) fu B_must none [some a0, some a1, some a2] μ).res := rfl
theorem c_body_at (fu k : Nat) (a0 a1 : D) (μ : Store) : callK Gam fu (k + 1) .body_at [a0, a1] μ = (exs (callK Gam fu k) fu B_body_at none [some a0, some a1, none, none, none, none, none] μ).res := rfl
theorem c_read (fu k : Nat) (a0 : D) (μ : Store) : callK Gam fu (k + 1) .read [a0] μ = (exs (callK Gam fu k) fu B_read none [some a0, none, none, none] μ).res := rfl
theorem c_law_k13 (fu k : Nat) (a0 : D) (μ : Store) : callK Gam fu (k + 1) .law_k13 [a0] μ = (exs (callK Gam fu k) fu B_law_k13 none [some a0, none, none, none, none, none, none] μ).res := rfl
theorem c_law_took (fu k : Nat) (a0 a1 : D) (μ : Store) : callK Gam fu (k + 1) .law_took [a0, a1] μ = (exs (callK Gam fu k) fu B_law_took none [some a0, some a1, none] μ).res := rfl
theorem c_law_reading (fu k : Nat) (a0 : D) (μ : Store) : callK Gam fu (k + 1) .law_reading [a0] μ = (exs (callK Gam fu k) fu B_law_reading none [some a0, none, none, none, none] μ).res := rfl
theorem c_law_told_k14 (fu k : Nat) (a0 : D) (μ : Store) : callK Gam fu (k + 1) .law_told_k14 [a0] μ = (exs (callK Gam fu k) fu B_law_told_k14 none [some a0, none, none, none] μ).res := rfl
theorem c_law_changed (fu k : Nat) (a0 a1 : D) (μ : Store) : callK Gam fu (k + 1) .law_changed [a0, a1] μ = (exs (callK Gam fu k) fu B_law_changed none [some a0, some a1, none, none, none, none, none, none, none, none] μ).res := rfl
theorem c_law_k14 (fu k : Nat) (a0 : D) (μ : Store) : callK Gam fu (k + 1) .law_k14 [a0] μ = (exs (callK Gam fu k) fu B_law_k14 none [some a0, none, none, none, none, none, none] μ).res := rfl
theorem c_law_asked (fu k : Nat) (a0 a1 a2 a3 a4 : D) (μ : Store) : callK Gam fu (k + 1) .law_asked [a0, a1, a2, a3, a4] μ = (exs (callK Gam fu k) fu B_law_asked none [some a0, some a1, some a2, some a3, some a4] μ).res := rfl
theorem c_law_copied (fu k : Nat) (a0 : D) (μ : Store) : callK Gam fu (k + 1) .law_copied [a0] μ = (exs (callK Gam fu k) fu B_law_copied none [some a0, none] μ).res := rfl
theorem c_law_k15 (fu k : Nat) (a0 : D) (μ : Store) : callK Gam fu (k + 1) .law_k15 [a0] μ = (exs (callK Gam fu k) fu B_law_k15 none [some a0, none, none, none, none, none, none, none, none, none, none, none, none] μ).res := rfl
end FH

set_option maxHeartbeats 4000000
/-! k13: its tables. lacking: BadText_init -/
namespace FH
namespace K13
open PySem PySem.Spec PyProof.Rows L2
def top (i : Nat) : Stmt := PySem.Challenge.pw_fieldhand_k13_whole_written_read_and_run.main.body.getD i (.Pass ⟨0, 0, 0, 0⟩)
def inner (i j : Nat) : Stmt := match top i with | .ClassDef _ _ _ b _ _ _ _ _ _ _ => b.getD j (.Pass ⟨0, 0, 0, 0⟩) | s => s
def defs : List (F × Stmt) := [(.are_steps, top 11), (.count_, top 12), (.need_program, top 13), (.lines_of, top 14), (.words_of, top 16), (.text_of, top 17), (.written, top 18), (.must, top 19), (.body_at, top 20), (.read, top 21), (.are_rows, top 30), (.need_scene, top 31), (.cell_ahead, top 32), (.is_so, top 33), (.with_sign, top 34), (.behind, top 35), (.Run_init, inner 37 0), (.Run_go_on, inner 37 1), (.Run_step, inner 37 2), (.run_of, top 38), (.ran, top 39), (.law_taken, top 41), (.law_alike, top 42), (.law_size, top 43), (.law_rows, top 44), (.law_field, top 45), (.law_scene, top 46), (.law_body, top 47), (.law_step, top 48), (.law_program_k04, top 49), (.law_ahead, top 50), (.law_so, top 51), (.law_done_k03, top 52), (.law_walked_k04, top 53), (.law_stepped_k04, top 54), (.law_words_k12, top 55), (.law_has, top 56), (.law_cells, top 57), (.law_k13, top 58)]
def L : Lw := ⟨fnm, fps, fN, Gam, defs, [.DOINGS, .ASKS, .MOST_STEPS, .MOST_WITHIN, .WALL, .STONE, .FREE, .SIGNS, .MOST_SIDE, .MOST_HELD, .STEPS], [.HandError, .BadField, .BadProgram, .BadText], true, true⟩
theorem okAll : L.defs.all L.okD = true := by decide +kernel
abbrev R : PySem.W.OpenRow := PySem.W.OpenLaw.row PySem.Challenge.rw_fieldhand_k13_whole_written_read_and_run
def loose0 : List PySem.Str := ["__name__", "HandError", "BadField", "BadProgram", "BadText", "DOINGS", "ASKS", "MOST_STEPS", "MOST_WITHIN", "LENGTHS", "are_steps", "count", "need_program", "lines_of", "words_of", "text_of", "written", "must", "body_at", "read", "WALL", "STONE", "FREE", "SIGNS", "MOST_SIDE", "MOST_HELD", "STEPS", "are_rows", "need_scene", "cell_ahead"]
def loose1 : List PySem.Str := ["is_so", "with_sign", "behind", "Run", "run_of", "ran", "_law_taken", "_law_alike", "_law_size", "_law_rows", "_law_field", "_law_scene", "_law_body", "_law_step", "_law_program", "_law_ahead", "_law_so", "_law_done", "_law_walked", "_law_stepped", "_law_words", "_law_has", "_law_cells"]
abbrev loose : List PySem.Str := loose0 ++ loose1
abbrev hk : PySem.W.Hook := He.hookX 6 [] (L.defs.map L.dd) L.ts [] L.ex
def ob (s : PySem.W.SharedT) : He.AlX := He.obsX 6 [] (L.defs.map L.dd) L.ts [] L.ex (HandSHeadRun.getT s)
theorem ob_eq (s : PySem.W.SharedT) : ob s = hk.obs s.abs := He.obsX_eq (HandSHeadRun.getT_eq s)
theorem run (w : World) : HandSHeadRun.RunEq R (PySem.W.view R.prog [58]) hk ob 3000 loose w :=
  PySem.W.byRow2 "special-get-raises" (P := fun w => HandSHeadRun.RunEq R (PySem.W.view R.prog [58]) hk ob 3000 loose w) (fun w => by intro os; kernel_rfl) (fun w => by intro os; kernel_rfl) w
end K13
end FH

set_option maxHeartbeats 1000000
/-! The interpreter step by step: what comes behind a part stands under a name, so that nothing is opened ahead of its time. -/
namespace FH
open PySem (Operator CmpOp Str PyData)
theorem nrfl {α : Sort u} {a b : α} (h : a = b) : a = b := h
theorem callK_succ {Gam : F → Fn} (fu k : Nat) (f : F) (ds : List D) (μ : Store) : callK Gam fu (k + 1) f ds μ = runFn (callK Gam fu k) fu (Gam f) ds μ := rfl
section
variable (cl : Calls) (cx : Option (Cl × D))
def fTup (ds : List D) (μ : Store) : Res D := .ok (.tup ds) μ
def fLst (ds : List D) (μ : Store) : Res D := .ok (.lst ds) μ
def fRef (d : D) (μ : Store) : Res D := match d with | .lst xs => .ok (.ptr μ.length) (μ ++ [.lst xs]) | _ => .bad
def fBin2 (op : Operator) (x y : D) (μ : Store) : Res D := Res.of (binD μ op x y) μ
def fBin1 (op : Operator) (b : E) (σ : Env) (x : D) (μ : Store) : Res D := (ev cl cx b σ μ).bind (fBin2 op x)
def fNeg (x : D) (μ : Store) : Res D := match x with | .int i => .ok (.int (-i)) μ | _ => .bad
def fBl (r : Bool) (μ : Store) : Res D := .ok (.bl r) μ
def fCmp2 (op : CmpOp) (x y : D) (μ : Store) : Res D := (Res.of (cmpD μ op x y) μ).bind fBl
def fCmp1 (op : CmpOp) (b : E) (σ : Env) (x : D) (μ : Store) : Res D := (ev cl cx b σ μ).bind (fCmp2 op x)
def fCh4 (o2 : CmpOp) (y z : D) (μ : Store) : Res D := (Res.of (cmpD μ o2 y z) μ).bind fBl
def fCh3 (o2 : CmpOp) (c : E) (σ : Env) (y : D) (r : Bool) (μ : Store) : Res D := if r then (ev cl cx c σ μ).bind (fCh4 o2 y) else .ok (.bl false) μ
def fCh2 (o1 o2 : CmpOp) (c : E) (σ : Env) (x y : D) (μ : Store) : Res D := (Res.of (cmpD μ o1 x y) μ).bind (fCh3 cl cx o2 c σ y)
def fCh1 (o1 o2 : CmpOp) (b c : E) (σ : Env) (x : D) (μ : Store) : Res D := (ev cl cx b σ μ).bind (fCh2 cl cx o1 o2 c σ x)
def fInG (pos : Bool) (x : D) (μ : Store) : Res D := match x with | .str s => .ok (.bl (if pos then (lengths.lookup s).isSome else !(lengths.lookup s).isSome)) μ | _ => .bad
def fGetG (x : D) (μ : Store) : Res D := match x with | .str s => (match lengths.lookup s with | some n => .ok (.int n) μ | none => .bad) | _ => .bad
def fAnd (b : E) (σ : Env) (x : D) (μ : Store) : Res D := match x with | .bl true => ev cl cx b σ μ | .bl false => .ok (.bl false) μ | _ => .bad
def fOr (b : E) (σ : Env) (x : D) (μ : Store) : Res D := match x with | .bl true => .ok (.bl true) μ | .bl false => ev cl cx b σ μ | _ => .bad
def fNot (x : D) (μ : Store) : Res D := match x with | .bl b => .ok (.bl (!b)) μ | _ => .bad
def fIfe (a b : E) (σ : Env) (x : D) (μ : Store) : Res D := match x with | .bl true => ev cl cx a σ μ | .bl false => ev cl cx b σ μ | _ => .bad
def fIdx2 (x y : D) (μ : Store) : Res D := Res.of (idxD μ x y) μ
def fIdx1 (i : E) (σ : Env) (x : D) (μ : Store) : Res D := (ev cl cx i σ μ).bind (fIdx2 x)
def fSlc3 (x : D) (l h : Option Int) (μ : Store) : Res D := Res.of (slcV μ x l h) μ
def fSlc2 (hi : E) (σ : Env) (x : D) (l : Option Int) (μ : Store) : Res D := (if noneE hi then Res.ok none μ else (ev cl cx hi σ μ).bind toI).bind (fSlc3 x l)
def fSlc1 (lo hi : E) (σ : Env) (x : D) (μ : Store) : Res D := (if noneE lo then Res.ok none μ else (ev cl cx lo σ μ).bind toI).bind (fSlc2 cl cx hi σ x)
def fFld (f : Fld) (x : D) (μ : Store) : Res D := match x with
  | .ptr p => (match μ[p]? with | some (.ins fs) => Res.of (getF f fs) μ | _ => .bad)
  | _ => .bad
def fIsi (ts : List Ty) (x : D) (μ : Store) : Res D := (Res.of (isiD μ x ts) μ).bind fBl
def fBlt (b : B) (ds : List D) (μ : Store) : Res D := Res.of (bltD b ds μ) μ
def fMth2 (m : Mt) (x : D) (ds : List D) (μ : Store) : Res D := mthD m x ds μ
def fMth1 (m : Mt) (es : Es) (σ : Env) (x : D) (μ : Store) : Res D := if recvOk m x μ then (evs cl cx es σ μ).bind (fMth2 m x) else .bad
def fCall (f : F) (ds : List D) (μ : Store) : Res D := cl f ds μ
def fMeth (f : F) (x : D) (μ : Store) : Res D := match x with | .ptr p => (match μ[p]? with | some (.ins _) => (cl f [.ptr p] μ).noX | _ => .bad) | _ => .bad
def fMake2 (p : Nat) (r : D) (μ' : Store) : Res D := match r with | .non => .ok (.ptr p) μ' | _ => .bad
def fMake (f : F) (ds : List D) (μ : Store) : Res D := (cl f (.ptr μ.length :: ds) (μ ++ [.ins []])).noX.bind (fMake2 μ.length)
def fCons2 (d : D) (ds : List D) (μ : Store) : Res (List D) := .ok (d :: ds) μ
def fCons1 (es : Es) (σ : Env) (d : D) (μ : Store) : Res (List D) := (evs cl cx es σ μ).bind (fCons2 d)
def fSeq (d : D) (μ : Store) : Res Src := Res.of (srcD μ d) μ
def fVals (xs : List D) (μ : Store) : Res Src := .ok (.vals xs) μ
def fRng (ds : List D) (μ : Store) : Res Src := (Res.of (rngD ds) μ).bind fVals
def fRev (d : D) (μ : Store) : Res Src := match d with | .tup xs => .ok (.vals xs.reverse) μ | _ => .bad
def fSome (y : D) (μ : Store) : Res (Option D) := .ok (some y) μ
/-- a turn of a comprehension -/
def turn0F (i : Nat) (e : E) (σ : Env) (d : D) (μ : Store) : Res (Option D) := (ev cl cx e (σ.set i (some d)) μ).bind fSome
def fTst (e : E) (σ : Env) (b : D) (μ : Store) : Res (Option D) := match b with
  | .bl true => (ev cl cx e σ μ).bind fSome
  | .bl false => .ok none μ
  | _ => .bad
def turn1F (i : Nat) (c e : E) (σ : Env) (d : D) (μ : Store) : Res (Option D) := (ev cl cx c (σ.set i (some d)) μ).bind (fTst cl cx e (σ.set i (some d)))
def fComp (f : D → Store → Res (Option D)) (src : Src) (μ : Store) : Res D := lcRun src f μ
theorem v_var (i : Nat) (σ : Env) (μ : Store) : ev cl cx (.var i) σ μ = Res.of (σ[i]?.bind id) μ := nrfl rfl
theorem v_con (d : D) (σ : Env) (μ : Store) : ev cl cx (.con d) σ μ = .ok d μ := nrfl rfl
theorem v_glo (g : Gc) (σ : Env) (μ : Store) : ev cl cx (.glo g) σ μ = .ok (gval g) μ := nrfl rfl
theorem v_tup (es : Es) (σ : Env) (μ : Store) : ev cl cx (.tup es) σ μ = (evs cl cx es σ μ).bind fTup := nrfl rfl
theorem v_lst (es : Es) (σ : Env) (μ : Store) : ev cl cx (.lst es) σ μ = (evs cl cx es σ μ).bind fLst := nrfl rfl
theorem v_ref (e : E) (σ : Env) (μ : Store) : ev cl cx (.ref e) σ μ = (ev cl cx e σ μ).bind fRef := nrfl rfl
theorem v_dnew (σ : Env) (μ : Store) : ev cl cx .dnew σ μ = .ok (.ptr μ.length) (μ ++ [.dic []]) := nrfl rfl
theorem v_bin (op : Operator) (a b : E) (σ : Env) (μ : Store) : ev cl cx (.bin op a b) σ μ = (ev cl cx a σ μ).bind (fBin1 cl cx op b σ) := nrfl rfl
theorem v_neg (a : E) (σ : Env) (μ : Store) : ev cl cx (.neg a) σ μ = (ev cl cx a σ μ).bind fNeg := nrfl rfl
theorem v_cmp (op : CmpOp) (a b : E) (σ : Env) (μ : Store) : ev cl cx (.cmp op a b) σ μ = (ev cl cx a σ μ).bind (fCmp1 cl cx op b σ) := nrfl rfl
theorem v_chain (o1 o2 : CmpOp) (a b c : E) (σ : Env) (μ : Store) : ev cl cx (.chain o1 o2 a b c) σ μ = (ev cl cx a σ μ).bind (fCh1 cl cx o1 o2 b c σ) := nrfl rfl
theorem v_inG (pos : Bool) (a : E) (σ : Env) (μ : Store) : ev cl cx (.inG pos a) σ μ = (ev cl cx a σ μ).bind (fInG pos) := nrfl rfl
theorem v_getG (a : E) (σ : Env) (μ : Store) : ev cl cx (.getG a) σ μ = (ev cl cx a σ μ).bind fGetG := nrfl rfl
theorem v_and (a b : E) (σ : Env) (μ : Store) : ev cl cx (.and a b) σ μ = (ev cl cx a σ μ).bind (fAnd cl cx b σ) := nrfl rfl
theorem v_or (a b : E) (σ : Env) (μ : Store) : ev cl cx (.or a b) σ μ = (ev cl cx a σ μ).bind (fOr cl cx b σ) := nrfl rfl
theorem v_not (a : E) (σ : Env) (μ : Store) : ev cl cx (.not a) σ μ = (ev cl cx a σ μ).bind fNot := nrfl rfl
theorem v_ife (c a b : E) (σ : Env) (μ : Store) : ev cl cx (.ife c a b) σ μ = (ev cl cx c σ μ).bind (fIfe cl cx a b σ) := nrfl rfl
theorem v_idx (a i : E) (σ : Env) (μ : Store) : ev cl cx (.idx a i) σ μ = (ev cl cx a σ μ).bind (fIdx1 cl cx i σ) := nrfl rfl
theorem v_slc (a lo hi : E) (σ : Env) (μ : Store) : ev cl cx (.slc a lo hi) σ μ = (ev cl cx a σ μ).bind (fSlc1 cl cx lo hi σ) := nrfl rfl
theorem v_fld (a : E) (f : Fld) (σ : Env) (μ : Store) : ev cl cx (.fld a f) σ μ = (ev cl cx a σ μ).bind (fFld f) := nrfl rfl
theorem v_place (i : Nat) (σ : Env) (μ : Store) : ev cl cx (.place i) σ μ = (match cx with | some (.BadText, d) => .ok d μ | _ => .bad) := nrfl rfl
theorem v_isE (i : Nat) (c : Cl) (σ : Env) (μ : Store) : ev cl cx (.isE i c) σ μ = (match cx with | some (k, _) => if k = .BadText then .bad else .ok (.bl (k.sub c)) μ | none => .bad) := nrfl rfl
theorem v_comp0 (i : Nat) (it : I) (e : E) (σ : Env) (μ : Store) : ev cl cx (.comp0 i it e) σ μ = (evI cl cx it σ μ).bind (fComp (turn0F cl cx i e σ)) := nrfl rfl
theorem v_comp1 (i : Nat) (it : I) (c e : E) (σ : Env) (μ : Store) : ev cl cx (.comp1 i it c e) σ μ = (evI cl cx it σ μ).bind (fComp (turn1F cl cx i c e σ)) := nrfl rfl
theorem v_isi (a : E) (ts : List Ty) (σ : Env) (μ : Store) : ev cl cx (.isi a ts) σ μ = (ev cl cx a σ μ).bind (fIsi ts) := nrfl rfl
theorem v_blt (b : B) (es : Es) (σ : Env) (μ : Store) : ev cl cx (.blt b es) σ μ = (evs cl cx es σ μ).bind (fBlt b) := nrfl rfl
theorem v_mth (m : Mt) (a : E) (es : Es) (σ : Env) (μ : Store) : ev cl cx (.mth m a es) σ μ = (ev cl cx a σ μ).bind (fMth1 cl cx m es σ) := nrfl rfl
theorem v_call (f : F) (es : Es) (σ : Env) (μ : Store) : ev cl cx (.call f es) σ μ = (evs cl cx es σ μ).bind (fCall cl f) := nrfl rfl
theorem v_meth (f : F) (a : E) (σ : Env) (μ : Store) : ev cl cx (.meth f a) σ μ = (ev cl cx a σ μ).bind (fMeth cl f) := nrfl rfl
theorem v_make (f : F) (es : Es) (σ : Env) (μ : Store) : ev cl cx (.make f es) σ μ = (evs cl cx es σ μ).bind (fMake cl f) := nrfl rfl
theorem v_nil (σ : Env) (μ : Store) : evs cl cx .nil σ μ = .ok [] μ := nrfl rfl
theorem v_cons (e : E) (es : Es) (σ : Env) (μ : Store) : evs cl cx (.cons e es) σ μ = (ev cl cx e σ μ).bind (fCons1 cl cx es σ) := nrfl rfl
theorem v_seq (e : E) (σ : Env) (μ : Store) : evI cl cx (.seq e) σ μ = (ev cl cx e σ μ).bind fSeq := nrfl rfl
theorem v_rng (es : Es) (σ : Env) (μ : Store) : evI cl cx (.rng es) σ μ = (evs cl cx es σ μ).bind fRng := nrfl rfl
theorem v_rev (e : E) (σ : Env) (μ : Store) : evI cl cx (.rev e) σ μ = (ev cl cx e σ μ).bind fRev := nrfl rfl
/-! comprehensions over values -/
def lcV (f : D → Store → Res (Option D)) : List D → List D → Store → Res (List D)
  | [], acc, μ => .ok acc μ
  | d :: ds, acc, μ => match f d μ with
    | .ok (some y) μ' => if acc.length < lineMax then lcV f ds (acc ++ [y]) μ' else .bad
    | .ok none μ' => lcV f ds acc μ'
    | _ => .bad
theorem lcLoop_vals (f : D → Store → Res (Option D)) (xs : List D) : ∀ (n i : Nat) (acc : List D) (μ : Store), n + i = xs.length → lcLoop (.vals xs) f n i acc μ = lcV f (xs.drop i) acc μ
  | 0, i, acc, μ, h => by
    have e : i = xs.length := by omega
    subst e
    unfold lcLoop
    simp [Src.len, lcV]
  | n + 1, i, acc, μ, h => by
    have hi : i < xs.length := by omega
    unfold lcLoop
    rw [List.drop_eq_getElem_cons hi]
    unfold lcV
    simp only [Src.get, List.getElem?_eq_getElem hi]
    cases f xs[i] μ with
    | ok o μ' =>
      cases o with
      | some y =>
        simp only
        split
        · exact lcLoop_vals f xs n (i + 1) _ _ (by omega)
        · rfl
      | none => exact lcLoop_vals f xs n (i + 1) _ _ (by omega)
    | exc c d μ' => rfl
    | bad => rfl
def fToL (xs : List D) (μ : Store) : Res D := .ok (.lst xs) μ
theorem comp_vals (f : D → Store → Res (Option D)) (xs : List D) (μ : Store) : fComp f (.vals xs) μ = (lcV f xs [] μ).bind fToL := by
  unfold fComp lcRun
  simp only [Src.len]
  rw [lcLoop_vals f xs xs.length 0 [] μ (by omega), List.drop_zero]
  rfl
end
section
variable (cl : Calls) (fu : Nat)
def gSeq (ss : Ss) (cx : Option (Cl × D)) (σ : Env) (μ : Store) : Out := exs cl fu ss cx σ μ
def gEx (σ : Env) (_ : D) (μ : Store) : Out := .nx σ μ
def gRet (d : D) (μ : Store) : Out := .rt d μ
def gAsg (i : Nat) (σ : Env) (d : D) (μ : Store) : Out := .nx (σ.set i (some d)) μ
def gUnp (is : List Nat) (σ : Env) (d : D) (μ : Store) : Out := match d with | .tup xs => (match setAll is xs σ with | some σ' => .nx σ' μ | none => .bad) | _ => .bad
def gUnpL (is : List Nat) (σ : Env) (d : D) (μ : Store) : Out := match listOf μ d with | some xs => (match setAll is xs σ with | some σ' => .nx σ' μ | none => .bad) | none => .bad
def gPar2 (i j : Nat) (σ : Env) (x y : D) (μ : Store) : Out := .nx ((σ.set i (some x)).set j (some y)) μ
def gPar1 (cx : Option (Cl × D)) (i j : Nat) (b : E) (σ : Env) (x : D) (μ : Store) : Out := (ev cl cx b σ μ).out σ (gPar2 i j σ x)
def gSetI3 (σ : Env) (v x k : D) (μ : Store) : Out := match setIx x k v μ with | some μ' => .nx σ μ' | none => .bad
def gSetI2 (cx : Option (Cl × D)) (i : E) (σ : Env) (v x : D) (μ : Store) : Out := (ev cl cx i σ μ).out σ (gSetI3 σ v x)
def gSetI1 (cx : Option (Cl × D)) (a i : E) (σ : Env) (v : D) (μ : Store) : Out := (ev cl cx a σ μ).out σ (gSetI2 cl cx i σ v)
def gSetF2 (f : Fld) (σ : Env) (v x : D) (μ : Store) : Out := match x with
      | .ptr p => (match μ[p]? with | some (.ins fs) => if fs.length < 1000 then .nx σ (μ.set p (.ins (putF f v fs))) else .bad | _ => .bad)
      | _ => .bad
def gSetF1 (cx : Option (Cl × D)) (a : E) (f : Fld) (σ : Env) (v : D) (μ : Store) : Out := (ev cl cx a σ μ).out σ (gSetF2 f σ v)
def gIfs (cx : Option (Cl × D)) (a b : Ss) (σ : Env) (x : D) (μ : Store) : Out := match x with | .bl true => exs cl fu a cx σ μ | .bl false => exs cl fu b cx σ μ | _ => .bad
def gBody (cx : Option (Cl × D)) (i : Nat) (b : Ss) (d : D) (σ : Env) (μ : Store) : Out := exs cl fu b cx (σ.set i (some d)) μ
def gFor (f : D → Env → Store → Out) (σ : Env) (src : Src) (μ : Store) : Out := forRun src f σ μ
def gRaise (c : Cl) (σ : Env) (d : D) (μ : Store) : Out := .xc c (match c with | .BadText => d | _ => .non) σ μ
theorem s_nil (cx : Option (Cl × D)) (σ : Env) (μ : Store) : exs cl fu .nil cx σ μ = .nx σ μ := nrfl rfl
theorem s_cons (s : S) (ss : Ss) (cx : Option (Cl × D)) (σ : Env) (μ : Store) : exs cl fu (.cons s ss) cx σ μ = (ex1 cl fu s cx σ μ).seq (gSeq cl fu ss cx) := nrfl rfl
theorem s_pass (cx : Option (Cl × D)) (σ : Env) (μ : Store) : ex1 cl fu .pass cx σ μ = .nx σ μ := nrfl rfl
theorem s_ex (e : E) (cx : Option (Cl × D)) (σ : Env) (μ : Store) : ex1 cl fu (.ex e) cx σ μ = (ev cl cx e σ μ).out σ (gEx σ) := nrfl rfl
theorem s_ret (e : E) (cx : Option (Cl × D)) (σ : Env) (μ : Store) : ex1 cl fu (.ret e) cx σ μ = (ev cl cx e σ μ).out σ gRet := nrfl rfl
theorem s_asg (i : Nat) (e : E) (cx : Option (Cl × D)) (σ : Env) (μ : Store) : ex1 cl fu (.asg i e) cx σ μ = (ev cl cx e σ μ).out σ (gAsg i σ) := nrfl rfl
theorem s_unp (is : List Nat) (e : E) (cx : Option (Cl × D)) (σ : Env) (μ : Store) : ex1 cl fu (.unp is e) cx σ μ = (ev cl cx e σ μ).out σ (gUnp is σ) := nrfl rfl
theorem s_unpL (is : List Nat) (e : E) (cx : Option (Cl × D)) (σ : Env) (μ : Store) : ex1 cl fu (.unpL is e) cx σ μ = (ev cl cx e σ μ).out σ (gUnpL is σ) := nrfl rfl
theorem s_par (i j : Nat) (a b : E) (cx : Option (Cl × D)) (σ : Env) (μ : Store) : ex1 cl fu (.par i j a b) cx σ μ = (ev cl cx a σ μ).out σ (gPar1 cl cx i j b σ) := nrfl rfl
theorem s_setI (a i e : E) (cx : Option (Cl × D)) (σ : Env) (μ : Store) : ex1 cl fu (.setI a i e) cx σ μ = (ev cl cx e σ μ).out σ (gSetI1 cl cx a i σ) := nrfl rfl
theorem s_setF (a : E) (f : Fld) (e : E) (cx : Option (Cl × D)) (σ : Env) (μ : Store) : ex1 cl fu (.setF a f e) cx σ μ = (ev cl cx e σ μ).out σ (gSetF1 cl cx a f σ) := nrfl rfl
theorem s_ifs (c : E) (a b : Ss) (cx : Option (Cl × D)) (σ : Env) (μ : Store) : ex1 cl fu (.ifs c a b) cx σ μ = (ev cl cx c σ μ).out σ (gIfs cl fu cx a b σ) := nrfl rfl
theorem s_for (i : Nat) (it : I) (b : Ss) (cx : Option (Cl × D)) (σ : Env) (μ : Store) : ex1 cl fu (.for_ i it b) cx σ μ = (evI cl cx it σ μ).out σ (gFor (gBody cl fu cx i b) σ) := nrfl rfl
theorem s_raise (c : Cl) (e : E) (cx : Option (Cl × D)) (σ : Env) (μ : Store) : ex1 cl fu (.raise c e) cx σ μ = (ev cl cx e σ μ).out σ (gRaise c σ) := nrfl rfl
def fWc (cl : Calls) (cx : Option (Cl × D)) (c : E) (σ : Env) (μ : Store) : Res D := ev cl cx c σ μ
def fWb (cl : Calls) (fu : Nat) (cx : Option (Cl × D)) (b : Ss) (σ : Env) (μ : Store) : Out := exs cl fu b cx σ μ
def gWhl2 (cx : Option (Cl × D)) (c : E) (b : Ss) (n : Nat) (σ : Env) (μ : Store) : Out := whlRun (fWc cl cx c) (fWb cl fu cx b) n σ μ
def gWhl (cx : Option (Cl × D)) (c : E) (b : Ss) (n : Nat) (σ : Env) (x : D) (μ : Store) : Out := match x with
  | .bl true => (exs cl fu b cx σ μ).seq (gWhl2 cl fu cx c b n)
  | .bl false => .nx σ μ
  | _ => .bad
theorem s_whl (c : E) (b : Ss) (cx : Option (Cl × D)) (σ : Env) (μ : Store) : ex1 cl fu (.whl c b) cx σ μ = gWhl2 cl fu cx c b fu σ μ := nrfl rfl
theorem whl_succ (c : E) (b : Ss) (cx : Option (Cl × D)) (n : Nat) (σ : Env) (μ : Store) : gWhl2 cl fu cx c b (n + 1) σ μ = (ev cl cx c σ μ).out σ (gWhl cl fu cx c b n σ) := nrfl rfl
theorem gWhl_t (c : E) (b : Ss) (cx : Option (Cl × D)) (n : Nat) (σ : Env) (μ : Store) : gWhl cl fu cx c b n σ (.bl true) μ = (exs cl fu b cx σ μ).seq (gWhl2 cl fu cx c b n) := nrfl rfl
theorem gWhl_f (c : E) (b : Ss) (cx : Option (Cl × D)) (n : Nat) (σ : Env) (μ : Store) : gWhl cl fu cx c b n σ (.bl false) μ = .nx σ μ := nrfl rfl
/-- what a try does with how its body came out -/
def gTry (c : Cl) (i : Option Nat) (s : Ss) (o : Out) : Out := match o with
      | .xc k d σ' μ' => if k.sub c then
          (match i with
          | some i => (match exs cl fu s (some (k, d)) (σ'.set i none) μ' with | .nx σ μ => .nx (σ.set i none) μ | .rt d μ => .rt d μ | _ => .bad)
          | none => (match exs cl fu s (some (k, d)) σ' μ' with | .nx σ μ => .nx σ μ | .rt d μ => .rt d μ | _ => .bad))
        else .xc k d σ' μ'
      | o => o
theorem s_try (c : Cl) (i : Option Nat) (b s : Ss) (cx : Option (Cl × D)) (σ : Env) (μ : Store) : ex1 cl fu (.try_ c i b s) cx σ μ = gTry cl fu c i s (exs cl fu b cx σ μ) := nrfl rfl
theorem gTry_nx (c : Cl) (i : Option Nat) (s : Ss) (σ : Env) (μ : Store) : gTry cl fu c i s (.nx σ μ) = .nx σ μ := nrfl rfl
theorem gTry_rt (c : Cl) (i : Option Nat) (s : Ss) (d : D) (μ : Store) : gTry cl fu c i s (.rt d μ) = .rt d μ := nrfl rfl
/-- how the suite came out -/
def gSui (i : Nat) (o : Out) : Out := match o with | .nx σ μ => .nx (σ.set i none) μ | .rt d μ => .rt d μ | _ => .bad
def gSui0 (o : Out) : Out := match o with | .nx σ μ => .nx σ μ | .rt d μ => .rt d μ | _ => .bad
theorem gTry_as (c : Cl) (i : Nat) (s : Ss) (k : Cl) (d : D) (σ : Env) (μ : Store) (h : k.sub c = true) : gTry cl fu c (some i) s (.xc k d σ μ) = gSui i (exs cl fu s (some (k, d)) (σ.set i none) μ) := by
  unfold gTry
  simp only [h, if_true]
  rfl
theorem gTry_only (c : Cl) (s : Ss) (k : Cl) (d : D) (σ : Env) (μ : Store) (h : k.sub c = true) : gTry cl fu c none s (.xc k d σ μ) = gSui0 (exs cl fu s (some (k, d)) σ μ) := by
  unfold gTry
  simp only [h, if_true]
  rfl
theorem gTry_no (c : Cl) (i : Option Nat) (s : Ss) (k : Cl) (d : D) (σ : Env) (μ : Store) (h : k.sub c = false) : gTry cl fu c i s (.xc k d σ μ) = .xc k d σ μ := by
  unfold gTry
  simp only [h, Bool.false_eq_true, if_false]
theorem gSui_nx (i : Nat) (σ : Env) (μ : Store) : gSui i (.nx σ μ) = .nx (σ.set i none) μ := nrfl rfl
theorem gSui_rt (i : Nat) (d : D) (μ : Store) : gSui i (.rt d μ) = .rt d μ := nrfl rfl
theorem gSui0_nx (σ : Env) (μ : Store) : gSui0 (.nx σ μ) = .nx σ μ := nrfl rfl
theorem gSui0_rt (d : D) (μ : Store) : gSui0 (.rt d μ) = .rt d μ := nrfl rfl
/-! for over values -/
def forV (f : D → Env → Store → Out) : List D → Env → Store → Out
  | [], σ, μ => .nx σ μ
  | d :: ds, σ, μ => (f d σ μ).seq (forV f ds)
theorem forLoop_vals (f : D → Env → Store → Out) (xs : List D) : ∀ (n i : Nat) (σ : Env) (μ : Store), n + i = xs.length → forLoop (.vals xs) f n i σ μ = forV f (xs.drop i) σ μ
  | 0, i, σ, μ, h => by
    have e : i = xs.length := by omega
    subst e
    unfold forLoop
    simp [Src.len, forV]
  | n + 1, i, σ, μ, h => by
    have hi : i < xs.length := by omega
    unfold forLoop
    rw [List.drop_eq_getElem_cons hi]
    unfold forV
    simp only [Src.get, List.getElem?_eq_getElem hi]
    congr 1
    funext σ μ
    exact forLoop_vals f xs n (i + 1) σ μ (by omega)
theorem for_vals (f : D → Env → Store → Out) (xs : List D) (σ : Env) (μ : Store) : gFor f σ (.vals xs) μ = forV f xs σ μ := by
  unfold gFor forRun
  simp only [Src.len]
  rw [forLoop_vals f xs xs.length 0 σ μ (by omega), List.drop_zero]
end
section
variable (cl : Calls) (cx : Option (Cl × D)) (fu : Nat)
theorem fAnd_t (b : E) (σ : Env) (μ : Store) : fAnd cl cx b σ (.bl true) μ = ev cl cx b σ μ := nrfl rfl
theorem fAnd_f (b : E) (σ : Env) (μ : Store) : fAnd cl cx b σ (.bl false) μ = .ok (.bl false) μ := nrfl rfl
theorem fOr_t (b : E) (σ : Env) (μ : Store) : fOr cl cx b σ (.bl true) μ = .ok (.bl true) μ := nrfl rfl
theorem fOr_f (b : E) (σ : Env) (μ : Store) : fOr cl cx b σ (.bl false) μ = ev cl cx b σ μ := nrfl rfl
theorem fIfe_t (a b : E) (σ : Env) (μ : Store) : fIfe cl cx a b σ (.bl true) μ = ev cl cx a σ μ := nrfl rfl
theorem fIfe_f (a b : E) (σ : Env) (μ : Store) : fIfe cl cx a b σ (.bl false) μ = ev cl cx b σ μ := nrfl rfl
theorem fCh3_t (o2 : CmpOp) (c : E) (σ : Env) (y : D) (μ : Store) : fCh3 cl cx o2 c σ y true μ = (ev cl cx c σ μ).bind (fCh4 o2 y) := nrfl rfl
theorem fCh3_f (o2 : CmpOp) (c : E) (σ : Env) (y : D) (μ : Store) : fCh3 cl cx o2 c σ y false μ = .ok (.bl false) μ := nrfl rfl
theorem fTst_t (e : E) (σ : Env) (μ : Store) : fTst cl cx e σ (.bl true) μ = (ev cl cx e σ μ).bind fSome := nrfl rfl
theorem fTst_f (e : E) (σ : Env) (μ : Store) : fTst cl cx e σ (.bl false) μ = .ok none μ := nrfl rfl
theorem gIfs_t (a b : Ss) (σ : Env) (μ : Store) : gIfs cl fu cx a b σ (.bl true) μ = exs cl fu a cx σ μ := nrfl rfl
theorem gIfs_f (a b : Ss) (σ : Env) (μ : Store) : gIfs cl fu cx a b σ (.bl false) μ = exs cl fu b cx σ μ := nrfl rfl
end
theorem get_set {μ : Store} {p : Nat} {o : O} (h : p < μ.length) : (μ.set p o)[p]? = some o := List.getElem?_set_self h
theorem get_set_ne {μ : Store} {p q : Nat} {o : O} (h : p ≠ q) : (μ.set p o)[q]? = μ[q]? := List.getElem?_set_ne h
theorem get_app {μ : Store} {o : O} : (μ ++ [o])[μ.length]? = some o := by simp
theorem get_app_lt {μ ν : Store} {p : Nat} (h : p < μ.length) : (μ ++ ν)[p]? = μ[p]? := List.getElem?_append_left h
/-! indices -/
theorem atI_nat {α : Type} (xs : List α) (n : Nat) : atI xs (n : Int) = xs[n]? := by
  unfold atI ixN
  rw [if_pos (Int.natCast_nonneg n)]
  by_cases h : n < xs.length
  · rw [if_pos (by omega)]; simp
  · rw [if_neg (by omega), List.getElem?_eq_none (by omega)]; rfl
theorem atI_0 {α : Type} (xs : List α) : atI xs 0 = xs[0]? := atI_nat xs 0
theorem atI_1 {α : Type} (xs : List α) : atI xs 1 = xs[1]? := atI_nat xs 1
theorem atI_2 {α : Type} (xs : List α) : atI xs 2 = xs[2]? := atI_nat xs 2
theorem atI_3 {α : Type} (xs : List α) : atI xs 3 = xs[3]? := atI_nat xs 3
theorem atI_4 {α : Type} (xs : List α) : atI xs 4 = xs[4]? := atI_nat xs 4
theorem ixN_nat (m n : Nat) : ixN m (n : Int) = if n < m then some n else none := by
  unfold ixN
  rw [if_pos (Int.natCast_nonneg n)]
  by_cases h : n < m
  · rw [if_pos (by omega), if_pos h]; rfl
  · rw [if_neg (by omega), if_neg h]
theorem ixN_0 (m : Nat) : ixN m 0 = if 0 < m then some 0 else none := ixN_nat m 0
theorem ixN_1 (m : Nat) : ixN m 1 = if 1 < m then some 1 else none := ixN_nat m 1
theorem ixN_2 (m : Nat) : ixN m 2 = if 2 < m then some 2 else none := ixN_nat m 2
theorem ixN_3 (m : Nat) : ixN m 3 = if 3 < m then some 3 else none := ixN_nat m 3
end FH

set_option maxHeartbeats 1000000
/-! Primitives, case by case. -/
namespace FH
open PySem (Operator CmpOp Str PyData)
section
variable (μ : Store)
theorem src_str (s : List Nat) : srcD μ (.str s) = some (.vals (s.map fun c => .str [c])) := nrfl rfl
theorem src_tup (xs : List D) : srcD μ (.tup xs) = some (.vals xs) := nrfl rfl
theorem src_lst (xs : List D) : srcD μ (.lst xs) = some (.vals xs) := nrfl rfl
theorem src_ptr (p : Nat) : srcD μ (.ptr p) = (match μ[p]? with | some (.lst _) => some (.at_ p) | _ => none) := nrfl rfl
theorem idx_str (s : List Nat) (k : Int) : idxD μ (.str s) (.int k) = if s.length ≤ lineMax then (atI s k).map fun c => .str [c] else none := nrfl rfl
theorem idx_tup (xs : List D) (k : Int) : idxD μ (.tup xs) (.int k) = atI xs k := nrfl rfl
theorem idx_lst (xs : List D) (k : Int) : idxD μ (.lst xs) (.int k) = atI xs k := nrfl rfl
theorem idx_rl (xs : List D) (k : Int) : idxD μ (.rl xs) (.int k) = atI xs k := nrfl rfl
theorem idx_ptr (p : Nat) (i : D) : idxD μ (.ptr p) i = (match μ[p]? with
    | some (.dic kvs) => (keyD i).bind fun k => dkey kvs k
    | some (.lst xs) => (match i with | .int k => atI xs k | _ => none)
    | _ => none) := nrfl rfl
theorem its_tup (xs : List D) : itemsOf μ (.tup xs) = some xs := nrfl rfl
theorem its_lst (xs : List D) : itemsOf μ (.lst xs) = some xs := nrfl rfl
theorem its_rl (xs : List D) : itemsOf μ (.rl xs) = some xs := nrfl rfl
theorem its_ptr (p : Nat) : itemsOf μ (.ptr p) = (match μ[p]? with | some (.lst xs) => some xs | _ => none) := nrfl rfl
theorem lst_lst' (xs : List D) : listOf μ (.lst xs) = some xs := nrfl rfl
theorem lst_ptr (p : Nat) : listOf μ (.ptr p) = (match μ[p]? with | some (.lst xs) => some xs | _ => none) := nrfl rfl
theorem len_str (s : List Nat) : lenD μ [.str s] = if s.length ≤ lineMax then some (.int s.length) else none := nrfl rfl
theorem len_tup (xs : List D) : lenD μ [.tup xs] = some (.int xs.length) := nrfl rfl
theorem len_lst (xs : List D) : lenD μ [.lst xs] = some (.int xs.length) := nrfl rfl
theorem len_rl (xs : List D) : lenD μ [.rl xs] = some (.int xs.length) := nrfl rfl
theorem len_ptr (p : Nat) : lenD μ [.ptr p] = (itemsOf μ (.ptr p)).map fun xs => .int xs.length := nrfl rfl
theorem isi_non (ts : List Ty) : isiD μ .non ts = some false := nrfl rfl
theorem isi_bl (b : Bool) (ts : List Ty) : isiD μ (.bl b) ts = some (ts.any (tyIs .bool)) := nrfl rfl
theorem isi_int (b : Int) (ts : List Ty) : isiD μ (.int b) ts = some (ts.any (tyIs .int)) := nrfl rfl
theorem isi_str (b : List Nat) (ts : List Ty) : isiD μ (.str b) ts = some (ts.any (tyIs .str)) := nrfl rfl
theorem isi_tup (b : List D) (ts : List Ty) : isiD μ (.tup b) ts = some (ts.any (tyIs .tuple)) := nrfl rfl
theorem isi_lst (b : List D) (ts : List Ty) : isiD μ (.lst b) ts = some (ts.any (tyIs .list)) := nrfl rfl
theorem add_int (i j : Int) : binD μ .Add (.int i) (.int j) = some (.int (i + j)) := nrfl rfl
theorem add_str (a b : List Nat) : binD μ .Add (.str a) (.str b) = if a.length + b.length ≤ lineMax then some (.str (a ++ b)) else none := nrfl rfl
theorem add_tup (a b : List D) : binD μ .Add (.tup a) (.tup b) = if a.length + b.length ≤ lineMax then some (.tup (a ++ b)) else none := nrfl rfl
theorem add_lst (a b : List D) : binD μ .Add (.lst a) (.lst b) = if a.length + b.length ≤ lineMax then some (.lst (a ++ b)) else none := nrfl rfl
theorem add_lp (a : List D) (q : Nat) : binD μ .Add (.lst a) (.ptr q) = (listOf μ (.ptr q)).bind fun ys => if a.length + ys.length ≤ lineMax then some (.lst (a ++ ys)) else none := nrfl rfl
theorem add_pl (p : Nat) (b : List D) : binD μ .Add (.ptr p) (.lst b) = (listOf μ (.ptr p)).bind fun xs => if xs.length + b.length ≤ lineMax then some (.lst (xs ++ b)) else none := nrfl rfl
theorem sub_int (i j : Int) : binD μ .Sub (.int i) (.int j) = some (.int (i - j)) := nrfl rfl
theorem mul_int (i j : Int) : binD μ .Mult (.int i) (.int j) = if smallI i || smallI j then some (.int (i * j)) else none := nrfl rfl
theorem mul_str (s : List Nat) (k : Int) : binD μ .Mult (.str s) (.int k) = if s.length ≤ 1000 ∧ k ≤ 1000 ∧ 0 ≤ k then some (.str (List.replicate k.toNat s).flatten) else none := nrfl rfl
theorem mul_tup (xs : List D) (k : Int) : binD μ .Mult (.tup xs) (.int k) = if xs.length ≤ 1000 ∧ k ≤ 1000 ∧ 2 ≤ k ∧ 1 ≤ xs.length then some (.tup (List.replicate k.toNat xs).flatten) else none := nrfl rfl
theorem div_int (i j : Int) : binD μ .FloorDiv (.int i) (.int j) = if 0 < j ∧ Nat.blt j.natAbs 1073741824 = true then some (.int (i / j)) else none := nrfl rfl
theorem mod_int (i j : Int) : binD μ .Mod (.int i) (.int j) = if 0 < j then some (.int (i % j)) else none := nrfl rfl
theorem pow_int (i j : Int) : binD μ .Pow (.int i) (.int j) = if 0 ≤ j ∧ j ≤ 1000 ∧ smallI i then some (.int (i ^ j.toNat)) else none := nrfl rfl
theorem cmp_eq (a b : D) : cmpD μ .Eq a b = eqD μ a b := nrfl rfl
theorem cmp_ne (a b : D) : cmpD μ .NotEq a b = (eqD μ a b).map (!·) := nrfl rfl
theorem cmp_is_non : cmpD μ .Is .non .non = some true := nrfl rfl
theorem cmp_is_tup (xs : List D) : cmpD μ .Is (.tup xs) .non = some false := nrfl rfl
theorem cmp_is_int (i : Int) : cmpD μ .Is (.int i) .non = some false := nrfl rfl
theorem cmp_is_bl (i : Bool) : cmpD μ .Is (.bl i) .non = some false := nrfl rfl
theorem cmp_is_str (i : List Nat) : cmpD μ .Is (.str i) .non = some false := nrfl rfl
theorem cmp_isnot_non : cmpD μ .IsNot .non .non = some false := nrfl rfl
theorem cmp_isnot_tup (xs : List D) : cmpD μ .IsNot (.tup xs) .non = some true := nrfl rfl
theorem cmp_in (a b : D) : cmpD μ .In a b = inD μ a b := nrfl rfl
theorem cmp_notin (a b : D) : cmpD μ .NotIn a b = (inD μ a b).map (!·) := nrfl rfl
theorem cmp_lt (i j : Int) : cmpD μ .Lt (.int i) (.int j) = some (decide (i < j)) := nrfl rfl
theorem cmp_le (i j : Int) : cmpD μ .LtE (.int i) (.int j) = some (decide (i ≤ j)) := nrfl rfl
theorem cmp_gt (i j : Int) : cmpD μ .Gt (.int i) (.int j) = some (decide (j < i)) := nrfl rfl
theorem cmp_ge (i j : Int) : cmpD μ .GtE (.int i) (.int j) = some (decide (j ≤ i)) := nrfl rfl
theorem slc_str (s : List Nat) (l h : Option Int) : slcV μ (.str s) l h = if s.length ≤ lineMax then some (.str (cut s l h)) else none := nrfl rfl
theorem slc_tup (xs : List D) (l h : Option Int) : slcV μ (.tup xs) l h = some (.tup (cut xs l h)) := nrfl rfl
theorem slc_lst (xs : List D) (l h : Option Int) : slcV μ (.lst xs) l h = some (.lst (cut xs l h)) := nrfl rfl
theorem slc_ptr (p : Nat) (l h : Option Int) : slcV μ (.ptr p) l h = (itemsOf μ (.ptr p)).map fun xs => .lst (cut xs l h) := nrfl rfl
theorem blt_len (ds : List D) : bltD .len ds μ = lenD μ ds := nrfl rfl
theorem blt_tuple (d : D) : bltD .tuple [d] μ = (itemsOf μ d).map .tup := nrfl rfl
theorem blt_list (d : D) : bltD .list [d] μ = (itemsOf μ d).map .lst := nrfl rfl
theorem blt_int_bl (b : Bool) : bltD .int [.bl b] μ = some (.int (if b then 1 else 0)) := nrfl rfl
theorem blt_min2 (i j : Int) : bltD .min2 [.int i, .int j] μ = some (.int (if j < i then j else i)) := nrfl rfl
theorem blt_max2 (i j : Int) : bltD .max2 [.int i, .int j] μ = some (.int (if j > i then j else i)) := nrfl rfl
theorem blt_min1 (i j : Int) : bltD .min1 [.tup [.int i, .int j]] μ = some (.int (if j < i then j else i)) := nrfl rfl
theorem blt_sum (d : D) : bltD .sum [d] μ = sumD μ d := nrfl rfl
theorem blt_sorted (d : D) : bltD .sorted [d] μ = sortedD d := nrfl rfl
theorem rcv_str_join (s : List Nat) : recvOk .join (.str s) μ = true := nrfl rfl
theorem rcv_str_split (s : List Nat) : recvOk .split (.str s) μ = true := nrfl rfl
theorem rcv_append (d : D) : recvOk .append d μ = (listOf μ d).isSome := nrfl rfl
theorem rcv_extend (d : D) : recvOk .extend d μ = (listOf μ d).isSome := nrfl rfl
theorem rcv_reverse (d : D) : recvOk .reverse d μ = (listOf μ d).isSome := nrfl rfl
theorem rcv_pop (d : D) : recvOk .pop d μ = (listOf μ d).isSome := nrfl rfl
theorem rcv_clear (d : D) : recvOk .clear d μ = (listOf μ d).isSome := nrfl rfl
theorem mt_append' (p : Nat) (d : D) : mthD .append (.ptr p) [d] μ = (match μ[p]? with | some (.lst xs) => if xs.length < lineMax then .ok .non (μ.set p (.lst (xs ++ [d]))) else .bad | _ => .bad) := by
  show appendD μ (.ptr p) [d] = _
  unfold appendD lstAt
  cases h : μ[p]? with
  | none => simp [h]
  | some o => cases o <;> simp [h]
theorem mt_reverse' (p : Nat) : mthD .reverse (.ptr p) [] μ = (match μ[p]? with | some (.lst xs) => .ok .non (μ.set p (.lst xs.reverse)) | _ => .bad) := by
  show reverseD μ (.ptr p) [] = _
  unfold reverseD lstAt
  cases h : μ[p]? with
  | none => simp [h]
  | some o => cases o <;> simp [h]
theorem mt_extend' (p : Nat) (d : D) : mthD .extend (.ptr p) [d] μ = (match μ[p]? with | some (.lst xs) => (match listOf μ d with | some ys => if xs.length + ys.length ≤ lineMax then .ok .non (μ.set p (.lst (xs ++ ys))) else .bad | none => .bad) | _ => .bad) := by
  show extendD μ (.ptr p) [d] = _
  unfold extendD lstAt
  cases h : μ[p]? with
  | none => cases hd : listOf μ d <;> simp [h, hd]
  | some o => cases o <;> cases hd : listOf μ d <;> simp [h, hd]
theorem mt_join' (s : List Nat) (d : D) : mthD .join (.str s) [d] μ = (match (itemsOf μ d).bind strsOf with
      | some ss => if (ss.map List.length).sum + ss.length * s.length ≤ 16777216 then .ok (.str (joinC s ss)) μ else .bad
      | none => .bad) := nrfl rfl
theorem mt_clear' (p : Nat) : mthD .clear (.ptr p) [] μ = (match μ[p]? with | some (.lst _) => .ok .non (μ.set p (.lst [])) | _ => .bad) := by
  show clearD μ (.ptr p) [] = _
  unfold clearD lstAt
  cases h : μ[p]? with
  | none => simp [h]
  | some o => cases o <;> simp [h]
theorem six_lst (p : Nat) (k v : D) : setIx (.ptr p) k v μ = (match μ[p]? with
    | some (.lst xs) => (match k with | .int i => (ixN xs.length i).map fun j => μ.set p (.lst (xs.set j v)) | _ => none)
    | some (.dic kvs) => (keyD k).bind fun q => if kvs.length < lineMax then some (μ.set p (.dic (setK kvs q k v))) else none
    | _ => none) := nrfl rfl
end
theorem sub_HandError_HandError : Cl.sub .HandError .HandError = true := nrfl rfl
theorem sub_HandError_BadField : Cl.sub .HandError .BadField = false := nrfl rfl
theorem sub_HandError_BadProgram : Cl.sub .HandError .BadProgram = false := nrfl rfl
theorem sub_HandError_BadSize : Cl.sub .HandError .BadSize = false := nrfl rfl
theorem sub_HandError_BadWish : Cl.sub .HandError .BadWish = false := nrfl rfl
theorem sub_HandError_BadNumber : Cl.sub .HandError .BadNumber = false := nrfl rfl
theorem sub_HandError_BadText : Cl.sub .HandError .BadText = false := nrfl rfl
theorem sub_HandError_ValueError : Cl.sub .HandError .ValueError = true := nrfl rfl
theorem sub_BadField_HandError : Cl.sub .BadField .HandError = true := nrfl rfl
theorem sub_BadField_BadField : Cl.sub .BadField .BadField = true := nrfl rfl
theorem sub_BadField_BadProgram : Cl.sub .BadField .BadProgram = false := nrfl rfl
theorem sub_BadField_BadSize : Cl.sub .BadField .BadSize = false := nrfl rfl
theorem sub_BadField_BadWish : Cl.sub .BadField .BadWish = false := nrfl rfl
theorem sub_BadField_BadNumber : Cl.sub .BadField .BadNumber = false := nrfl rfl
theorem sub_BadField_BadText : Cl.sub .BadField .BadText = false := nrfl rfl
theorem sub_BadField_ValueError : Cl.sub .BadField .ValueError = true := nrfl rfl
theorem sub_BadProgram_HandError : Cl.sub .BadProgram .HandError = true := nrfl rfl
theorem sub_BadProgram_BadField : Cl.sub .BadProgram .BadField = false := nrfl rfl
theorem sub_BadProgram_BadProgram : Cl.sub .BadProgram .BadProgram = true := nrfl rfl
theorem sub_BadProgram_BadSize : Cl.sub .BadProgram .BadSize = false := nrfl rfl
theorem sub_BadProgram_BadWish : Cl.sub .BadProgram .BadWish = false := nrfl rfl
theorem sub_BadProgram_BadNumber : Cl.sub .BadProgram .BadNumber = false := nrfl rfl
theorem sub_BadProgram_BadText : Cl.sub .BadProgram .BadText = false := nrfl rfl
theorem sub_BadProgram_ValueError : Cl.sub .BadProgram .ValueError = true := nrfl rfl
theorem sub_BadSize_HandError : Cl.sub .BadSize .HandError = true := nrfl rfl
theorem sub_BadSize_BadField : Cl.sub .BadSize .BadField = false := nrfl rfl
theorem sub_BadSize_BadProgram : Cl.sub .BadSize .BadProgram = false := nrfl rfl
theorem sub_BadSize_BadSize : Cl.sub .BadSize .BadSize = true := nrfl rfl
theorem sub_BadSize_BadWish : Cl.sub .BadSize .BadWish = false := nrfl rfl
theorem sub_BadSize_BadNumber : Cl.sub .BadSize .BadNumber = false := nrfl rfl
theorem sub_BadSize_BadText : Cl.sub .BadSize .BadText = false := nrfl rfl
theorem sub_BadSize_ValueError : Cl.sub .BadSize .ValueError = true := nrfl rfl
theorem sub_BadWish_HandError : Cl.sub .BadWish .HandError = true := nrfl rfl
theorem sub_BadWish_BadField : Cl.sub .BadWish .BadField = false := nrfl rfl
theorem sub_BadWish_BadProgram : Cl.sub .BadWish .BadProgram = false := nrfl rfl
theorem sub_BadWish_BadSize : Cl.sub .BadWish .BadSize = false := nrfl rfl
theorem sub_BadWish_BadWish : Cl.sub .BadWish .BadWish = true := nrfl rfl
theorem sub_BadWish_BadNumber : Cl.sub .BadWish .BadNumber = false := nrfl rfl
theorem sub_BadWish_BadText : Cl.sub .BadWish .BadText = false := nrfl rfl
theorem sub_BadWish_ValueError : Cl.sub .BadWish .ValueError = true := nrfl rfl
theorem sub_BadNumber_HandError : Cl.sub .BadNumber .HandError = true := nrfl rfl
theorem sub_BadNumber_BadField : Cl.sub .BadNumber .BadField = false := nrfl rfl
theorem sub_BadNumber_BadProgram : Cl.sub .BadNumber .BadProgram = false := nrfl rfl
theorem sub_BadNumber_BadSize : Cl.sub .BadNumber .BadSize = false := nrfl rfl
theorem sub_BadNumber_BadWish : Cl.sub .BadNumber .BadWish = false := nrfl rfl
theorem sub_BadNumber_BadNumber : Cl.sub .BadNumber .BadNumber = true := nrfl rfl
theorem sub_BadNumber_BadText : Cl.sub .BadNumber .BadText = false := nrfl rfl
theorem sub_BadNumber_ValueError : Cl.sub .BadNumber .ValueError = true := nrfl rfl
theorem sub_BadText_HandError : Cl.sub .BadText .HandError = true := nrfl rfl
theorem sub_BadText_BadField : Cl.sub .BadText .BadField = false := nrfl rfl
theorem sub_BadText_BadProgram : Cl.sub .BadText .BadProgram = false := nrfl rfl
theorem sub_BadText_BadSize : Cl.sub .BadText .BadSize = false := nrfl rfl
theorem sub_BadText_BadWish : Cl.sub .BadText .BadWish = false := nrfl rfl
theorem sub_BadText_BadNumber : Cl.sub .BadText .BadNumber = false := nrfl rfl
theorem sub_BadText_BadText : Cl.sub .BadText .BadText = true := nrfl rfl
theorem sub_BadText_ValueError : Cl.sub .BadText .ValueError = true := nrfl rfl
end FH

set_option maxHeartbeats 4000000
namespace FH
namespace M
open PySem (Operator CmpOp Str PyData)
local macro_rules | `(tactic| walk_at "fh") => `(tactic| simp only [v_var, v_con, v_glo, v_tup, v_lst, v_ref, v_dnew, v_bin, v_neg, v_cmp, v_chain, v_inG, v_getG, v_and, v_or, v_not, v_ife, v_idx, v_slc, v_fld, v_isE, v_comp0, v_comp1, v_isi, v_blt, v_mth, v_call, v_meth, v_make, v_nil, v_cons, v_seq, v_rng, v_rev,
  fTup, fLst, fRef, fBin2, fBin1, fNeg, fBl, fCmp2, fCmp1, fCh4, fCh2, fCh1, fInG, fGetG, fNot, fIdx2, fIdx1, fSlc3, fSlc2, fSlc1, fFld, fIsi, fBlt, fMth2, fMth1, fCall, fMeth, fMake2, fMake, fCons2, fCons1, fSeq, fVals, fRng, fRev, fSome, turn0F, turn1F, fToL,
  s_nil, s_cons, s_pass, s_ex, s_ret, s_asg, s_unp, s_unpL, s_par, s_setI, s_setF, s_ifs, s_for, s_raise, s_whl, whl_succ, gWhl_t, gWhl_f, s_try, gTry_nx, gTry_rt, gTry_as, gTry_only, gTry_no, gSui_nx, gSui_rt, gSui0_nx, gSui0_rt, gSeq, gEx, gRet, gAsg, gUnp, gUnpL, gPar2, gPar1, gSetI3, gSetI2, gSetI1, gSetF2, gSetF1, gBody, gRaise,
  Res.bind_ok, Res.bind_exc, Res.of_some, Res.out_ok, Res.out_exc, Res.noX_ok, Out.seq_nx, Out.seq_rt, Out.seq_xc, Out.res_nx, Out.res_rt, Out.res_xc, List.getElem?_cons_zero, List.getElem?_cons_succ, Option.bind_some, Option.map_some, Option.map_none, Option.bind_none, id_eq, List.set_cons_zero, List.set_cons_succ,
  src_str, src_tup, src_lst, src_ptr, idx_str, idx_tup, idx_lst, idx_rl, idx_ptr, its_tup, its_lst, its_rl, its_ptr, lst_lst', lst_ptr, len_str, len_tup, len_lst, len_rl, len_ptr, isi_non, isi_bl, isi_int, isi_str, isi_tup, isi_lst, add_int, add_str, add_tup, add_lst, add_lp, add_pl, sub_int, mul_int, mul_str, mul_tup, div_int, mod_int, pow_int, cmp_eq, cmp_ne, cmp_is_non, cmp_is_tup, cmp_is_int, cmp_is_bl, cmp_is_str, cmp_isnot_non, cmp_isnot_tup, cmp_in, cmp_notin, cmp_lt, cmp_le, cmp_gt, cmp_ge, slc_str, slc_tup, slc_lst, slc_ptr, blt_len, blt_tuple, blt_list, blt_int_bl, blt_min2, blt_max2, blt_min1, blt_sum, blt_sorted, rcv_str_join, rcv_str_split, rcv_append, rcv_extend, rcv_reverse, rcv_pop, rcv_clear, mt_append', mt_reverse', mt_extend', mt_clear', mt_join', six_lst, setAll, getF, putF, sub_HandError_HandError, sub_HandError_BadField, sub_HandError_BadProgram, sub_HandError_BadSize, sub_HandError_BadWish, sub_HandError_BadNumber, sub_HandError_BadText, sub_HandError_ValueError, sub_BadField_HandError, sub_BadField_BadField, sub_BadField_BadProgram, sub_BadField_BadSize, sub_BadField_BadWish, sub_BadField_BadNumber, sub_BadField_BadText, sub_BadField_ValueError, sub_BadProgram_HandError, sub_BadProgram_BadField, sub_BadProgram_BadProgram, sub_BadProgram_BadSize, sub_BadProgram_BadWish, sub_BadProgram_BadNumber, sub_BadProgram_BadText, sub_BadProgram_ValueError, sub_BadSize_HandError, sub_BadSize_BadField, sub_BadSize_BadProgram, sub_BadSize_BadSize, sub_BadSize_BadWish, sub_BadSize_BadNumber, sub_BadSize_BadText, sub_BadSize_ValueError, sub_BadWish_HandError, sub_BadWish_BadField, sub_BadWish_BadProgram, sub_BadWish_BadSize, sub_BadWish_BadWish, sub_BadWish_BadNumber, sub_BadWish_BadText, sub_BadWish_ValueError, sub_BadNumber_HandError, sub_BadNumber_BadField, sub_BadNumber_BadProgram, sub_BadNumber_BadSize, sub_BadNumber_BadWish, sub_BadNumber_BadNumber, sub_BadNumber_BadText, sub_BadNumber_ValueError, sub_BadText_HandError, sub_BadText_BadField, sub_BadText_BadProgram, sub_BadText_BadSize, sub_BadText_BadWish, sub_BadText_BadNumber, sub_BadText_BadText, sub_BadText_ValueError, noneE, gval, atI_0, atI_1, atI_2, atI_3, atI_4, ixN_0, ixN_1, ixN_2, ixN_3, List.length_cons, List.length_nil, Option.isSome_some, toI, if_true, if_false, Bool.false_eq_true, reduceIte, Nat.reduceAdd, Nat.reduceLT, comp_vals, rngD, Int.toNat_natCast, Int.reduceToNat, tyIs, List.any_cons, List.any_nil, Bool.or_false, Bool.or_true, Bool.true_or, Bool.false_or, Bool.and_true, Bool.true_and, Bool.and_false, Bool.false_and, reduceCtorEq, Bool.not_true, Bool.not_false, decide_true, decide_false, fAnd_t, fAnd_f, fOr_t, fOr_f, fIfe_t, fIfe_f, fCh3_t, fCh3_f, fTst_t, fTst_f, gIfs_t, gIfs_f, get_set, List.length_set, List.set_set, and_self, and_true, true_and, or_true, true_or, or_false, false_or])
local macro_rules | `(tactic| walk_at "fhs") => `(tactic| simp only [v_var, v_con, v_glo, v_tup, v_lst, v_ref, v_dnew, v_bin, v_neg, v_cmp, v_chain, v_inG, v_getG, v_and, v_or, v_not, v_ife, v_idx, v_slc, v_fld, v_isE, v_comp0, v_comp1, v_isi, v_blt, v_mth, v_call, v_meth, v_make, v_nil, v_cons, v_seq, v_rng, v_rev,
  fTup, fLst, fRef, fBin2, fBin1, fNeg, fBl, fCmp2, fCmp1, fCh4, fCh2, fCh1, fInG, fGetG, fNot, fIdx2, fIdx1, fSlc3, fSlc2, fSlc1, fFld, fIsi, fBlt, fMth2, fMth1, fCall, fMeth, fMake2, fMake, fCons2, fCons1, fSeq, fVals, fRng, fRev, fSome, turn0F, turn1F, fToL,
  s_nil, s_cons, s_pass, s_ex, s_ret, s_asg, s_unp, s_unpL, s_par, s_setI, s_setF, s_ifs, s_for, s_raise, s_whl, whl_succ, gWhl_t, gWhl_f, s_try, gTry_nx, gTry_rt, gTry_as, gTry_only, gTry_no, gSui_nx, gSui_rt, gSui0_nx, gSui0_rt, gSeq, gEx, gRet, gAsg, gUnp, gUnpL, gPar2, gPar1, gSetI3, gSetI2, gSetI1, gSetF2, gSetF1, gBody, gRaise,
  Res.bind_ok, Res.bind_exc, Res.of_some, Res.out_ok, Res.out_exc, Res.noX_ok, Out.seq_nx, Out.seq_rt, Out.seq_xc, Out.res_nx, Out.res_rt, Out.res_xc, List.getElem?_cons_zero, List.getElem?_cons_succ, Option.bind_some, Option.map_some, Option.map_none, Option.bind_none, id_eq, List.set_cons_zero, List.set_cons_succ,
  src_str, src_tup, src_lst, src_ptr, idx_str, idx_tup, idx_lst, idx_rl, idx_ptr, its_tup, its_lst, its_rl, its_ptr, lst_lst', lst_ptr, len_str, len_tup, len_lst, len_rl, len_ptr, isi_non, isi_bl, isi_int, isi_str, isi_tup, isi_lst, add_int, add_str, add_tup, add_lst, add_lp, add_pl, sub_int, mul_int, mul_str, mul_tup, div_int, mod_int, pow_int, cmp_eq, cmp_ne, cmp_is_non, cmp_is_tup, cmp_is_int, cmp_is_bl, cmp_is_str, cmp_isnot_non, cmp_isnot_tup, cmp_in, cmp_notin, cmp_lt, cmp_le, cmp_gt, cmp_ge, slc_str, slc_tup, slc_lst, slc_ptr, blt_len, blt_tuple, blt_list, blt_int_bl, blt_min2, blt_max2, blt_min1, blt_sum, blt_sorted, rcv_str_join, rcv_str_split, rcv_append, rcv_extend, rcv_reverse, rcv_pop, rcv_clear, mt_append', mt_reverse', mt_extend', mt_clear', mt_join', six_lst, setAll, getF, putF, sub_HandError_HandError, sub_HandError_BadField, sub_HandError_BadProgram, sub_HandError_BadSize, sub_HandError_BadWish, sub_HandError_BadNumber, sub_HandError_BadText, sub_HandError_ValueError, sub_BadField_HandError, sub_BadField_BadField, sub_BadField_BadProgram, sub_BadField_BadSize, sub_BadField_BadWish, sub_BadField_BadNumber, sub_BadField_BadText, sub_BadField_ValueError, sub_BadProgram_HandError, sub_BadProgram_BadField, sub_BadProgram_BadProgram, sub_BadProgram_BadSize, sub_BadProgram_BadWish, sub_BadProgram_BadNumber, sub_BadProgram_BadText, sub_BadProgram_ValueError, sub_BadSize_HandError, sub_BadSize_BadField, sub_BadSize_BadProgram, sub_BadSize_BadSize, sub_BadSize_BadWish, sub_BadSize_BadNumber, sub_BadSize_BadText, sub_BadSize_ValueError, sub_BadWish_HandError, sub_BadWish_BadField, sub_BadWish_BadProgram, sub_BadWish_BadSize, sub_BadWish_BadWish, sub_BadWish_BadNumber, sub_BadWish_BadText, sub_BadWish_ValueError, sub_BadNumber_HandError, sub_BadNumber_BadField, sub_BadNumber_BadProgram, sub_BadNumber_BadSize, sub_BadNumber_BadWish, sub_BadNumber_BadNumber, sub_BadNumber_BadText, sub_BadNumber_ValueError, sub_BadText_HandError, sub_BadText_BadField, sub_BadText_BadProgram, sub_BadText_BadSize, sub_BadText_BadWish, sub_BadText_BadNumber, sub_BadText_BadText, sub_BadText_ValueError, noneE, gval, atI_0, atI_1, atI_2, atI_3, atI_4, ixN_0, ixN_1, ixN_2, ixN_3, List.length_cons, List.length_nil, Option.isSome_some, toI, if_true, if_false, Bool.false_eq_true, reduceIte, Nat.reduceAdd, Nat.reduceLT, comp_vals, rngD, Int.toNat_natCast, Int.reduceToNat, tyIs, List.any_cons, List.any_nil, Bool.or_false, Bool.or_true, Bool.true_or, Bool.false_or, Bool.and_true, Bool.true_and, Bool.and_false, Bool.false_and, reduceCtorEq, Bool.not_true, Bool.not_false, decide_true, decide_false, fAnd_t, fAnd_f, fOr_t, fOr_f, fIfe_t, fIfe_f, fCh3_t, fCh3_f, fTst_t, fTst_f, gIfs_t, gIfs_f, get_set, List.length_set, List.set_set, and_self, and_true, true_and, or_true, true_or, or_false, false_or, *])
/-! Numbers drawn off the script. -/
/-- the row of numbers at p -/
def RowAt (ns : List Int) (p : Nat) (μ : Store) : Prop := ∃ a b c : Int, 0 ≤ a ∧ μ[p]? = some (.lst [.rl (ns.map .int), .int a, .int b, .int c])
theorem RowAt.lt {ns : List Int} {p : Nat} {μ : Store} (h : RowAt ns p μ) : p < μ.length := by
  obtain ⟨a, b, c, _, hp⟩ := h
  exact (List.getElem?_eq_some_iff.mp hp).1
theorem pow18 : (10 : Int) ^ 18 = 1000000000000000000 := by decide
theorem small10 : smallI 10 = true := by decide
theorem small48 : smallI 48271 = true := by decide
theorem taken {ns : List Int} {p : Nat} {μ : Store} {m : Int} {fu k : Nat} (h : RowAt ns p μ) (hm : 0 < m) (hm2 : Nat.blt m.natAbs 1073741824 = true) :
    ∃ v r, callK Gam fu (k + 1) .law_taken [.ptr p, .int m] μ = .ok (.int v) (μ.set p (.lst r)) ∧ 0 ≤ v ∧ v < m ∧ RowAt ns p (μ.set p (.lst r)) := by
  obtain ⟨a, b, c, ha, hp⟩ := h
  have hlen : p < μ.length := (List.getElem?_eq_some_iff.mp hp).1
  rw [c_law_taken]
  unfold B_law_taken
  by_cases hc : 0 < c
  · walk_at "fhs"
    exact ⟨_, _, rfl, Int.emod_nonneg _ (by omega), Int.emod_lt_of_pos _ hm, a, b, _, ha, get_set hlen⟩
  · by_cases hl : ((ns.map D.int).length : Int) < a + 1
    · have h7 : (0 : Int) < 2147483647 := by decide
      have h8 : (0 : Int) < 7 ∧ Nat.blt (7 : Int).natAbs 1073741824 = true := by decide
      have h9 := small48
      walk_at "fhs"
      exact ⟨_, _, rfl, Int.emod_nonneg _ (by omega), Int.emod_lt_of_pos _ hm, _, _, _, by omega, get_set hlen⟩
    · have h7 : (0 : Int) < 2147483647 := by decide
      have h9 := small48
      obtain ⟨n, rfl⟩ := Int.eq_ofNat_of_zero_le ha
      have hn : n < ns.length := by simp at hl; omega
      have hat : FH.atI (ns.map D.int) ((n : Int) + 1 - 1) = some (.int ns[n]) := by
        rw [show (n : Int) + 1 - 1 = (n : Int) by omega, atI_nat]
        simp [hn]
      have hpw : (0 : Int) ≤ 18 ∧ (18 : Int) ≤ 1000 ∧ smallI 10 = true := by decide
      have hp18 := pow18
      by_cases hb : (1000000000000000000 : Int) ≤ ns[n]
      · walk_at "fhs"
        exact ⟨_, _, rfl, Int.emod_nonneg _ (by omega), Int.emod_lt_of_pos _ hm, _, _, _, by omega, get_set hlen⟩
      · walk_at "fhs"
        exact ⟨_, _, rfl, Int.emod_nonneg _ (by omega), Int.emod_lt_of_pos _ hm, _, _, _, by omega, get_set hlen⟩
/-! Plain data: ==, and the laws' own look that two are alike. -/
mutual
/-- data without a thing of the store, its texts of code points -/
def pd : D → Bool
  | .non => true
  | .bl _ => true
  | .int _ => true
  | .str s => s.all (· < 0x110000)
  | .tup xs => pds xs
  | .lst xs => pds xs
  | .ptr _ => false
  | .rl _ => false
  | .exn => false
  | .clo _ _ => false
def pds : List D → Bool
  | [] => true
  | d :: ds => pd d && pds ds
end
mutual
def dd : D → Nat
  | .tup xs => dds xs + 1
  | .lst xs => dds xs + 1
  | .non => 1
  | .bl _ => 1
  | .int _ => 1
  | .str _ => 1
  | .ptr _ => 1
  | .rl _ => 1
  | .exn => 1
  | .clo _ _ => 1
def dds : List D → Nat
  | [] => 0
  | d :: ds => max (dd d) (dds ds)
end
mutual
def eqP : D → D → Bool
  | .non, b => (match b with | .non => true | _ => false)
  | .bl a, b => (match b with | .bl b => a == b | .int j => (if a then 1 else 0) == j | _ => false)
  | .int i, b => (match b with | .bl b => i == (if b then 1 else 0) | .int j => i == j | _ => false)
  | .str x, b => (match b with | .str y => x == y | _ => false)
  | .tup xs, b => (match b with | .tup ys => eqPs xs ys | _ => false)
  | .lst xs, b => (match b with | .lst ys => eqPs xs ys | _ => false)
  | .ptr _, _ => false
  | .rl _, _ => false
  | .exn, _ => false
  | .clo _ _, _ => false
def eqPs : List D → List D → Bool
  | [], l => l.isEmpty
  | x :: xs, l => (match l with | y :: ys => eqP x y && eqPs xs ys | [] => false)
end
theorem mkstr_beq (a b : List Nat) : ((⟨a.toArray⟩ : Str) == ⟨b.toArray⟩) = (a == b) := by
  by_cases h : a = b
  · subst h; simp
  · have h1 : (a == b) = false := by simpa using h
    have h2 : ((⟨a.toArray⟩ : Str) == ⟨b.toArray⟩) = false := by
      simp only [beq_eq_false_iff_ne, ne_eq, Str.mk.injEq]
      intro hh
      exact h (by simpa using congrArg Array.toList hh)
    rw [h1, h2]
mutual
theorem eqv_toPy : ∀ (a b : D) (p q : PyData), toPy a = some p → toPy b = some q → PyData.eqv p q = eqP a b
  | .non, b, p, q, h1, h2 => by
    simp only [toPy, Option.some.injEq] at h1; subst h1
    cases b with
    | tup ys =>
      simp only [toPy, Option.map_eq_some_iff] at h2
      obtain ⟨qs, _, rfl⟩ := h2
      simp only [PyData.eqv, eqP]
    | lst ys =>
      simp only [toPy, Option.map_eq_some_iff] at h2
      obtain ⟨qs, _, rfl⟩ := h2
      simp only [PyData.eqv, eqP]
    | str y => simp only [toPy, Option.some.injEq] at h2; subst h2; simp only [PyData.eqv, eqP]
    | non => simp only [toPy, Option.some.injEq] at h2; subst h2; simp only [PyData.eqv, eqP]
    | bl y => simp only [toPy, Option.some.injEq] at h2; subst h2; simp only [PyData.eqv, eqP]
    | int y => simp only [toPy, Option.some.injEq] at h2; subst h2; simp only [PyData.eqv, eqP]
    | _ => simp [toPy] at h2
  | .bl x, b, p, q, h1, h2 => by
    simp only [toPy, Option.some.injEq] at h1; subst h1
    cases b with
    | tup ys =>
      simp only [toPy, Option.map_eq_some_iff] at h2
      obtain ⟨qs, _, rfl⟩ := h2
      simp only [PyData.eqv, eqP]
    | lst ys =>
      simp only [toPy, Option.map_eq_some_iff] at h2
      obtain ⟨qs, _, rfl⟩ := h2
      simp only [PyData.eqv, eqP]
    | str y => simp only [toPy, Option.some.injEq] at h2; subst h2; simp only [PyData.eqv, eqP]
    | non => simp only [toPy, Option.some.injEq] at h2; subst h2; simp only [PyData.eqv, eqP]
    | bl y => simp only [toPy, Option.some.injEq] at h2; subst h2; simp only [PyData.eqv, eqP]
    | int y => simp only [toPy, Option.some.injEq] at h2; subst h2; simp only [PyData.eqv, eqP]
    | _ => simp [toPy] at h2
  | .int x, b, p, q, h1, h2 => by
    simp only [toPy, Option.some.injEq] at h1; subst h1
    cases b with
    | tup ys =>
      simp only [toPy, Option.map_eq_some_iff] at h2
      obtain ⟨qs, _, rfl⟩ := h2
      simp only [PyData.eqv, eqP]
    | lst ys =>
      simp only [toPy, Option.map_eq_some_iff] at h2
      obtain ⟨qs, _, rfl⟩ := h2
      simp only [PyData.eqv, eqP]
    | str y => simp only [toPy, Option.some.injEq] at h2; subst h2; simp only [PyData.eqv, eqP]
    | non => simp only [toPy, Option.some.injEq] at h2; subst h2; simp only [PyData.eqv, eqP]
    | bl y => simp only [toPy, Option.some.injEq] at h2; subst h2; simp only [PyData.eqv, eqP]
    | int y => simp only [toPy, Option.some.injEq] at h2; subst h2; simp only [PyData.eqv, eqP]
    | _ => simp [toPy] at h2
  | .str x, b, p, q, h1, h2 => by
    simp only [toPy, Option.some.injEq] at h1; subst h1
    cases b with
    | tup ys =>
      simp only [toPy, Option.map_eq_some_iff] at h2
      obtain ⟨qs, _, rfl⟩ := h2
      simp only [PyData.eqv, eqP]
    | lst ys =>
      simp only [toPy, Option.map_eq_some_iff] at h2
      obtain ⟨qs, _, rfl⟩ := h2
      simp only [PyData.eqv, eqP]
    | str y => simp only [toPy, Option.some.injEq] at h2; subst h2; simp only [PyData.eqv, eqP]; exact mkstr_beq _ _
    | non => simp only [toPy, Option.some.injEq] at h2; subst h2; simp only [PyData.eqv, eqP]
    | bl y => simp only [toPy, Option.some.injEq] at h2; subst h2; simp only [PyData.eqv, eqP]
    | int y => simp only [toPy, Option.some.injEq] at h2; subst h2; simp only [PyData.eqv, eqP]
    | _ => simp [toPy] at h2
  | .tup xs, b, p, q, h1, h2 => by
    simp only [toPy, Option.map_eq_some_iff] at h1
    obtain ⟨ps, h1, rfl⟩ := h1
    cases b with
    | tup ys =>
      simp only [toPy, Option.map_eq_some_iff] at h2
      obtain ⟨qs, h2, rfl⟩ := h2
      simp only [PyData.eqv, eqP]
      exact eqv_toPys xs ys ps qs h1 h2
    | lst ys =>
      simp only [toPy, Option.map_eq_some_iff] at h2
      obtain ⟨qs, h2, rfl⟩ := h2
      simp only [PyData.eqv, eqP]
    | str y => simp only [toPy, Option.some.injEq] at h2; subst h2; simp only [PyData.eqv, eqP]
    | non => simp only [toPy, Option.some.injEq] at h2; subst h2; simp only [PyData.eqv, eqP]
    | bl y => simp only [toPy, Option.some.injEq] at h2; subst h2; simp only [PyData.eqv, eqP]
    | int y => simp only [toPy, Option.some.injEq] at h2; subst h2; simp only [PyData.eqv, eqP]
    | _ => simp [toPy] at h2
  | .lst xs, b, p, q, h1, h2 => by
    simp only [toPy, Option.map_eq_some_iff] at h1
    obtain ⟨ps, h1, rfl⟩ := h1
    cases b with
    | lst ys =>
      simp only [toPy, Option.map_eq_some_iff] at h2
      obtain ⟨qs, h2, rfl⟩ := h2
      simp only [PyData.eqv, eqP]
      exact eqv_toPys xs ys ps qs h1 h2
    | tup ys =>
      simp only [toPy, Option.map_eq_some_iff] at h2
      obtain ⟨qs, h2, rfl⟩ := h2
      simp only [PyData.eqv, eqP]
    | str y => simp only [toPy, Option.some.injEq] at h2; subst h2; simp only [PyData.eqv, eqP]
    | non => simp only [toPy, Option.some.injEq] at h2; subst h2; simp only [PyData.eqv, eqP]
    | bl y => simp only [toPy, Option.some.injEq] at h2; subst h2; simp only [PyData.eqv, eqP]
    | int y => simp only [toPy, Option.some.injEq] at h2; subst h2; simp only [PyData.eqv, eqP]
    | _ => simp [toPy] at h2
  | .ptr _, b, p, q, h1, h2 => by simp [toPy] at h1
  | .rl _, b, p, q, h1, h2 => by simp [toPy] at h1
  | .exn, b, p, q, h1, h2 => by simp [toPy] at h1
  | .clo _ _, b, p, q, h1, h2 => by simp [toPy] at h1
theorem eqv_toPys : ∀ (as bs : List D) (ps qs : List PyData), toPys as = some ps → toPys bs = some qs → PyData.eqvAll ps qs = eqPs as bs
  | [], bs, ps, qs, h1, h2 => by
    simp only [toPys, Option.some.injEq] at h1; subst h1
    cases bs with
    | nil => simp only [toPys, Option.some.injEq] at h2; subst h2; rfl
    | cons b bs =>
      simp only [toPys, Option.bind_eq_some_iff, Option.map_eq_some_iff] at h2
      obtain ⟨q, h3, qs', h4, rfl⟩ := h2
      rfl
  | a :: as, bs, ps, qs, h1, h2 => by
    simp only [toPys, Option.bind_eq_some_iff, Option.map_eq_some_iff] at h1
    obtain ⟨p, h3, ps', h4, rfl⟩ := h1
    cases bs with
    | nil => simp only [toPys, Option.some.injEq] at h2; subst h2; rfl
    | cons b bs =>
      simp only [toPys, Option.bind_eq_some_iff, Option.map_eq_some_iff] at h2
      obtain ⟨q, h5, qs', h6, rfl⟩ := h2
      simp only [PyData.eqvAll, eqPs]
      rw [eqv_toPy a b p q h3 h5, eqv_toPys as bs ps' qs' h4 h6]
end
mutual
theorem toPy_ok : ∀ d : D, pd d = true → ∃ p, toPy d = some p ∧ p.canLay0 = true ∧ p.depth ≤ dd d
  | .non, h => ⟨_, rfl, rfl, by simp [PyData.depth, dd]⟩
  | .bl _, h => ⟨_, rfl, rfl, by simp [PyData.depth, dd]⟩
  | .int _, h => ⟨_, rfl, rfl, by simp [PyData.depth, dd]⟩
  | .str s, h => by
    refine ⟨_, rfl, ?_, by simp [PyData.depth, dd]⟩
    simp only [PyData.canLay0, PyData.strOk]
    simp only [pd] at h
    simpa using h
  | .tup xs, h => by
    simp only [pd] at h
    obtain ⟨ps, h1, h2, h3⟩ := toPys_ok xs h
    refine ⟨.tuple ps, by simp only [toPy, h1, Option.map_some], by simp only [PyData.canLay0]; exact h2, ?_⟩
    simp only [PyData.depth, dd]; omega
  | .lst xs, h => by
    simp only [pd] at h
    obtain ⟨ps, h1, h2, h3⟩ := toPys_ok xs h
    refine ⟨.list ps, by simp only [toPy, h1, Option.map_some], by simp only [PyData.canLay0]; exact h2, ?_⟩
    simp only [PyData.depth, dd]; omega
  | .ptr _, h => by simp [pd] at h
  | .rl _, h => by simp [pd] at h
  | .exn, h => by simp [pd] at h
  | .clo _ _, h => by simp [pd] at h
theorem toPys_ok : ∀ ds : List D, pds ds = true → ∃ ps, toPys ds = some ps ∧ PyData.canLayAll0 ps = true ∧ PyData.depthAll ps ≤ dds ds
  | [], h => ⟨[], rfl, rfl, by simp [PyData.depthAll]⟩
  | d :: ds, h => by
    simp only [pds, Bool.and_eq_true] at h
    obtain ⟨p, h1, h2, h3⟩ := toPy_ok d h.1
    obtain ⟨ps, h4, h5, h6⟩ := toPys_ok ds h.2
    refine ⟨p :: ps, by simp only [toPys, h1, h4, Option.bind_some, Option.map_some], by simp only [PyData.canLayAll0, h2, h5, Bool.and_self], ?_⟩
    simp only [PyData.depthAll, dds]; omega
end
/-- the values of a list of the store in the place of its pointer -/
def nf (μ : Store) : D → D
  | .ptr p => match μ[p]? with | some (.lst xs) => .lst xs | _ => .ptr p
  | d => d
theorem toPyS_nf (μ : Store) (d : D) : pd (nf μ d) = true → toPyS μ d = toPy (nf μ d) := by
  intro h
  cases d with
  | ptr p =>
    simp only [nf] at h ⊢
    cases hq : μ[p]? with
    | none => rw [hq] at h; simp [pd] at h
    | some o =>
      rw [hq] at h
      cases o with
      | lst xs => simp only [toPyS, hq, toPy]
      | dic _ => simp [pd] at h
      | ins _ => simp [pd] at h
  | _ => rfl
theorem eqD_of {μ : Store} {a b : D} (ha : pd (nf μ a) = true) (hb : pd (nf μ b) = true) (h1 : dd (nf μ a) ≤ 64) (h2 : dd (nf μ b) ≤ 64) : eqD μ a b = some (eqP (nf μ a) (nf μ b)) := by
  obtain ⟨p, p1, p2, p3⟩ := toPy_ok _ ha
  obtain ⟨q, q1, q2, q3⟩ := toPy_ok _ hb
  unfold eqD
  rw [toPyS_nf μ a ha, toPyS_nf μ b hb, p1, q1]
  have s1 : PySem.SeqAt.shaped p = true := by unfold PySem.SeqAt.shaped; rw [p2, decide_eq_true (by omega)]; rfl
  have s2 : PySem.SeqAt.shaped q = true := by unfold PySem.SeqAt.shaped; rw [q2, decide_eq_true (by omega)]; rfl
  simp only [Option.bind_some, s1, s2, Bool.and_self, if_true]
  rw [eqv_toPy _ _ p q p1 q1]
mutual
theorem eqP_refl : ∀ d : D, pd d = true → eqP d d = true
  | .non, h => rfl
  | .bl _, h => by simp [eqP]
  | .int _, h => by simp [eqP]
  | .str _, h => by simp [eqP]
  | .tup xs, h => by simp only [pd] at h; simp only [eqP]; exact eqPs_refl xs h
  | .lst xs, h => by simp only [pd] at h; simp only [eqP]; exact eqPs_refl xs h
  | .ptr _, h => by simp [pd] at h
  | .rl _, h => by simp [pd] at h
  | .exn, h => by simp [pd] at h
  | .clo _ _, h => by simp [pd] at h
theorem eqPs_refl : ∀ ds : List D, pds ds = true → eqPs ds ds = true
  | [], h => rfl
  | d :: ds, h => by
    simp only [pds, Bool.and_eq_true] at h
    simp only [eqPs, eqP_refl d h.1, eqPs_refl ds h.2, Bool.and_self]
end
mutual
/-- no truth values within -/
def nb : D → Bool
  | .bl _ => false
  | .tup xs => nbs xs
  | .lst xs => nbs xs
  | _ => true
def nbs : List D → Bool
  | [] => true
  | d :: ds => nb d && nbs ds
end
mutual
theorem eqP_eq : ∀ a b : D, nb a = true → nb b = true → eqP a b = true → a = b
  | .non, b, _, _, h => by cases b <;> simp [eqP] at h; rfl
  | .bl _, b, h, _, _ => by simp [nb] at h
  | .int i, b, _, hb, h => by
    cases b <;> simp [eqP] at h
    · simp [nb] at hb
    · rw [h]
  | .str i, b, _, hb, h => by
    cases b <;> simp [eqP] at h
    rw [h]
  | .tup xs, b, h1, h2, h => by
    cases b with
    | tup ys =>
      simp only [nb] at h1 h2
      simp only [eqP] at h
      rw [eqPs_eq xs ys h1 h2 h]
    | _ => simp [eqP] at h
  | .lst xs, b, h1, h2, h => by
    cases b with
    | lst ys =>
      simp only [nb] at h1 h2
      simp only [eqP] at h
      rw [eqPs_eq xs ys h1 h2 h]
    | _ => simp [eqP] at h
  | .ptr _, b, _, _, h => by simp [eqP] at h
  | .rl _, b, _, _, h => by simp [eqP] at h
  | .exn, b, _, _, h => by simp [eqP] at h
  | .clo _ _, b, _, _, h => by simp [eqP] at h
theorem eqPs_eq : ∀ as bs : List D, nbs as = true → nbs bs = true → eqPs as bs = true → as = bs
  | [], bs, _, _, h => by simp only [eqPs, List.isEmpty_iff] at h; exact h.symm
  | a :: as, bs, h1, h2, h => by
    cases bs with
    | nil => simp [eqPs] at h
    | cons b bs =>
      simp only [nbs, Bool.and_eq_true] at h1 h2
      simp only [eqPs, Bool.and_eq_true] at h
      rw [eqP_eq a b h1.1 h2.1 h.1, eqPs_eq as bs h1.2 h2.2 h.2]
end
/-! The laws' own look that two are alike; comprehensions. -/
theorem lcV_none {f : D → Store → Res (Option D)} {μ : Store} : ∀ {ds acc : List D}, (∀ d ∈ ds, f d μ = .ok none μ) → lcV f ds acc μ = .ok acc μ
  | [], acc, h => rfl
  | d :: ds, acc, h => by
    unfold lcV
    rw [h d List.mem_cons_self]
    exact lcV_none fun x hx => h x (List.mem_cons_of_mem _ hx)
theorem lcV_map {f : D → Store → Res (Option D)} {μ : Store} {g : D → D} : ∀ {ds acc : List D}, (∀ d ∈ ds, f d μ = .ok (some (g d)) μ) → acc.length + ds.length ≤ lineMax → lcV f ds acc μ = .ok (acc ++ ds.map g) μ
  | [], acc, h, hl => by simp [lcV]
  | d :: ds, acc, h, hl => by
    unfold lcV
    rw [h d List.mem_cons_self]
    simp only [List.length_cons] at hl
    simp only
    rw [if_pos (by omega), lcV_map (fun x hx => h x (List.mem_cons_of_mem _ hx)) (by simp; omega)]
    simp
theorem lcV_filter {f : D → Store → Res (Option D)} {μ : Store} {g : D → D} {t : D → Bool} : ∀ {ds acc : List D}, (∀ d ∈ ds, f d μ = .ok (if t d then some (g d) else none) μ) → acc.length + ds.length ≤ lineMax → lcV f ds acc μ = .ok (acc ++ (ds.filter t).map g) μ
  | [], acc, h, hl => by simp [lcV]
  | d :: ds, acc, h, hl => by
    unfold lcV
    rw [h d List.mem_cons_self]
    simp only [List.length_cons] at hl
    cases ht : t d with
    | true =>
      simp only [if_true]
      rw [if_pos (by omega), lcV_filter (fun x hx => h x (List.mem_cons_of_mem _ hx)) (by simp; omega)]
      simp [ht]
    | false =>
      simp only [Bool.false_eq_true, if_false]
      rw [lcV_filter (fun x hx => h x (List.mem_cons_of_mem _ hx)) (by omega)]
      simp [ht]
theorem mem_range {d : D} : ∀ {n : Nat} {lo : Int}, d ∈ rangeFrom lo 1 n → ∃ j : Nat, j < n ∧ d = .int (lo + j)
  | 0, lo, h => by simp [rangeFrom] at h
  | n + 1, lo, h => by
    simp only [rangeFrom, List.mem_cons] at h
    rcases h with rfl | h
    · exact ⟨0, by omega, by simp⟩
    · obtain ⟨j, hj, rfl⟩ := mem_range h
      exact ⟨j + 1, by omega, by congr 1; omega⟩
theorem big_nat {n : Nat} (h : n < 2 ^ 40) : big (n : Int) = true := by
  exact Nat.ble_eq_true_of_le (by omega)
theorem eqD_nil (μ : Store) : eqD μ (.lst []) (.lst []) = some true := by
  rw [eqD_of (μ := μ) (a := .lst []) (b := .lst []) rfl rfl (by simp [nf, dd, dds]) (by simp [nf, dd, dds])]
  rfl
theorem eqD_bl (μ : Store) (a b : Bool) : eqD μ (.bl a) (.bl b) = some (a == b) := by
  rw [eqD_of (μ := μ) (a := .bl a) (b := .bl b) rfl rfl (by simp [nf, dd]) (by simp [nf, dd])]
  rfl
theorem eqD_int (μ : Store) (a b : Int) : eqD μ (.int a) (.int b) = some (a == b) := by
  rw [eqD_of (μ := μ) (a := .int a) (b := .int b) rfl rfl (by simp [nf, dd]) (by simp [nf, dd])]
  rfl
theorem eqD_str (μ : Store) (a b : List Nat) (ha : a.all (· < 0x110000) = true) (hb : b.all (· < 0x110000) = true) : eqD μ (.str a) (.str b) = some (a == b) := by
  rw [eqD_of (μ := μ) (a := .str a) (b := .str b) (by simpa [nf, pd] using ha) (by simpa [nf, pd] using hb) (by simp [nf, dd]) (by simp [nf, dd])]
  rfl
section
variable {μ : Store} {fu k : Nat} {xs : List D}
/-- the turns of the look at each place -/
theorem alike_turns {a b : D} (ha : itemsOf μ a = some xs) (hb : itemsOf μ b = some xs) (hia : ∀ j : Nat, idxD μ a (.int j) = xs[j]?) (hib : ∀ j : Nat, idxD μ b (.int j) = xs[j]?) (h : ∀ x ∈ xs, callK Gam fu k .law_alike [x, x] μ = .ok (.bl true) μ) :
    lcV (turn1F (callK Gam fu k) none 2 (.not (.call .law_alike (.cons (.idx (.var 0) (.var 2)) (.cons (.idx (.var 1) (.var 2)) .nil)))) (.var 2) [some a, some b, none]) (rangeFrom 0 1 xs.length) [] μ = .ok [] μ := by
  refine lcV_none fun d hd => ?_
  obtain ⟨j, hj, rfl⟩ := mem_range hd
  have e1 : xs[j]? = some xs[j] := List.getElem?_eq_getElem hj
  have h1 := hia j
  have h2 := hib j
  rw [e1] at h1 h2
  have h3 := h xs[j] (List.getElem_mem hj)
  simp only [turn1F, v_not, v_call, v_cons, v_nil, v_idx, v_var, fIdx1, fIdx2, fCons1, fCons2, fCall, fNot, List.set_cons_succ, List.set_cons_zero, List.getElem?_cons_zero, List.getElem?_cons_succ, Option.bind_some, id_eq, Res.of_some, Res.bind_ok, Int.zero_add, h1, h2, h3, Bool.not_true, fTst_f]
theorem alike_tup (hl : xs.length < 2 ^ 40) (h : ∀ x ∈ xs, callK Gam fu k .law_alike [x, x] μ = .ok (.bl true) μ) : callK Gam fu (k + 1) .law_alike [.tup xs, .tup xs] μ = .ok (.bl true) μ := by
  rw [c_law_alike]
  unfold B_law_alike
  have ht := alike_turns (a := .tup xs) (b := .tup xs) (μ := μ) (fu := fu) (k := k) rfl rfl (fun j => by simp only [idxD, atI_nat]) (fun j => by simp only [idxD, atI_nat]) h
  have hb := big_nat hl
  have hn := eqD_nil μ
  have hbb := eqD_bl μ true true
  have hii := eqD_int μ (xs.length : Int) xs.length
  simp only [beq_self_eq_true] at hbb hii
  simp only [s_cons, s_ifs, v_or, v_isi, v_var, fIsi, isiD, tyD, List.getElem?_cons_zero, List.getElem?_cons_succ, Option.bind_some, id_eq, Res.of_some, Res.bind_ok, Res.out_ok, Option.map_some, List.any_cons, List.any_nil, tyIs, Bool.or_false, fBl, decide_true, fOr_t, gIfs_t, v_cmp, fCmp1, fCmp2, cmpD, hbb, Bool.not_true, fOr_f, v_not, fNot, gIfs_f, Bool.true_or, s_nil, Out.seq_nx, gSeq, v_blt, v_cons, v_nil, fCons1, fCons2, fBlt, bltD, lenD, itemsOf, hii, s_ret, v_comp1, v_rng, fRng, rngD, hb, if_true, Int.toNat_natCast, fVals, comp_vals, ht, fToL, v_lst, fLst, hn, gRet, Out.seq_rt, Out.res_rt]
theorem alike_list {a b : D} (ha : listOf μ a = some xs) (hb : listOf μ b = some xs) (hl : xs.length < 2 ^ 40) (h : ∀ x ∈ xs, callK Gam fu k .law_alike [x, x] μ = .ok (.bl true) μ) : callK Gam fu (k + 1) .law_alike [a, b] μ = .ok (.bl true) μ := by
  have key : ∀ {c : D}, listOf μ c = some xs → itemsOf μ c = some xs ∧ (∀ j : Nat, idxD μ c (.int j) = xs[j]?) ∧ tyD μ c = some .list ∧ (∀ ts, isiD μ c ts = some (ts.any (tyIs .list))) ∧ lenD μ [c] = some (.int xs.length) := by
    intro c hc
    cases c with
    | lst ys =>
      simp only [listOf, Option.some.injEq] at hc
      subst hc
      exact ⟨rfl, fun j => by simp only [idxD, atI_nat], rfl, fun ts => rfl, rfl⟩
    | ptr p =>
      simp only [listOf] at hc
      cases hp : μ[p]? with
      | none => rw [hp] at hc; cases hc
      | some o =>
        rw [hp] at hc
        cases o with
        | lst ys =>
          simp only [Option.some.injEq] at hc
          subst hc
          exact ⟨by simp only [itemsOf, hp], fun j => by simp only [idxD, hp, atI_nat], by simp only [tyD, hp], fun ts => by simp only [isiD, tyD, hp, Option.map_some], by simp only [lenD, itemsOf, hp, Option.map_some]⟩
        | dic _ => cases hc
        | ins _ => cases hc
    | _ => simp [listOf] at hc
  obtain ⟨a1, a2, a3, a4, a5⟩ := key ha
  obtain ⟨b1, b2, b3, b4, b5⟩ := key hb
  rw [c_law_alike]
  unfold B_law_alike
  have ht := alike_turns (a := a) (b := b) (μ := μ) (fu := fu) (k := k) a1 b1 a2 b2 h
  have hbg := big_nat hl
  have hn := eqD_nil μ
  have hbb := eqD_bl μ false false
  have hii := eqD_int μ (xs.length : Int) xs.length
  simp only [beq_self_eq_true] at hbb hii
  have e1 : ([Ty.tuple].any (tyIs .list)) = false := by decide
  have e2 : ([Ty.list].any (tyIs .list)) = true := by decide
  have e3 : ([Ty.tuple, Ty.list].any (tyIs .list)) = true := by decide
  simp only [s_cons, s_ifs, v_or, v_isi, v_var, fIsi, a4, b4, e1, e2, e3, List.getElem?_cons_zero, List.getElem?_cons_succ, Option.bind_some, id_eq, Res.of_some, Res.bind_ok, Res.out_ok, fBl, fOr_t, gIfs_t, v_cmp, fCmp1, fCmp2, cmpD, hbb, Option.map_some, Bool.not_true, fOr_f, v_not, fNot, gIfs_f, s_nil, Out.seq_nx, gSeq, v_blt, v_cons, v_nil, fCons1, fCons2, fBlt, bltD, a5, b5, hii, s_ret, v_comp1, v_rng, fRng, rngD, hbg, if_true, Int.toNat_natCast, fVals, comp_vals, ht, fToL, v_lst, fLst, hn, gRet, Out.seq_rt, Out.res_rt]
theorem alike_int (i : Int) : callK Gam fu (k + 1) .law_alike [.int i, .int i] μ = .ok (.bl true) μ := by
  rw [c_law_alike]
  unfold B_law_alike
  have h1 := eqD_int μ i i
  simp only [beq_self_eq_true] at h1
  walk_at "fh"
  simp only [h1]
  walk_at "fh"
theorem alike_non : callK Gam fu (k + 1) .law_alike [.non, .non] μ = .ok (.bl true) μ := by
  rw [c_law_alike]
  unfold B_law_alike
  walk_at "fh"
theorem alike_bl (b : Bool) : callK Gam fu (k + 1) .law_alike [.bl b, .bl b] μ = .ok (.bl true) μ := by
  rw [c_law_alike]
  unfold B_law_alike
  have h1 := eqD_bl μ b b
  simp only [beq_self_eq_true] at h1
  walk_at "fh"
  simp only [h1]
  walk_at "fh"
theorem alike_str {s : List Nat} (hs : s.all (· < 0x110000) = true) : callK Gam fu (k + 1) .law_alike [.str s, .str s] μ = .ok (.bl true) μ := by
  rw [c_law_alike]
  unfold B_law_alike
  have h1 := eqD_str μ s s hs hs
  simp only [beq_self_eq_true] at h1
  walk_at "fh"
  simp only [h1]
  walk_at "fh"
end
/-! Loops by invariants; rows and scenes as plain data. -/
theorem forLoop_inv {src : Src} {f : D → Env → Store → Out} {xs : List D} (inv : Nat → Env → Store → Prop) (hg : ∀ i σ μ, inv i σ μ → ∀ (h : i < xs.length), src.get i μ = some xs[i]) (hl : ∀ σ μ, inv xs.length σ μ → src.len μ = some xs.length)
    (step : ∀ i σ μ (h : i < xs.length), inv i σ μ → ∃ σ' μ', f xs[i] σ μ = .nx σ' μ' ∧ inv (i + 1) σ' μ') : ∀ (n i : Nat) (σ : Env) (μ : Store), n + i = xs.length → inv i σ μ → ∃ σ' μ', forLoop src f n i σ μ = .nx σ' μ' ∧ inv xs.length σ' μ'
  | 0, i, σ, μ, h, hi => by
    have e : i = xs.length := by omega
    subst e
    unfold forLoop
    rw [hl σ μ hi, if_pos rfl]
    exact ⟨σ, μ, rfl, hi⟩
  | n + 1, i, σ, μ, h, hi => by
    have hlt : i < xs.length := by omega
    unfold forLoop
    rw [hg i σ μ hi hlt]
    obtain ⟨σ1, μ1, e1, h1⟩ := step i σ μ hlt hi
    simp only [e1, Out.seq_nx]
    exact forLoop_inv inv hg hl step n (i + 1) σ1 μ1 (by omega) h1
/-- a for over values -/
theorem for_vals_inv {f : D → Env → Store → Out} {xs : List D} {σ : Env} {μ : Store} (inv : Nat → Env → Store → Prop) (step : ∀ i σ μ (h : i < xs.length), inv i σ μ → ∃ σ' μ', f xs[i] σ μ = .nx σ' μ' ∧ inv (i + 1) σ' μ') (h0 : inv 0 σ μ) :
    ∃ σ' μ', gFor f σ (.vals xs) μ = .nx σ' μ' ∧ inv xs.length σ' μ' := by
  unfold gFor forRun
  simp only [Src.len]
  exact forLoop_inv (src := .vals xs) inv (fun i σ μ _ h => by simp only [Src.get, List.getElem?_eq_getElem h]) (fun _ _ _ => rfl) step _ 0 σ μ (by omega) h0
/-- a for over a list, made or of the store -/
theorem for_list_inv {f : D → Env → Store → Out} {xs : List D} {σ : Env} {μ : Store} {d : D} (hd : listOf μ d = some xs) (inv : Nat → Env → Store → Prop) (hk : ∀ i σ μ, inv i σ μ → listOf μ d = some xs) (step : ∀ i σ μ (h : i < xs.length), inv i σ μ → ∃ σ' μ', f xs[i] σ μ = .nx σ' μ' ∧ inv (i + 1) σ' μ') (h0 : inv 0 σ μ) :
    ∃ σ' μ', ((Res.of (srcD μ d) μ).out σ (gFor f σ)) = .nx σ' μ' ∧ inv xs.length σ' μ' := by
  cases d with
  | lst ys =>
    simp only [listOf, Option.some.injEq] at hd
    subst hd
    simp only [srcD, Res.of_some, Res.out_ok]
    exact for_vals_inv inv step h0
  | ptr p =>
    have get : ∀ {μ : Store}, listOf μ (.ptr p) = some xs → μ[p]? = some (.lst xs) := by
      intro μ h
      simp only [listOf] at h
      cases hp : μ[p]? with
      | none => rw [hp] at h; cases h
      | some o =>
        rw [hp] at h
        cases o with
        | lst ys => simp only [Option.some.injEq] at h; rw [h]
        | dic _ => cases h
        | ins _ => cases h
    have hp := get hd
    simp only [srcD, hp, Res.of_some, Res.out_ok]
    unfold gFor forRun
    simp only [Src.len, hp]
    exact forLoop_inv (src := .at_ p) inv (fun i σ μ hi h => by simp only [Src.get, get (hk i σ μ hi), List.getElem?_eq_getElem h]) (fun σ μ hi => by simp only [Src.len, get (hk _ σ μ hi)]) step _ 0 σ μ (by omega) h0
  | _ => simp [listOf] at hd
/-- a comprehension whose turns leave the store, over a list -/
theorem comp_list {f : D → Store → Res (Option D)} {xs : List D} {μ : Store} {d : D} (hd : listOf μ d = some xs) (hp : ∀ x ∈ xs, ∃ o, f x μ = .ok o μ) : ((Res.of (srcD μ d) μ).bind (fComp f)) = (lcV f xs [] μ).bind fToL := by
  cases d with
  | lst ys =>
    simp only [listOf, Option.some.injEq] at hd
    subst hd
    simp only [srcD, Res.of_some, Res.bind_ok, comp_vals]
  | ptr p =>
    simp only [listOf] at hd
    cases hq : μ[p]? with
    | none => rw [hq] at hd; cases hd
    | some o =>
      rw [hq] at hd
      cases o with
      | lst ys =>
        simp only [Option.some.injEq] at hd
        subst hd
        simp only [srcD, hq, Res.of_some, Res.bind_ok]
        have key : ∀ (n i : Nat) (acc : List D), n + i = ys.length → lcLoop (.at_ p) f n i acc μ = lcV f (ys.drop i) acc μ := by
          intro n
          induction n with
          | zero =>
            intro i acc h
            have e : i = ys.length := by omega
            subst e
            unfold lcLoop
            simp [Src.len, hq, lcV]
          | succ n ih =>
            intro i acc h
            have hi : i < ys.length := by omega
            unfold lcLoop
            rw [List.drop_eq_getElem_cons hi]
            unfold lcV
            simp only [Src.get, hq, List.getElem?_eq_getElem hi]
            obtain ⟨o, ho⟩ := hp ys[i] (List.getElem_mem hi)
            rw [ho]
            cases o with
            | some y =>
              simp only
              split
              · exact ih (i + 1) _ (by omega)
              · rfl
            | none => exact ih (i + 1) _ (by omega)
        unfold fComp lcRun
        simp only [Src.len, hq]
        rw [key ys.length 0 [] (by omega), List.drop_zero]
        rfl
      | dic _ => cases hd
      | ins _ => cases hd
  | _ => simp [listOf] at hd
abbrev Rows := List (List Nat)
def rowsD (r : Rows) : D := .tup (r.map .str)
theorem listOf_app {μ ν : Store} {d : D} {xs : List D} (h : listOf μ d = some xs) : listOf (μ ++ ν) d = some xs := by
  cases d with
  | lst ys => exact h
  | ptr p =>
    simp only [listOf] at h ⊢
    cases hp : μ[p]? with
    | none => rw [hp] at h; cases h
    | some o =>
      rw [List.getElem?_append_left (List.getElem?_eq_some_iff.mp hp).1]
      exact h
  | _ => simp [listOf] at h
theorem listOf_set {μ : Store} {d : D} {xs : List D} {p : Nat} {o : O} (h : listOf μ d = some xs) (hne : d ≠ .ptr p) : listOf (μ.set p o) d = some xs := by
  cases d with
  | lst ys => exact h
  | ptr q =>
    simp only [listOf] at h ⊢
    rw [List.getElem?_set_ne (fun e => hne (by rw [e]))]
    exact h
  | _ => simp [listOf] at h
theorem range_len : ∀ (n : Nat) (lo st : Int), (rangeFrom lo st n).length = n
  | 0, _, _ => rfl
  | n + 1, lo, st => by show (rangeFrom (lo + st) st n).length + 1 = _; rw [range_len]
theorem range_getq : ∀ (n i : Nat) (lo st : Int), i < n → (rangeFrom lo st n)[i]? = some (.int (lo + i * st))
  | 0, i, lo, st, h => absurd h (Nat.not_lt_zero _)
  | n + 1, 0, lo, st, h => by simp [rangeFrom]
  | n + 1, i + 1, lo, st, h => by
    show (rangeFrom (lo + st) st n)[i]? = _
    rw [range_getq n i (lo + st) st (by omega)]
    congr 2
    rw [Int.natCast_succ, Int.add_mul]
    omega
theorem range_get (n i : Nat) (lo st : Int) (h : i < (rangeFrom lo st n).length) : (rangeFrom lo st n)[i] = .int (lo + i * st) := by
  have h2 := range_getq n i lo st (by rw [range_len] at h; exact h)
  exact Option.some.inj ((List.getElem?_eq_getElem h).symm.trans h2)
/-! ### all rows of a size -/
/-- each list with each of three signs behind -/
def grow3 (ls : List (List Nat)) : List (List Nat) := ls.flatMap fun l => [l ++ [35], l ++ [46], l ++ [111]]
def linesL : Nat → List (List Nat)
  | 0 => [[]]
  | n + 1 => grow3 (linesL n)
def rowsL (ls : List (List Nat)) : Nat → List Rows
  | 0 => [[]]
  | n + 1 => (rowsL ls n).flatMap fun r => ls.map fun l => r ++ [l]
theorem linesL_len : ∀ n, ∀ l ∈ linesL n, l.length = n
  | 0, l, h => by simp [linesL] at h; simp [h]
  | n + 1, l, h => by
    simp only [linesL, grow3, List.mem_flatMap, List.mem_cons, List.not_mem_nil, or_false] at h
    obtain ⟨x, hx, h⟩ := h
    have := linesL_len n x hx
    rcases h with rfl | rfl | rfl <;> simp [this]
theorem linesL_count : ∀ n, (linesL n).length = 3 ^ n
  | 0 => rfl
  | n + 1 => by
    have : ∀ ls : List (List Nat), (grow3 ls).length = ls.length * 3 := by
      intro ls
      induction ls with
      | nil => rfl
      | cons a l ih => simp only [grow3, List.flatMap_cons, List.length_append, List.length_cons, List.length_nil] at ih ⊢; omega
    rw [linesL, this, linesL_count n, Nat.pow_succ]
theorem sortedSigns : sortedD (.tup [.str [35], .str [111], .str [46]]) = some (.lst [.str [35], .str [46], .str [111]]) := rfl
/-! All fields of a size. -/
section
variable {μ : Store} {fu k : Nat}
theorem need_size_ok {w h m : Int} (h1 : 1 ≤ w) (h2 : 1 ≤ h) (h3 : w * h ≤ m) (h4 : smallI w = true) : callK Gam fu (k + 1) .need_size [.tup [.int w, .int h], .int m] μ = .ok .non μ := by
  rw [c_need_size]
  unfold B_need_size
  have e1 : ¬ (if h < w then h else w) < 1 := by split <;> omega
  have e2 : ¬ m < w * h := by omega
  walk_at "fhs"
theorem need_size_bad {w h m : Int} (hs : smallI w = true) (hb : w < 1 ∨ h < 1 ∨ m < w * h) : callK Gam fu (k + 1) .need_size [.tup [.int w, .int h], .int m] μ = .exc .BadSize .non μ := by
  rw [c_need_size]
  unfold B_need_size
  by_cases e1 : (if h < w then h else w) < 1
  · walk_at "fhs"
  · have e2 : m < w * h := by
      split at e1 <;> omega
    walk_at "fhs"
end
section
variable {μ : Store} {fu k : Nat}
theorem lineMax_eq : lineMax = 16777216 := rfl
theorem grow3_take {ls : List (List Nat)} {i : Nat} (h : i < ls.length) : grow3 (ls.take (i + 1)) = grow3 (ls.take i) ++ [ls[i] ++ [35], ls[i] ++ [46], ls[i] ++ [111]] := by
  rw [List.take_succ_eq_append_getElem h, grow3, List.flatMap_append]
  simp [grow3]
theorem grow3_len (ls : List (List Nat)) : (grow3 ls).length = ls.length * 3 := by
  induction ls with
  | nil => rfl
  | cons a l ih => simp only [grow3, List.flatMap_cons, List.length_append, List.length_cons, List.length_nil] at ih ⊢; omega
/-- each line with each sign behind -/
theorem grow_line {S d c : D} {p : Nat} {a4 : Option D} {l : List Nat} {acc : List D} {ν : Store} {t : List (Option D)} (hp : ν[p]? = some (.lst acc)) (h1 : acc.length + 3 ≤ lineMax) (h2 : l.length + 1 ≤ lineMax) (ht : t = [none, none, none, none]) :
    gBody (callK Gam fu k) fu none 4 (.cons (.ex (.mth .extend (.var 3) (.cons (.comp0 5 (.seq (.blt .sorted (.cons (.glo .SIGNS) .nil))) (.bin .Add (.var 4) (.var 5))) .nil))) .nil) (.str l) ([some S, some d, some c, some (.ptr p), a4] ++ t) ν
      = .nx ([some S, some d, some c, some (.ptr p), some (.str l)] ++ t) (ν.set p (.lst (acc ++ [.str (l ++ [35]), .str (l ++ [46]), .str (l ++ [111])]))) := by
  subst ht
  have hs := sortedSigns
  have hf : ∀ s : Nat, turn0F (callK Gam fu k) none 5 (.bin .Add (.var 4) (.var 5)) [some S, some d, some c, some (.ptr p), some (.str l), none, none, none, none] (.str [s]) ν = .ok (some (.str (l ++ [s]))) ν := by
    intro s
    have : l.length + [s].length ≤ lineMax := h2
    walk_at "fhs"
  have hl : lcV (turn0F (callK Gam fu k) none 5 (.bin .Add (.var 4) (.var 5)) [some S, some d, some c, some (.ptr p), some (.str l), none, none, none, none]) [.str [35], .str [46], .str [111]] [] ν = .ok [.str (l ++ [35]), .str (l ++ [46]), .str (l ++ [111])] ν := by
    rw [lcV_map (g := fun x => match x with | .str [s] => .str (l ++ [s]) | _ => x)]
    · simp
    · intro x hx
      simp only [List.mem_cons, List.not_mem_nil, or_false] at hx
      rcases hx with rfl | rfl | rfl <;> exact hf _
    · decide
  have hlen : acc.length + ([.str (l ++ [35]), .str (l ++ [46]), .str (l ++ [111])] : List D).length ≤ lineMax := h1
  simp only [List.cons_append, List.nil_append]
  walk_at "fhs"
theorem lines_turn {S d c : D} {a3 a4 : Option D} {ls : List (List Nat)} {ν : Store} (hd : listOf ν d = some (ls.map .str)) (hl : ls.length * 3 ≤ 1000000) (hw : ∀ l ∈ ls, l.length ≤ 1000) :
    ∃ a4', exs (callK Gam fu k) fu (.cons (.asg 3 (.ref (.lst .nil)))
  (.cons (.for_ 4 (.seq (.var 1)) (.cons (.ex (.mth .extend (.var 3) (.cons (.comp0 5 (.seq (.blt .sorted (.cons (.glo .SIGNS) .nil))) (.bin .Add (.var 4) (.var 5))) .nil)))
  .nil))
  (.cons (.asg 1 (.var 3))
  .nil))) none [some S, some d, some c, a3, a4, none, none, none, none] ν = .nx [some S, some (.ptr ν.length), some c, some (.ptr ν.length), a4', none, none, none, none] (ν ++ [.lst ((grow3 ls).map .str)]) := by
  walk_at "fh"
  have hd1 : listOf (ν ++ [.lst []]) d = some (ls.map .str) := listOf_app hd
  have hnp : d ≠ .ptr ν.length := by
    rintro rfl
    simp [listOf] at hd
  obtain ⟨σ', μ', e1, a4', h1, h2⟩ := for_list_inv (f := gBody (callK Gam fu k) fu none 4 (.cons (.ex (.mth .extend (.var 3) (.cons (.comp0 5 (.seq (.blt .sorted (.cons (.glo .SIGNS) .nil))) (.bin .Add (.var 4) (.var 5))) .nil))) .nil))
    (σ := [some S, some d, some c, some (.ptr ν.length), a4, none, none, none, none]) hd1
    (fun i σ' μ' => ∃ a4', σ' = [some S, some d, some c, some (.ptr ν.length), a4', none, none, none, none] ∧ μ' = ν ++ [.lst ((grow3 (ls.take i)).map .str)])
    (fun i σ' μ' ⟨_, _, h⟩ => by rw [h]; exact listOf_app hd)
    (fun i σ' μ' hi ⟨a4', h1, h2⟩ => by
      subst h1; subst h2
      have hi' : i < ls.length := by simpa using hi
      have hp : (ν ++ [.lst ((grow3 (ls.take i)).map .str)])[ν.length]? = some (.lst ((grow3 (ls.take i)).map .str)) := get_app
      have e := grow_line (fu := fu) (k := k) (S := S) (d := d) (c := c) (a4 := a4') (l := ls[i]) (t := [none, none, none, none]) hp (by rw [List.length_map, grow3_len, lineMax_eq, List.length_take]; omega) (by have := hw ls[i] (List.getElem_mem hi'); rw [lineMax_eq]; omega) rfl
      refine ⟨_, _, by rw [List.getElem_map]; exact e, some (.str ls[i]), rfl, ?_⟩
      rw [grow3_take hi']
      simp)
    ⟨a4, rfl, by simp [grow3]⟩
  rw [e1]
  subst h1; subst h2
  walk_at "fh"
  refine ⟨a4', ?_⟩
  simp
end
section
variable {μ : Store} {fu k : Nat}
theorem rows_take {A : Type} {rs : List Rows} {g : Rows → List A} {i : Nat} (h : i < rs.length) : (rs.take (i + 1)).flatMap g = (rs.take i).flatMap g ++ g rs[i] := by
  rw [List.take_succ_eq_append_getElem h, List.flatMap_append]
  simp
theorem flat_len {rs : List Rows} {ls : List (List Nat)} : (rs.flatMap fun r => ls.map fun l => r ++ [l]).length = rs.length * ls.length := by
  induction rs with
  | nil => simp
  | cons a l ih => rw [List.flatMap_cons, List.length_append, ih, List.length_map, List.length_cons, Nat.succ_mul]; omega
/-- rows with each line behind -/
theorem grow_rows {S d f c : D} {a2 a4 : Option D} {p : Nat} {r : Rows} {ls : List (List Nat)} {acc : List D} {ν : Store} {a8 : Option D} (hd : listOf ν d = some (ls.map .str)) (hp : ν[p]? = some (.lst acc)) (h1 : acc.length + ls.length ≤ 1000000) (h2 : r.length ≤ 1000) :
    gBody (callK Gam fu k) fu none 8 (.cons (.ex (.mth .extend (.var 3) (.cons (.comp0 4 (.seq (.var 1)) (.bin .Add (.var 8) (.tup (.cons (.var 4) .nil)))) .nil))) .nil) (rowsD r) [some S, some d, a2, some (.ptr p), a4, none, some f, some c, a8] ν
      = .nx [some S, some d, a2, some (.ptr p), a4, none, some f, some c, some (rowsD r)] (ν.set p (.lst (acc ++ (ls.map fun l => r ++ [l]).map rowsD))) := by
  have hf : ∀ x ∈ ls.map D.str, turn0F (callK Gam fu k) none 4 (.bin .Add (.var 8) (.tup (.cons (.var 4) .nil))) [some S, some d, a2, some (.ptr p), a4, none, some f, some c, some (rowsD r)] x ν = .ok (some (match x with | .str l => rowsD (r ++ [l]) | _ => x)) ν := by
    intro x hx
    obtain ⟨l, hl, rfl⟩ := List.mem_map.mp hx
    have h3 : (r.map D.str).length + 1 ≤ lineMax := by rw [List.length_map, lineMax_eq]; omega
    have h4 : r.length + 1 ≤ lineMax := by rw [lineMax_eq]; omega
    unfold rowsD
    walk_at "fhs"
    simp [h4]
  have hl : lcV (turn0F (callK Gam fu k) none 4 (.bin .Add (.var 8) (.tup (.cons (.var 4) .nil))) [some S, some d, a2, some (.ptr p), a4, none, some f, some c, some (rowsD r)]) (ls.map .str) [] ν = .ok ((ls.map fun l => r ++ [l]).map rowsD) ν := by
    rw [lcV_map hf (by simp [lineMax_eq]; omega)]
    simp [Function.comp_def]
  have hc := comp_list (f := turn0F (callK Gam fu k) none 4 (.bin .Add (.var 8) (.tup (.cons (.var 4) .nil))) [some S, some d, a2, some (.ptr p), a4, none, some f, some c, some (rowsD r)]) hd (fun x hx => ⟨_, hf x hx⟩)
  have hlen : acc.length + ((ls.map fun l => r ++ [l]).map rowsD).length ≤ lineMax := by rw [List.length_map, List.length_map, lineMax_eq]; omega
  walk_at "fhs"
theorem rows_turn {S d f c : D} {a2 a3 a4 a8 : Option D} {rs : List Rows} {ls : List (List Nat)} {ν : Store} (hd : listOf ν d = some (ls.map .str)) (hr : listOf ν f = some (rs.map rowsD)) (hl : rs.length * ls.length ≤ 1000000) (hw : ∀ r ∈ rs, r.length ≤ 1000) :
    ∃ a8', exs (callK Gam fu k) fu (.cons (.asg 3 (.ref (.lst .nil)))
  (.cons (.for_ 8 (.seq (.var 6)) (.cons (.ex (.mth .extend (.var 3) (.cons (.comp0 4 (.seq (.var 1)) (.bin .Add (.var 8) (.tup (.cons (.var 4) .nil)))) .nil)))
  .nil))
  (.cons (.asg 6 (.var 3))
  .nil))) none [some S, some d, a2, a3, a4, none, some f, some c, a8] ν = .nx [some S, some d, a2, some (.ptr ν.length), a4, none, some (.ptr ν.length), some c, a8'] (ν ++ [.lst ((rs.flatMap fun r => ls.map fun l => r ++ [l]).map rowsD)]) := by
  walk_at "fh"
  obtain ⟨σ', μ', e1, a8', h1, h2⟩ := for_list_inv (f := gBody (callK Gam fu k) fu none 8 (.cons (.ex (.mth .extend (.var 3) (.cons (.comp0 4 (.seq (.var 1)) (.bin .Add (.var 8) (.tup (.cons (.var 4) .nil)))) .nil))) .nil))
    (σ := [some S, some d, a2, some (.ptr ν.length), a4, none, some f, some c, a8]) (listOf_app (ν := [.lst []]) hr)
    (fun i σ' μ' => ∃ a8', σ' = [some S, some d, a2, some (.ptr ν.length), a4, none, some f, some c, a8'] ∧ μ' = ν ++ [.lst (((rs.take i).flatMap fun r => ls.map fun l => r ++ [l]).map rowsD)])
    (fun i σ' μ' ⟨_, _, h⟩ => by rw [h]; exact listOf_app hr)
    (fun i σ' μ' hi ⟨a8', h1, h2⟩ => by
      subst h1; subst h2
      have hi' : i < rs.length := by simpa using hi
      have hb : (i + 1) * ls.length ≤ rs.length * ls.length := Nat.mul_le_mul_right _ (by omega)
      have e := grow_rows (fu := fu) (k := k) (S := S) (d := d) (f := f) (c := c) (a2 := a2) (a4 := a4) (a8 := a8') (r := rs[i]) (p := ν.length) (ν := ν ++ [.lst (((rs.take i).flatMap fun r => ls.map fun l => r ++ [l]).map rowsD)]) (listOf_app hd) get_app (by rw [List.length_map, flat_len, List.length_take, Nat.min_eq_left (by omega)]; rw [Nat.succ_mul] at hb; omega) (hw rs[i] (List.getElem_mem hi'))
      refine ⟨_, _, by rw [List.getElem_map]; exact e, some (rowsD rs[i]), rfl, ?_⟩
      rw [rows_take hi']
      simp)
    ⟨a8, rfl, by simp⟩
  rw [e1]
  subst h1; subst h2
  walk_at "fh"
  refine ⟨a8', ?_⟩
  simp
theorem rowsL_len : ∀ (ls : List (List Nat)) (n : Nat), (rowsL ls n).length = ls.length ^ n
  | ls, 0 => rfl
  | ls, n + 1 => by rw [rowsL, flat_len, rowsL_len ls n, Nat.pow_succ]
theorem rowsL_each : ∀ (ls : List (List Nat)) (n : Nat), ∀ r ∈ rowsL ls n, r.length = n
  | ls, 0, r, h => by simp [rowsL] at h; simp [h]
  | ls, n + 1, r, h => by
    simp only [rowsL, List.mem_flatMap, List.mem_map] at h
    obtain ⟨x, hx, l, _, rfl⟩ := h
    simp [rowsL_each ls n x hx]
/-- all rows of w by h cells, rising -/
def allRows (w h : Nat) : List Rows := rowsL (linesL w) h
theorem all_rows_ok {w h : Nat} (hw : w ≤ 6) (hh : 1 ≤ h) (hh6 : h ≤ 6) (hs : (3 ^ w) ^ h ≤ 1000) : ∃ ν q, callK Gam fu (k + 1) .all_rows [.tup [.int w, .int h]] μ = .ok (.ptr q) (μ ++ ν) ∧ (μ ++ ν)[q]? = some (.lst ((allRows w h).map rowsD)) := by
  rw [c_all_rows]
  unfold B_all_rows
  have hb1 := big_nat (n := w) (by omega)
  have hb2 := big_nat (n := h) (by omega)
  have hpos : 1 ≤ 3 ^ w := Nat.one_le_pow _ _ (by omega)
  have h3w : 3 ^ w ≤ 1000 := Nat.le_trans (by rw [← Nat.pow_one (3 ^ w), ← Nat.pow_mul, ← Nat.pow_mul]; simp; exact Nat.pow_le_pow_right (by omega) (by rw [← Nat.mul_one w, Nat.mul_assoc]; exact Nat.mul_le_mul_left _ (by omega))) hs
  walk_at "fhs"
  obtain ⟨σ1, μ1, e1, hI1⟩ := for_vals_inv (xs := rangeFrom 0 1 w) (σ := [some (.tup [.int w, .int h]), some (.lst [.str []]), none, none, none, none, none, none, none]) (μ := μ)
    (f := gBody (callK Gam fu k) fu none 2 (.cons (.asg 3 (.ref (.lst .nil)))
  (.cons (.for_ 4 (.seq (.var 1)) (.cons (.ex (.mth .extend (.var 3) (.cons (.comp0 5 (.seq (.blt .sorted (.cons (.glo .SIGNS) .nil))) (.bin .Add (.var 4) (.var 5))) .nil)))
  .nil))
  (.cons (.asg 1 (.var 3))
  .nil))))
    (fun i σ' μ' => i ≤ w → ∃ d a2 a3 a4 ν, σ' = [some (.tup [.int w, .int h]), some d, a2, a3, a4, none, none, none, none] ∧ μ' = μ ++ ν ∧ listOf μ' d = some ((linesL i).map .str))
    (fun i σ' μ' hi hI => by
      have hi' : i < w := by rwa [range_len] at hi
      obtain ⟨d, a2, a3, a4, ν, h1, h2, h3⟩ := hI (by omega)
      subst h1; subst h2
      have h3i : 3 ^ i ≤ 3 ^ w := Nat.pow_le_pow_right (by omega) (by omega)
      obtain ⟨a4', e⟩ := lines_turn (fu := fu) (k := k) (S := .tup [.int w, .int h]) (d := d) (c := (rangeFrom 0 1 w)[i]) (a3 := a3) (a4 := a4) (ls := linesL i) h3 (by rw [linesL_count]; omega) (fun l hl => by rw [linesL_len i l hl]; omega)
      refine ⟨_, _, by rw [gBody]; exact e, fun _ => ⟨.ptr (μ ++ ν).length, _, _, a4', ν ++ [.lst ((grow3 (linesL i)).map .str)], rfl, by simp, ?_⟩⟩
      simp only [lst_ptr, get_app, linesL])
    (fun _ => ⟨.lst [.str []], none, none, none, [], rfl, by simp, rfl⟩)
  rw [range_len] at hI1
  obtain ⟨d, a2, a3, a4, ν, i1, i2, i3⟩ := hI1 (Nat.le_refl _)
  subst i1; subst i2
  rw [e1]
  walk_at "fhs"
  obtain ⟨σ2, μ2, e2, hI2⟩ := for_vals_inv (xs := rangeFrom 0 1 h) (σ := [some (.tup [.int w, .int h]), some d, a2, a3, a4, none, some (.lst [.tup []]), none, none]) (μ := μ ++ ν)
    (f := gBody (callK Gam fu k) fu none 7 (.cons (.asg 3 (.ref (.lst .nil)))
  (.cons (.for_ 8 (.seq (.var 6)) (.cons (.ex (.mth .extend (.var 3) (.cons (.comp0 4 (.seq (.var 1)) (.bin .Add (.var 8) (.tup (.cons (.var 4) .nil)))) .nil)))
  .nil))
  (.cons (.asg 6 (.var 3))
  .nil))))
    (fun i σ' μ' => i ≤ h → ∃ f a3 a7 a8 ν2, σ' = [some (.tup [.int w, .int h]), some d, a2, a3, a4, none, some f, a7, a8] ∧ μ' = μ ++ ν ++ ν2 ∧ listOf μ' f = some ((rowsL (linesL w) i).map rowsD) ∧ (1 ≤ i → ∃ q, f = .ptr q))
    (fun i σ' μ' hi hI => by
      have hi' : i < h := by rwa [range_len] at hi
      obtain ⟨f, a3, a7, a8, ν2, h1, h2, h3, _⟩ := hI (by omega)
      subst h1; subst h2
      have hpi : (3 ^ w) ^ i * 3 ^ w ≤ (3 ^ w) ^ h := by rw [← Nat.pow_succ]; exact Nat.pow_le_pow_right hpos (by omega)
      obtain ⟨a8', e⟩ := rows_turn (fu := fu) (k := k) (S := .tup [.int w, .int h]) (d := d) (f := f) (c := (rangeFrom 0 1 h)[i]) (a2 := a2) (a3 := a3) (a4 := a4) (a8 := a8) (rs := rowsL (linesL w) i) (ls := linesL w) (listOf_app (ν := ν2) i3) h3 (by rw [rowsL_len, linesL_count]; omega) (fun r hr => by rw [rowsL_each _ i r hr]; omega)
      refine ⟨_, _, by rw [gBody]; exact e, fun _ => ⟨.ptr (μ ++ ν ++ ν2).length, _, _, a8', ν2 ++ [.lst (((rowsL (linesL w) i).flatMap fun r => (linesL w).map fun l => r ++ [l]).map rowsD)], rfl, by simp, ?_, fun _ => ⟨_, rfl⟩⟩⟩
      simp only [lst_ptr, get_app, rowsL])
    (fun _ => ⟨.lst [.tup []], a3, none, none, [], rfl, by simp, rfl, fun z => absurd z (by omega)⟩)
  rw [range_len] at hI2
  obtain ⟨f, a3', a7, a8, ν2, j1, j2, j3, j4⟩ := hI2 (Nat.le_refl _)
  subst j1; subst j2
  rw [e2]
  walk_at "fhs"
  obtain ⟨q, rfl⟩ := j4 hh
  refine ⟨ν ++ ν2, q, by simp, ?_⟩
  rw [← List.append_assoc]
  simp only [lst_ptr] at j3
  cases hq : (μ ++ ν ++ ν2)[q]? with
  | none => rw [hq] at j3; cases j3
  | some o =>
    rw [hq] at j3
    cases o with
    | lst xs => simp only [Option.some.injEq] at j3; rw [j3]; rfl
    | dic _ => cases j3
    | ins _ => cases j3
end
/-! All fields of a size, by the program and by the law. -/
def first (r : Rows) : Nat := (r.headD []).headD 0
def fieldsL (w h : Nat) : List Rows := (allRows w h).filter fun r => first r != 35
theorem linesL_sign : ∀ n, ∀ l ∈ linesL n, ∀ c ∈ l, c = 35 ∨ c = 46 ∨ c = 111
  | 0, l, h => by simp [linesL] at h; simp [h]
  | n + 1, l, h => by
    simp only [linesL, grow3, List.mem_flatMap, List.mem_cons, List.not_mem_nil, or_false] at h
    obtain ⟨x, hx, h⟩ := h
    have ih := linesL_sign n x hx
    intro c hc
    rcases h with rfl | rfl | rfl <;> (simp only [List.mem_append, List.mem_cons, List.not_mem_nil, or_false] at hc; rcases hc with hc | rfl; exact ih c hc; simp)
theorem rowsL_mem : ∀ (ls : List (List Nat)) (n : Nat), ∀ r ∈ rowsL ls n, ∀ l ∈ r, l ∈ ls
  | ls, 0, r, h => by simp [rowsL] at h; simp [h]
  | ls, n + 1, r, h => by
    simp only [rowsL, List.mem_flatMap, List.mem_map] at h
    obtain ⟨x, hx, l, hl, rfl⟩ := h
    intro y hy
    simp only [List.mem_append, List.mem_cons, List.not_mem_nil, or_false] at hy
    rcases hy with hy | rfl
    · exact rowsL_mem ls n x hx y hy
    · exact hl
/-- the first row of such rows -/
theorem allRows_head {w h : Nat} (hw : 1 ≤ w) (hh : 1 ≤ h) {r : Rows} (hr : r ∈ allRows w h) : ∃ c t rs, r = (c :: t) :: rs ∧ c < 128 ∧ (c :: t).length = w := by
  have h1 := rowsL_each _ _ r hr
  cases r with
  | nil => simp at h1; omega
  | cons l rs =>
    have h2 := rowsL_mem _ _ _ hr l List.mem_cons_self
    have h3 := linesL_len _ _ h2
    cases l with
    | nil => simp at h3; omega
    | cons c t =>
      refine ⟨c, t, rs, rfl, ?_, h3⟩
      have := linesL_sign _ _ h2 c List.mem_cons_self
      omega
theorem ascii_ok {c : Nat} (h : c < 128) : ([c].all (· < 0x110000)) = true := by
  simp; omega
section
variable {μ : Store} {fu k : Nat}
theorem all_fields_ok {w h : Nat} (hw : 1 ≤ w) (hw6 : w ≤ 6) (hh : 1 ≤ h) (hh6 : h ≤ 6) (hs : (3 ^ w) ^ h ≤ 1000) : ∃ ν, callK Gam fu (k + 2) .all_fields [.tup [.int w, .int h]] μ = .ok (.ptr (μ ++ ν).length) (μ ++ ν ++ [.lst ((fieldsL w h).map rowsD)]) := by
  rw [c_all_fields]
  unfold B_all_fields
  obtain ⟨ν, q, e, hq⟩ := all_rows_ok (μ := μ) (fu := fu) (k := k) hw6 hh hh6 hs
  have hl : listOf (μ ++ ν) (.ptr q) = some ((allRows w h).map rowsD) := by simp only [lst_ptr, hq]
  have hf : ∀ x ∈ (allRows w h).map rowsD, turn1F (callK Gam fu (k + 1)) none 1 (.cmp .NotEq (.idx (.idx (.var 1) (.con (.int 0))) (.con (.int 0))) (.glo .WALL)) (.var 1) [some (.tup [.int w, .int h]), none] x (μ ++ ν)
      = .ok (if (match x with | .tup (.str (c :: _) :: _) => c != 35 | _ => false) then some (id x) else none) (μ ++ ν) := by
    intro x hx
    obtain ⟨r, hr, rfl⟩ := List.mem_map.mp hx
    obtain ⟨c, t, rs, rfl, hc, hlen⟩ := allRows_head hw hh hr
    have hq1 := eqD_str (μ ++ ν) [c] [35] (ascii_ok hc) (by decide)
    have h3 : (c :: t).length ≤ lineMax := by rw [hlen, lineMax_eq]; omega
    have h4 : t.length + 1 ≤ lineMax := h3
    clear hlen h3
    simp only [rowsD, List.map_cons]
    by_cases h35 : c = 35
    · subst h35
      have hq2 : eqD (μ ++ ν) (.str [35]) (.str [35]) = some true := by rw [hq1]; rfl
      clear hq1
      walk_at "fhs"
      rfl
    · have hq2 : eqD (μ ++ ν) (.str [c]) (.str [35]) = some false := by
        rw [hq1]
        have : ([c] == [35]) = false := by simpa using h35
        rw [this]
      clear hq1
      have hb : (c != 35) = true := by simpa using h35
      walk_at "fhs"
  have hall : (allRows w h).length ≤ 1000 := by rw [allRows, rowsL_len, linesL_count]; exact hs
  have hv := lcV_filter (acc := []) hf (by rw [List.length_map, lineMax_eq]; simp; omega)
  have hc := comp_list (f := turn1F (callK Gam fu (k + 1)) none 1 (.cmp .NotEq (.idx (.idx (.var 1) (.con (.int 0))) (.con (.int 0))) (.glo .WALL)) (.var 1) [some (.tup [.int w, .int h]), none]) hl (fun x hx => ⟨_, hf x hx⟩)
  rw [hv] at hc
  refine ⟨ν, ?_⟩
  walk_at "fh"
  simp only [e]
  walk_at "fh"
  simp only [src_ptr] at hc
  rw [hc]
  walk_at "fh"
  simp only [List.nil_append, List.map_id_fun, id_eq, List.filter_map]
  congr 3
  unfold fieldsL
  congr 2
  apply List.filter_congr
  intro r hr
  obtain ⟨c, t, rs, rfl, hc, _⟩ := allRows_head hw hh hr
  rfl
theorem fields_ok {w h : Nat} (hw : 1 ≤ w) (hw6 : w ≤ 6) (hh : 1 ≤ h) (hh6 : h ≤ 6) (hs : (3 ^ w) ^ h ≤ 1000) (hc : w * h ≤ 6) : ∃ ν, callK Gam fu (k + 3) .fields [.tup [.int w, .int h]] μ = .ok (.ptr (μ ++ ν).length) (μ ++ ν ++ [.lst ((fieldsL w h).map rowsD)]) := by
  rw [c_fields]
  unfold B_fields
  obtain ⟨ν, e⟩ := all_fields_ok (μ := μ) (fu := fu) (k := k) hw hw6 hh hh6 hs
  have hc' : (w : Int) * h ≤ 6 := by exact_mod_cast hc
  have hn := need_size_ok (μ := μ) (fu := fu) (k := k + 1) (w := w) (h := h) (m := 6) (by omega) (by omega) hc' (Nat.ble_eq_true_of_le (by omega))
  refine ⟨ν, ?_⟩
  walk_at "fhs"
theorem fields_bad {w h : Int} (hs : smallI w = true) (hb : w < 1 ∨ h < 1 ∨ 6 < w * h) : callK Gam fu (k + 3) .fields [.tup [.int w, .int h]] μ = .exc .BadSize .non μ := by
  rw [c_fields]
  unfold B_fields
  have hn := need_size_bad (μ := μ) (fu := fu) (k := k + 1) hs hb
  walk_at "fhs"
end
/-! the law's own fields -/
def signs3 (n : Nat) : List Nat := if n = 0 then [46, 111] else [35, 46, 111]
def growS (ls : List (List Nat)) (ss : List Nat) : List (List Nat) := ls.flatMap fun l => ss.map fun s => l ++ [s]
def sgL : Nat → List (List Nat)
  | 0 => [[]]
  | n + 1 => growS (sgL n) (signs3 n)
def chunkL (w h : Nat) (l : List Nat) : Rows := (List.range h).map fun j => (l.drop (j * w)).take w
theorem growS_len (ls : List (List Nat)) (ss : List Nat) : (growS ls ss).length = ls.length * ss.length := by
  induction ls with
  | nil => simp [growS]
  | cons a l ih => rw [growS, List.flatMap_cons, List.length_append, List.length_map]; rw [growS] at ih; rw [ih, List.length_cons, Nat.succ_mul]; omega
theorem growS_take {ls : List (List Nat)} {ss : List Nat} {i : Nat} (h : i < ls.length) : growS (ls.take (i + 1)) ss = growS (ls.take i) ss ++ ss.map fun s => ls[i] ++ [s] := by
  rw [List.take_succ_eq_append_getElem h, growS, List.flatMap_append]
  simp [growS]
theorem sgL_len : ∀ n, ∀ l ∈ sgL n, l.length = n
  | 0, l, h => by simp [sgL] at h; simp [h]
  | n + 1, l, h => by
    simp only [sgL, growS, List.mem_flatMap, List.mem_map] at h
    obtain ⟨x, hx, s, _, rfl⟩ := h
    simp [sgL_len n x hx]
theorem sgL_count : ∀ n, (sgL n).length ≤ 3 ^ n
  | 0 => Nat.le_refl _
  | n + 1 => by
    rw [sgL, growS_len, Nat.pow_succ]
    have h1 := sgL_count n
    have h2 : (signs3 n).length ≤ 3 := by unfold signs3; split <;> simp
    exact Nat.mul_le_mul h1 h2
theorem cut_0 : cut [35, 46, 111] (some (1 : Int)) none = [46, 111] := by decide
theorem cut_1 : cut [35, 46, 111] (some (0 : Int)) none = [35, 46, 111] := by decide
section
variable {μ : Store} {fu k : Nat}
theorem sg_line {S d : D} {c : Nat} {p : Nat} {a4 a6 : Option D} {l : List Nat} {acc : List D} {ν : Store} (hp : ν[p]? = some (.lst acc)) (h1 : acc.length + 3 ≤ lineMax) (h2 : l.length + 1 ≤ lineMax) :
    gBody (callK Gam fu k) fu none 4 (.cons (.ex (.mth .extend (.var 3) (.cons (.comp0 5 (.seq (.slc (.con (.str [35, 46, 111])) (.blt .int (.cons (.cmp .Eq (.var 2) (.con (.int 0))) .nil)) (.con .non))) (.bin .Add (.var 4) (.var 5))) .nil)))
  .nil) (.str l) [some S, some d, some (.int c), some (.ptr p), a4, none, a6] ν
      = .nx [some S, some d, some (.int c), some (.ptr p), some (.str l), none, a6] (ν.set p (.lst (acc ++ ((signs3 c).map fun s => l ++ [s]).map .str))) := by
  have hf : ∀ x ∈ (signs3 c).map (fun s => D.str [s]), turn0F (callK Gam fu k) none 5 (.bin .Add (.var 4) (.var 5)) [some S, some d, some (.int c), some (.ptr p), some (.str l), none, a6] x ν = .ok (some (match x with | .str s => .str (l ++ s) | _ => x)) ν := by
    intro x hx
    obtain ⟨s, _, rfl⟩ := List.mem_map.mp hx
    have : l.length + [s].length ≤ lineMax := h2
    walk_at "fhs"
  have hsl : (signs3 c).length ≤ 3 := by unfold signs3; split <;> simp
  have hl : lcV (turn0F (callK Gam fu k) none 5 (.bin .Add (.var 4) (.var 5)) [some S, some d, some (.int c), some (.ptr p), some (.str l), none, a6]) ((signs3 c).map fun s => D.str [s]) [] ν = .ok (((signs3 c).map fun s => l ++ [s]).map .str) ν := by
    rw [lcV_map hf (by rw [List.length_map, lineMax_eq]; simp; omega)]
    simp [Function.comp_def]
  have hlen : acc.length + (((signs3 c).map fun s => l ++ [s]).map D.str).length ≤ lineMax := by rw [List.length_map, List.length_map]; omega
  have h3 : (3 : Nat) ≤ lineMax := by decide
  have h1' : acc.length + 2 ≤ lineMax := by omega
  have c0 := cut_0
  have c1 := cut_1
  by_cases hc : c = 0
  · subst hc
    have e0 : eqD ν (.int ((0 : Nat) : Int)) (.int 0) = some true := by rw [eqD_int]; rfl
    have hsg : signs3 0 = [46, 111] := rfl
    rw [hsg] at hl hlen ⊢
    simp only [List.map_cons, List.map_nil] at hl hlen ⊢
    walk_at "fhs"
    simp only [List.map_cons, List.map_nil]
    walk_at "fhs"
  · have e0 : eqD ν (.int (c : Int)) (.int 0) = some false := by
      rw [eqD_int]
      have : ((c : Int) == 0) = false := by simp; omega
      rw [this]
    have hsg : signs3 c = [35, 46, 111] := by unfold signs3; rw [if_neg hc]
    rw [hsg] at hl hlen ⊢
    simp only [List.map_cons, List.map_nil] at hl hlen ⊢
    walk_at "fhs"
    simp only [List.map_cons, List.map_nil]
    walk_at "fhs"
theorem sg_turn {S d : D} {c : Nat} {a3 a4 a6 : Option D} {ls : List (List Nat)} {ν : Store} (hd : listOf ν d = some (ls.map .str)) (hl : ls.length * 3 ≤ 1000000) (hw : ∀ l ∈ ls, l.length ≤ 1000) :
    ∃ a4', exs (callK Gam fu k) fu (.cons (.asg 3 (.ref (.lst .nil)))
  (.cons (.for_ 4 (.seq (.var 1)) (.cons (.ex (.mth .extend (.var 3) (.cons (.comp0 5 (.seq (.slc (.con (.str [35, 46, 111])) (.blt .int (.cons (.cmp .Eq (.var 2) (.con (.int 0))) .nil)) (.con .non))) (.bin .Add (.var 4) (.var 5))) .nil)))
  .nil))
  (.cons (.asg 1 (.var 3))
  .nil))) none [some S, some d, some (.int c), a3, a4, none, a6] ν = .nx [some S, some (.ptr ν.length), some (.int c), some (.ptr ν.length), a4', none, a6] (ν ++ [.lst ((growS ls (signs3 c)).map .str)]) := by
  walk_at "fh"
  have hsl : (signs3 c).length ≤ 3 := by unfold signs3; split <;> simp
  obtain ⟨σ', μ', e1, a4', h1, h2⟩ := for_list_inv (f := gBody (callK Gam fu k) fu none 4 (.cons (.ex (.mth .extend (.var 3) (.cons (.comp0 5 (.seq (.slc (.con (.str [35, 46, 111])) (.blt .int (.cons (.cmp .Eq (.var 2) (.con (.int 0))) .nil)) (.con .non))) (.bin .Add (.var 4) (.var 5))) .nil)))
  .nil))
    (σ := [some S, some d, some (.int c), some (.ptr ν.length), a4, none, a6]) (listOf_app (ν := [.lst []]) hd)
    (fun i σ' μ' => ∃ a4', σ' = [some S, some d, some (.int c), some (.ptr ν.length), a4', none, a6] ∧ μ' = ν ++ [.lst ((growS (ls.take i) (signs3 c)).map .str)])
    (fun i σ' μ' ⟨_, _, h⟩ => by rw [h]; exact listOf_app hd)
    (fun i σ' μ' hi ⟨a4', h1, h2⟩ => by
      subst h1; subst h2
      have hi' : i < ls.length := by simpa using hi
      have hp : (ν ++ [.lst ((growS (ls.take i) (signs3 c)).map .str)])[ν.length]? = some (.lst ((growS (ls.take i) (signs3 c)).map .str)) := get_app
      have hb : i * (signs3 c).length ≤ ls.length * 3 := Nat.mul_le_mul (by omega) hsl
      have e := sg_line (fu := fu) (k := k) (S := S) (d := d) (c := c) (a4 := a4') (a6 := a6) (l := ls[i]) hp (by rw [List.length_map, growS_len, lineMax_eq, List.length_take, Nat.min_eq_left (by omega)]; omega) (by have := hw ls[i] (List.getElem_mem hi'); rw [lineMax_eq]; omega)
      refine ⟨_, _, by rw [List.getElem_map]; exact e, some (.str ls[i]), rfl, ?_⟩
      rw [growS_take hi']
      simp)
    ⟨a4, rfl, by simp [growS]⟩
  rw [e1]
  subst h1; subst h2
  walk_at "fh"
  refine ⟨a4', ?_⟩
  simp
end
theorem cut_nat {A : Type} (l : List A) (a b : Nat) : cut l (some (a : Int)) (some (b : Int)) = (l.drop (min a l.length)).take (min b l.length - min a l.length) := by
  have ha : ¬ (a : Int) < 0 := by omega
  have hb : ¬ (b : Int) < 0 := by omega
  simp only [cut, sIx, if_neg ha, if_neg hb, Int.toNat_natCast]
theorem steps_n {w h : Nat} (hw : 1 ≤ w) : ((((w * h : Nat) : Int) - 0 + w - 1) / w).toNat = h := by
  have e : (((w * h : Nat) : Int) - 0 + w - 1) = ((w : Int) - 1) + w * (h : Int) := by
    rw [Int.natCast_mul]; omega
  rw [e, Int.add_mul_ediv_left _ _ (by omega), Int.ediv_eq_zero_of_lt (by omega) (by omega)]
  simp
section
variable {μ : Store} {fu k : Nat}
/-- a text cut into rows -/
theorem chunk_turn {w h : Nat} {d : D} {a2 a3 a4 a6 : Option D} {l : List Nat} {ν : Store} (hw : 1 ≤ w) (hw6 : w ≤ 6) (hc : w * h ≤ 6) (hl : l.length = w * h) :
    turn0F (callK Gam fu k) none 4 (.blt .tuple (.cons (.comp0 6 (.rng (.cons (.con (.int 0)) (.cons (.blt .len (.cons (.var 4) .nil)) (.cons (.idx (.var 0) (.con (.int 0))) .nil)))) (.slc (.var 4) (.var 6) (.bin .Add (.var 6) (.idx (.var 0) (.con (.int 0)))))) .nil)) [some (.tup [.int w, .int h]), some d, a2, a3, a4, none, a6] (.str l) ν
      = .ok (some (rowsD (chunkL w h l))) ν := by
  have hh : h ≤ 6 := Nat.le_trans (Nat.le_mul_of_pos_left h hw) hc
  have hf : ∀ x ∈ rangeFrom 0 w h, turn0F (callK Gam fu k) none 6 (.slc (.var 4) (.var 6) (.bin .Add (.var 6) (.idx (.var 0) (.con (.int 0))))) [some (.tup [.int w, .int h]), some d, a2, a3, some (.str l), none, a6] x ν = .ok (some (match x with | .int a => .str ((l.drop a.toNat).take w) | _ => x)) ν := by
    intro x hx
    obtain ⟨j, hj, rfl⟩ := List.getElem_of_mem hx
    rw [range_len] at hj
    rw [range_get]
    have h1 : l.length ≤ lineMax := by rw [hl, lineMax_eq]; omega
    have e1 : (0 : Int) + j * w = ((j * w : Nat) : Int) := by rw [Int.natCast_mul]; omega
    have e2 : ((j * w : Nat) : Int) + w = ((j * w + w : Nat) : Int) := by rw [Int.natCast_add]
    have e3 := cut_nat l (j * w) (j * w + w)
    have hb : j * w + w ≤ l.length := by
      rw [hl, ← Nat.succ_mul, Nat.mul_comm w h]; exact Nat.mul_le_mul_right _ hj
    rw [Nat.min_eq_left (by omega), Nat.min_eq_left (by omega), Nat.add_sub_cancel_left] at e3
    rw [e1]
    clear e1 hb hl hc
    walk_at "fhs"
  have hv : lcV (turn0F (callK Gam fu k) none 6 (.slc (.var 4) (.var 6) (.bin .Add (.var 6) (.idx (.var 0) (.con (.int 0))))) [some (.tup [.int w, .int h]), some d, a2, a3, some (.str l), none, a6]) (rangeFrom 0 w h) [] ν = .ok ((chunkL w h l).map .str) ν := by
    rw [lcV_map hf (by rw [range_len, lineMax_eq]; simp; omega)]
    congr 1
    rw [List.nil_append]
    apply List.ext_getElem
    · simp [chunkL, range_len]
    · intro j h1 h2
      rw [List.getElem_map, range_get]
      simp only [chunkL, List.getElem_map, List.getElem_range]
      congr 3
      rw [Int.zero_add, ← Int.natCast_mul, Int.toNat_natCast]
  have h1 : l.length ≤ lineMax := by rw [hl, lineMax_eq]; omega
  have hr : rngD [.int 0, .int ((w * h : Nat) : Int), .int (w : Int)] = some (rangeFrom 0 w h) := by
    have b0 : big 0 = true := by decide
    have b1 := big_nat (n := w * h) (by omega)
    simp only [rngD, b0, b1, decide_eq_true (show (0 : Int) < w by omega), decide_eq_true (show (w : Int) < 1000 by omega), Bool.and_self, if_true]
    rw [steps_n hw]
  have hlen : lenD ν [.str l] = some (.int ((w * h : Nat) : Int)) := by rw [len_str, if_pos h1, hl]
  simp only [turn0F, v_blt, v_comp0, v_rng, v_cons, v_nil, v_con, v_var, v_idx, fIdx1, fIdx2, idx_tup, atI_0, fCons1, fCons2, fBlt, blt_len, hlen, List.set_cons_succ, List.set_cons_zero, List.getElem?_cons_zero, List.getElem?_cons_succ, Option.bind_some, id_eq, Res.of_some, Res.bind_ok, fRng, hr, fVals, comp_vals]
  rw [show turn0F (callK Gam fu k) none 6 (.slc (.var 4) (.var 6) (.bin .Add (.var 6) (.idx (.var 0) (.con (.int 0))))) [some (.tup [.int w, .int h]), some d, a2, a3, some (.str l), none, a6] = turn0F (callK Gam fu k) none 6 (.slc (.var 4) (.var 6) (.bin .Add (.var 6) (.idx (.var 0) (.con (.int 0))))) [some (.tup [.int w, .int h]), some d, a2, a3, some (.str l), none, a6] from rfl, hv]
  walk_at "fh"
  rfl
theorem law_fields_ok {w h : Nat} (hw : 1 ≤ w) (hw6 : w ≤ 6) (hh : 1 ≤ h) (hc : w * h ≤ 6) : ∃ ν, callK Gam fu (k + 1) .law_fields_k07 [.tup [.int w, .int h]] μ = .ok (.lst (((sgL (w * h)).map (chunkL w h)).map rowsD)) (μ ++ ν) := by
  rw [c_law_fields_k07]
  unfold B_law_fields_k07
  have hwh : (w : Int) * h = ((w * h : Nat) : Int) := by rw [Int.natCast_mul]
  have hb1 := big_nat (n := w * h) (by omega)
  have hsm : smallI (w : Int) = true := Nat.ble_eq_true_of_le (by omega)
  have hcnt : ∀ n ≤ 6, (sgL n).length ≤ 729 := fun n hn => Nat.le_trans (sgL_count n) (Nat.pow_le_pow_right (n := 3) (by omega) hn)
  walk_at "fhs"
  obtain ⟨σ1, μ1, e1, hI1⟩ := for_vals_inv (xs := rangeFrom 0 1 (w * h)) (σ := [some (.tup [.int w, .int h]), some (.lst [.str []]), none, none, none, none, none]) (μ := μ)
    (f := gBody (callK Gam fu k) fu none 2 (.cons (.asg 3 (.ref (.lst .nil)))
  (.cons (.for_ 4 (.seq (.var 1)) (.cons (.ex (.mth .extend (.var 3) (.cons (.comp0 5 (.seq (.slc (.con (.str [35, 46, 111])) (.blt .int (.cons (.cmp .Eq (.var 2) (.con (.int 0))) .nil)) (.con .non))) (.bin .Add (.var 4) (.var 5))) .nil)))
  .nil))
  (.cons (.asg 1 (.var 3))
  .nil))))
    (fun i σ' μ' => i ≤ w * h → ∃ d a2 a3 a4 ν, σ' = [some (.tup [.int w, .int h]), some d, a2, a3, a4, none, none] ∧ μ' = μ ++ ν ∧ listOf μ' d = some ((sgL i).map .str))
    (fun i σ' μ' hi hI => by
      have hi' : i < w * h := by rwa [range_len] at hi
      obtain ⟨d, a2, a3, a4, ν, h1, h2, h3⟩ := hI (by omega)
      subst h1; subst h2
      obtain ⟨a4', e⟩ := sg_turn (fu := fu) (k := k) (S := .tup [.int w, .int h]) (d := d) (c := i) (a3 := a3) (a4 := a4) (a6 := none) (ls := sgL i) h3 (by have := hcnt i (by omega); omega) (fun l hl => by rw [sgL_len i l hl]; omega)
      refine ⟨_, _, by rw [gBody, range_get, show (0 : Int) + i * 1 = i by omega]; exact e, fun _ => ⟨.ptr (μ ++ ν).length, _, _, a4', ν ++ [.lst ((growS (sgL i) (signs3 i)).map .str)], rfl, by simp, ?_⟩⟩
      simp only [lst_ptr, get_app, sgL])
    (fun _ => ⟨.lst [.str []], none, none, none, [], rfl, by simp, rfl⟩)
  rw [range_len] at hI1
  obtain ⟨d, a2, a3, a4, ν, i1, i2, i3⟩ := hI1 (Nat.le_refl _)
  subst i1; subst i2
  rw [e1]
  have hf : ∀ x ∈ (sgL (w * h)).map D.str, turn0F (callK Gam fu k) none 4 (.blt .tuple (.cons (.comp0 6 (.rng (.cons (.con (.int 0)) (.cons (.blt .len (.cons (.var 4) .nil)) (.cons (.idx (.var 0) (.con (.int 0))) .nil)))) (.slc (.var 4) (.var 6) (.bin .Add (.var 6) (.idx (.var 0) (.con (.int 0)))))) .nil)) [some (.tup [.int w, .int h]), some d, a2, a3, a4, none, none] x (μ ++ ν)
      = .ok (some (match x with | .str l => rowsD (chunkL w h l) | _ => x)) (μ ++ ν) := by
    intro x hx
    obtain ⟨l, hl, rfl⟩ := List.mem_map.mp hx
    exact chunk_turn hw hw6 hc (sgL_len _ l hl)
  have hv := lcV_map (acc := []) hf (by have := hcnt (w * h) hc; rw [List.length_map, lineMax_eq]; simp; omega)
  have hcl := comp_list i3 (fun x hx => ⟨_, hf x hx⟩)
  rw [hv] at hcl
  refine ⟨ν, ?_⟩
  simp only [Out.seq_nx, gSeq, s_cons, s_ret, v_comp0, v_seq, v_var, List.getElem?_cons_zero, List.getElem?_cons_succ, Option.bind_some, id_eq, Res.of_some, Res.bind_ok, fSeq]
  rw [hcl]
  walk_at "fh"
  simp [Function.comp_def]
end
/-- the law's fields are the program's -/
theorem fields_same : ∀ w h : Nat, 1 ≤ w → 1 ≤ h → w * h ≤ 6 → (sgL (w * h)).map (chunkL w h) = fieldsL w h := by
  intro w h hw hh hc
  have h1 : w ≤ 6 := Nat.le_trans (Nat.le_mul_of_pos_right w hh) hc
  have h2 : h ≤ 6 := Nat.le_trans (Nat.le_mul_of_pos_left h hw) hc
  have key : ∀ w ∈ [1, 2, 3, 4, 5, 6], ∀ h ∈ [1, 2, 3, 4, 5, 6], w * h ≤ 6 → (sgL (w * h)).map (chunkL w h) = fieldsL w h := by decide +kernel
  exact key w (by simp; omega) h (by simp; omega) hc
/-! Scenes; the empty program. -/
structure Sc where
  rows : Rows
  r : Nat
  c : Nat
  w : Nat
  h : Nat
def scD (s : Sc) : D := .tup [rowsD s.rows, .int s.r, .int s.c, .int s.w, .int s.h]
def cellN (rows : Rows) (r c : Nat) : Nat := (rows.getD r []).getD c 0
def placeScenes (w h : Nat) (rows : Rows) (place : Nat) : List Sc :=
  if cellN rows (place / w) (place % w) = 35 then [] else (List.range 4).flatMap fun way => (List.range (w * h + 1)).map fun held => ⟨rows, place / w, place % w, way, held⟩
def scenesL (w h : Nat) : List Sc := (allRows w h).flatMap fun rows => (List.range (w * h)).flatMap fun place => placeScenes w h rows place
theorem set_same {ν : Store} {p : Nat} {o : O} (h : ν[p]? = some o) : ν.set p o = ν := by
  obtain ⟨hp, e⟩ := List.getElem?_eq_some_iff.mp h
  rw [← e, List.set_getElem_self]
theorem range_map (n : Nat) : rangeFrom 0 1 n = (List.range n).map fun j => D.int (j : Nat) := by
  apply List.ext_getElem
  · simp [range_len]
  · intro i h1 h2
    rw [range_get]
    simp
theorem pds_strs : ∀ {r : Rows}, (∀ l ∈ r, ∀ c ∈ l, c < 128) → pds (r.map .str) = true
  | [], h => rfl
  | l :: r, h => by
    simp only [List.map_cons, pds, pd, Bool.and_eq_true]
    refine ⟨?_, pds_strs fun l hl => h l (List.mem_cons_of_mem _ hl)⟩
    rw [List.all_eq_true]
    intro c hc
    have := h l List.mem_cons_self c hc
    simp; omega
theorem dds_strs : ∀ (r : Rows), dds (r.map .str) ≤ 1
  | [] => by simp [dds]
  | l :: r => by simp only [List.map_cons, dds, dd]; have := dds_strs r; omega
/-- rows of plain signs -/
def RowsP (r : Rows) : Prop := ∀ l ∈ r, ∀ c ∈ l, c < 128
theorem pd_sc {s : Sc} (h : RowsP s.rows) : pd (scD s) = true := by
  simp only [scD, rowsD, pd, pds, pds_strs h, Bool.and_self]
theorem dd_sc (s : Sc) : dd (scD s) ≤ 3 := by
  simp only [scD, rowsD, dd, dds]
  have := dds_strs s.rows
  omega
theorem allRows_P {w h : Nat} {r : Rows} (hr : r ∈ allRows w h) : RowsP r := fun l hl c hc => by
  have := linesL_sign _ l (rowsL_mem _ _ r hr l hl) c hc
  omega
theorem allRows_cell {w h : Nat} {r : Rows} (hr : r ∈ allRows w h) {i j : Nat} (hi : i < h) (hj : j < w) : ∃ l, r[i]? = some l ∧ l.length = w ∧ l[j]? = some (cellN r i j) := by
  have h1 := rowsL_each _ _ r hr
  have hi' : i < r.length := by omega
  refine ⟨r[i], List.getElem?_eq_getElem hi', linesL_len _ _ (rowsL_mem _ _ r hr _ (List.getElem_mem hi')), ?_⟩
  have h2 := linesL_len _ _ (rowsL_mem _ _ r hr _ (List.getElem_mem hi'))
  have hj' : j < r[i].length := by omega
  rw [List.getElem?_eq_getElem hj']
  simp [cellN, List.getD_eq_getElem?_getD, List.getElem?_eq_getElem hi', List.getElem?_eq_getElem hj']
section
variable {μ : Store} {fu k : Nat}
abbrev wayBody : Ss := .cons (.ex (.mth .extend (.var 1) (.cons (.comp0 7 (.rng (.cons (.bin .Add (.bin .Mult (.idx (.var 0) (.con (.int 0))) (.idx (.var 0) (.con (.int 1)))) (.con (.int 1))) .nil)) (.tup (.cons (.var 2) (.cons (.var 4) (.cons (.var 5) (.cons (.var 6) (.cons (.var 7) .nil))))))) .nil)))
  .nil
theorem way_turn {w h p row col way : Nat} {rd : D} {a3 a6 : Option D} {acc : List D} {ν : Store} (hw : w ≤ 6) (hh : h ≤ 6) (hp : ν[p]? = some (.lst acc)) (h1 : acc.length + 100 ≤ lineMax) :
    gBody (callK Gam fu k) fu none 6 wayBody (.int way) [some (.tup [.int w, .int h]), some (.ptr p), some rd, a3, some (.int row), some (.int col), a6, none] ν
      = .nx [some (.tup [.int w, .int h]), some (.ptr p), some rd, a3, some (.int row), some (.int col), some (.int way), none] (ν.set p (.lst (acc ++ (List.range (w * h + 1)).map fun held => .tup [rd, .int row, .int col, .int way, .int (held : Nat)]))) := by
  have hwh : w * h ≤ 36 := Nat.mul_le_mul hw hh
  have e1 : (w : Int) * h + 1 = ((w * h + 1 : Nat) : Int) := by rw [Int.natCast_add, Int.natCast_mul]; rfl
  have hb := big_nat (n := w * h + 1) (by omega)
  have hsm : smallI (w : Int) = true := Nat.ble_eq_true_of_le (by omega)
  have hf : ∀ x ∈ (List.range (w * h + 1)).map (fun j => D.int (j : Nat)), turn0F (callK Gam fu k) none 7 (.tup (.cons (.var 2) (.cons (.var 4) (.cons (.var 5) (.cons (.var 6) (.cons (.var 7) .nil)))))) [some (.tup [.int w, .int h]), some (.ptr p), some rd, a3, some (.int row), some (.int col), some (.int way), none] x ν
      = .ok (some ((fun x => .tup [rd, .int row, .int col, .int way, x]) x)) ν := by
    intro x hx
    walk_at "fh"
  have hv := lcV_map (acc := []) hf (by rw [List.length_map, List.length_range, lineMax_eq]; simp; omega)
  rw [List.nil_append, List.map_map] at hv
  have hlen : acc.length + ((List.range (w * h + 1)).map ((fun x => D.tup [rd, .int row, .int col, .int way, x]) ∘ fun j => D.int (j : Nat))).length ≤ lineMax := by rw [List.length_map, List.length_range]; omega
  have hr := range_map (w * h + 1)
  have hl2 : acc.length + (w * h + 1) ≤ lineMax := by omega
  walk_at "fhs"
  rfl
abbrev placeBody : Ss := .cons (.asg 4 (.bin .FloorDiv (.var 3) (.idx (.var 0) (.con (.int 0)))))
  (.cons (.asg 5 (.bin .Mod (.var 3) (.idx (.var 0) (.con (.int 0)))))
  (.cons (.ifs (.cmp .NotEq (.idx (.idx (.var 2) (.var 4)) (.var 5)) (.glo .WALL)) (.cons (.for_ 6 (.rng (.cons (.blt .len (.cons (.glo .STEPS) .nil)) .nil)) wayBody)
  .nil) .nil)
  .nil))
theorem place_turn {w h p place : Nat} {r : Rows} {a3 a4 a5 a6 : Option D} {acc : List D} {ν : Store} (hw1 : 1 ≤ w) (hw : w ≤ 6) (hh : h ≤ 6) (hr : r ∈ allRows w h) (hpl : place < w * h) (hp : ν[p]? = some (.lst acc)) (h1 : acc.length + 500 ≤ lineMax) :
    ∃ b4 b5 b6, gBody (callK Gam fu k) fu none 3 placeBody (.int place) [some (.tup [.int w, .int h]), some (.ptr p), some (rowsD r), a3, a4, a5, a6, none] ν
      = .nx [some (.tup [.int w, .int h]), some (.ptr p), some (rowsD r), some (.int place), b4, b5, b6, none] (ν.set p (.lst (acc ++ (placeScenes w h r place).map scD))) := by
  have hdiv : ((place : Int) / w) = ((place / w : Nat) : Int) := (Int.natCast_ediv place w).symm
  have hmod : ((place : Int) % w) = ((place % w : Nat) : Int) := (Int.natCast_emod place w).symm
  have hrow : place / w < h := Nat.div_lt_of_lt_mul hpl
  have hcol : place % w < w := Nat.mod_lt _ (by omega)
  obtain ⟨l, hl1, hl2, hl3⟩ := allRows_cell hr hrow hcol
  have hw0 : (0 : Int) < w ∧ Nat.blt (w : Int).natAbs 1073741824 = true := ⟨by omega, Nat.ble_eq_true_of_le (by omega)⟩
  have hw00 : (0 : Int) < w := hw0.1
  have i1 : idxD ν (rowsD r) (.int ((place / w : Nat) : Int)) = some (.str l) := by
    rw [rowsD, idx_tup, atI_nat, List.getElem?_map, hl1]; rfl
  have hlm : l.length ≤ lineMax := by rw [hl2, lineMax_eq]; omega
  have i2 : idxD ν (.str l) (.int ((place % w : Nat) : Int)) = some (.str [cellN r (place / w) (place % w)]) := by
    rw [idx_str, if_pos hlm, atI_nat, hl3]; rfl
  have hcl : cellN r (place / w) (place % w) < 128 := allRows_P hr l (List.mem_of_getElem? hl1) _ (List.mem_of_getElem? hl3)
  have hq := eqD_str ν [cellN r (place / w) (place % w)] [35] (ascii_ok hcl) (by decide)
  by_cases hc : cellN r (place / w) (place % w) = 35
  · have hb : ([cellN r (place / w) (place % w)] == [35]) = true := by simpa using hc
    rw [hb] at hq
    have hps : placeScenes w h r place = [] := by unfold placeScenes; rw [if_pos hc]
    rw [hps]
    refine ⟨some (.int ((place / w : Nat) : Int)), some (.int ((place % w : Nat) : Int)), a6, ?_⟩
    clear hc hb hps
    walk_at "fhs"
    simp only [List.map_nil, List.append_nil]
    congr 1
    exact (set_same hp).symm
  · have hb : ([cellN r (place / w) (place % w)] == [35]) = false := by simpa using hc
    rw [hb] at hq
    have hps : placeScenes w h r place = (List.range 4).flatMap fun way => (List.range (w * h + 1)).map fun held => ⟨r, place / w, place % w, way, held⟩ := by unfold placeScenes; rw [if_neg hc]
    rw [hps]
    have hwh : w * h ≤ 36 := Nat.mul_le_mul hw hh
    have b4 : big ((4 : Nat) : Int) = true := by decide
    have hlp : p < ν.length := (List.getElem?_eq_some_iff.mp hp).1
    have r4 := range_map 4
    obtain ⟨σ', μ', e1, a6', j1, j2⟩ := for_vals_inv (xs := (List.range 4).map fun j => D.int (j : Nat)) (σ := [some (.tup [.int w, .int h]), some (.ptr p), some (rowsD r), some (.int place), some (.int ((place / w : Nat) : Int)), some (.int ((place % w : Nat) : Int)), a6, none]) (μ := ν)
      (f := gBody (callK Gam fu k) fu none 6 wayBody)
      (fun i σ' μ' => ∃ a6', σ' = [some (.tup [.int w, .int h]), some (.ptr p), some (rowsD r), some (.int place), some (.int ((place / w : Nat) : Int)), some (.int ((place % w : Nat) : Int)), a6', none] ∧ μ' = ν.set p (.lst (acc ++ (((List.range 4).take i).flatMap fun way => (List.range (w * h + 1)).map fun held => (⟨r, place / w, place % w, way, held⟩ : Sc)).map scD)))
      (fun i σ' μ' hi ⟨a6', h2, h3⟩ => by
        subst h2; subst h3
        have hi4 : i < 4 := by simpa using hi
        have hlen : (((List.range 4).take i).flatMap fun way => (List.range (w * h + 1)).map fun held => (⟨r, place / w, place % w, way, held⟩ : Sc)).length ≤ 4 * 37 := by
          have : ∀ l : List Nat, (l.flatMap fun way => (List.range (w * h + 1)).map fun held => (⟨r, place / w, place % w, way, held⟩ : Sc)).length = l.length * (w * h + 1) := by
            intro l
            induction l with
            | nil => simp
            | cons a l ih => rw [List.flatMap_cons, List.length_append, ih, List.length_map, List.length_range, List.length_cons, Nat.succ_mul]; omega
          rw [this]
          refine Nat.mul_le_mul ?_ (by omega)
          rw [List.length_take]; omega
        have e := way_turn (fu := fu) (k := k) (w := w) (h := h) (p := p) (row := place / w) (col := place % w) (way := i) (rd := rowsD r) (a3 := some (.int place)) (a6 := a6') (ν := ν.set p (.lst (acc ++ (((List.range 4).take i).flatMap fun way => (List.range (w * h + 1)).map fun held => (⟨r, place / w, place % w, way, held⟩ : Sc)).map scD))) hw hh (get_set hlp) (by rw [List.length_append, List.length_map]; omega)
        refine ⟨_, _, by rw [List.getElem_map, List.getElem_range]; exact e, _, rfl, ?_⟩
        rw [List.set_set, List.take_succ_eq_append_getElem (by simpa using hi4), List.flatMap_append, List.map_append, List.append_assoc]
        congr 4
        simp [scD, Function.comp_def])
      ⟨a6, rfl, by simp; exact (set_same hp).symm⟩
    refine ⟨some (.int ((place / w : Nat) : Int)), some (.int ((place % w : Nat) : Int)), a6', ?_⟩
    subst j1; subst j2
    rw [List.length_map, List.length_range, List.take_of_length_le (by simp)] at e1
    clear hc hb hps
    walk_at "fhs"
theorem flat_bound {A B : Type} {f : A → List B} {n : Nat} (h : ∀ a, (f a).length ≤ n) : ∀ l : List A, (l.flatMap f).length ≤ l.length * n
  | [] => by simp
  | a :: l => by
    rw [List.flatMap_cons, List.length_append, List.length_cons, Nat.succ_mul]
    have := flat_bound h l
    have := h a
    omega
theorem placeScenes_len {w h : Nat} (hw : w ≤ 6) (hh : h ≤ 6) (r : Rows) (place : Nat) : (placeScenes w h r place).length ≤ 148 := by
  unfold placeScenes
  have hwh : w * h ≤ 36 := Nat.mul_le_mul hw hh
  split
  · simp
  · have := flat_bound (f := fun way => (List.range (w * h + 1)).map fun held => (⟨r, place / w, place % w, way, held⟩ : Sc)) (n := 37) (fun a => by simp; omega) (List.range 4)
    simp only [List.length_range] at this
    omega
theorem scene_rows {w h p : Nat} {r : Rows} {a2 a3 a4 a5 a6 : Option D} {acc : List D} {ν : Store} (hw1 : 1 ≤ w) (hw : w ≤ 6) (hh : h ≤ 6) (hr : r ∈ allRows w h) (hp : ν[p]? = some (.lst acc)) (h1 : acc.length + 6000 ≤ lineMax) :
    ∃ b3 b4 b5 b6, gBody (callK Gam fu k) fu none 2 (.cons (.for_ 3 (.rng (.cons (.bin .Mult (.idx (.var 0) (.con (.int 0))) (.idx (.var 0) (.con (.int 1)))) .nil)) placeBody) .nil) (rowsD r) [some (.tup [.int w, .int h]), some (.ptr p), a2, a3, a4, a5, a6, none] ν
      = .nx [some (.tup [.int w, .int h]), some (.ptr p), some (rowsD r), b3, b4, b5, b6, none] (ν.set p (.lst (acc ++ ((List.range (w * h)).flatMap fun place => placeScenes w h r place).map scD))) := by
  have hwh : w * h ≤ 36 := Nat.mul_le_mul hw hh
  have e0 : (w : Int) * h = ((w * h : Nat) : Int) := by rw [Int.natCast_mul]
  have hb := big_nat (n := w * h) (by omega)
  have hsm : smallI (w : Int) = true := Nat.ble_eq_true_of_le (by omega)
  have hrm := range_map (w * h)
  have hlp : p < ν.length := (List.getElem?_eq_some_iff.mp hp).1
  obtain ⟨σ', μ', e1, b3, b4, b5, b6, j1, j2⟩ := for_vals_inv (xs := (List.range (w * h)).map fun j => D.int (j : Nat)) (σ := [some (.tup [.int w, .int h]), some (.ptr p), some (rowsD r), a3, a4, a5, a6, none]) (μ := ν)
    (f := gBody (callK Gam fu k) fu none 3 placeBody)
    (fun i σ' μ' => ∃ b3 b4 b5 b6, σ' = [some (.tup [.int w, .int h]), some (.ptr p), some (rowsD r), b3, b4, b5, b6, none] ∧ μ' = ν.set p (.lst (acc ++ (((List.range (w * h)).take i).flatMap fun place => placeScenes w h r place).map scD)))
    (fun i σ' μ' hi ⟨b3, b4, b5, b6, h2, h3⟩ => by
      subst h2; subst h3
      have hi4 : i < w * h := by simpa using hi
      have hlen := flat_bound (f := fun place => placeScenes w h r place) (n := 148) (placeScenes_len hw hh r) ((List.range (w * h)).take i)
      rw [List.length_take, List.length_range, Nat.min_eq_left (by omega)] at hlen
      have hlen2 : i * 148 ≤ 36 * 148 := Nat.mul_le_mul_right _ (by omega)
      obtain ⟨c4, c5, c6, e⟩ := place_turn (fu := fu) (k := k) (w := w) (h := h) (p := p) (place := i) (r := r) (a3 := b3) (a4 := b4) (a5 := b5) (a6 := b6) (ν := ν.set p (.lst (acc ++ (((List.range (w * h)).take i).flatMap fun place => placeScenes w h r place).map scD))) hw1 hw hh hr hi4 (get_set hlp) (by rw [List.length_append, List.length_map]; omega)
      refine ⟨_, _, by rw [List.getElem_map, List.getElem_range]; exact e, _, c4, c5, c6, rfl, ?_⟩
      rw [List.set_set, List.take_succ_eq_append_getElem (by simpa using hi4), List.flatMap_append, List.map_append, List.append_assoc]
      congr 4
      simp)
    ⟨a3, a4, a5, a6, rfl, by simp; exact (set_same hp).symm⟩
  subst j1; subst j2
  rw [List.length_map, List.length_range, List.take_of_length_le (by simp)] at e1
  refine ⟨b3, b4, b5, b6, ?_⟩
  walk_at "fhs"
theorem all_scenes_ok {w h : Nat} (hw1 : 1 ≤ w) (hh1 : 1 ≤ h) (hc : w * h ≤ 4) : ∃ ν q, callK Gam fu (k + 2) .all_scenes [.tup [.int w, .int h]] μ = .ok (.ptr q) (μ ++ ν) ∧ (μ ++ ν)[q]? = some (.lst ((scenesL w h).map scD)) := by
  have hw : w ≤ 4 := Nat.le_trans (Nat.le_mul_of_pos_right w hh1) hc
  have hh : h ≤ 4 := Nat.le_trans (Nat.le_mul_of_pos_left h hw1) hc
  have hs : (3 ^ w) ^ h ≤ 100 := by rw [← Nat.pow_mul]; exact Nat.le_trans (Nat.pow_le_pow_right (by omega) hc) (by decide)
  rw [c_all_scenes]
  unfold B_all_scenes
  obtain ⟨ν, q, e, hq⟩ := all_rows_ok (μ := μ ++ [.lst []]) (fu := fu) (k := k) (by omega) hh1 (by omega) (Nat.le_trans hs (by decide))
  have hp : (μ ++ [O.lst []] ++ ν)[μ.length]? = some (.lst []) := by
    rw [List.getElem?_append_left (by simp)]; exact get_app
  have hne : (D.ptr q) ≠ .ptr μ.length := by
    intro z
    cases z
    rw [hp] at hq
    have : (allRows w h).length = 0 := by
      have := congrArg (fun o : Option O => match o with | some (.lst xs) => xs.length | _ => 7) hq
      simpa using this.symm
    rw [allRows, rowsL_len, linesL_count] at this
    have h0 : 0 < (3 ^ w) ^ h := Nat.pow_pos (Nat.pow_pos (by omega))
    omega
  have hl : listOf (μ ++ [O.lst []] ++ ν) (.ptr q) = some ((allRows w h).map rowsD) := by simp only [lst_ptr, hq]
  have hlp : μ.length < (μ ++ [O.lst []] ++ ν).length := (List.getElem?_eq_some_iff.mp hp).1
  have hall : (allRows w h).length ≤ 100 := by rw [allRows, rowsL_len, linesL_count]; exact hs
  have hb : ∀ r, ((List.range (w * h)).flatMap fun place => placeScenes w h r place).length ≤ 600 := fun r => by
    have := flat_bound (f := fun place => placeScenes w h r place) (n := 148) (placeScenes_len (by omega) (by omega) r) (List.range (w * h))
    rw [List.length_range] at this
    have h2 : w * h * 148 ≤ 4 * 148 := Nat.mul_le_mul_right _ hc
    omega
  obtain ⟨σ', μ', e1, b2, b3, b4, b5, b6, j1, j2⟩ := for_list_inv (f := gBody (callK Gam fu (k + 1)) fu none 2 (.cons (.for_ 3 (.rng (.cons (.bin .Mult (.idx (.var 0) (.con (.int 0))) (.idx (.var 0) (.con (.int 1)))) .nil)) placeBody) .nil))
    (σ := [some (.tup [.int w, .int h]), some (.ptr μ.length), none, none, none, none, none, none]) hl
    (fun i σ' μ' => ∃ b2 b3 b4 b5 b6, σ' = [some (.tup [.int w, .int h]), some (.ptr μ.length), b2, b3, b4, b5, b6, none] ∧ μ' = (μ ++ [O.lst []] ++ ν).set μ.length (.lst ((((allRows w h).take i).flatMap fun rows => (List.range (w * h)).flatMap fun place => placeScenes w h rows place).map scD)))
    (fun i σ' μ' ⟨_, _, _, _, _, _, h3⟩ => by rw [h3]; exact listOf_set hl hne)
    (fun i σ' μ' hi ⟨b2, b3, b4, b5, b6, h2, h3⟩ => by
      subst h2; subst h3
      have hi4 : i < (allRows w h).length := by simpa using hi
      have hlen := flat_bound (f := fun rows => (List.range (w * h)).flatMap fun place => placeScenes w h rows place) (n := 600) hb ((allRows w h).take i)
      rw [List.length_take, Nat.min_eq_left (by omega)] at hlen
      have hlen2 : i * 600 ≤ 100 * 600 := Nat.mul_le_mul_right _ (by omega)
      obtain ⟨c3, c4, c5, c6, e⟩ := scene_rows (fu := fu) (k := k + 1) (w := w) (h := h) (p := μ.length) (r := (allRows w h)[i]) (a2 := b2) (a3 := b3) (a4 := b4) (a5 := b5) (a6 := b6) (ν := (μ ++ [O.lst []] ++ ν).set μ.length (.lst ((((allRows w h).take i).flatMap fun rows => (List.range (w * h)).flatMap fun place => placeScenes w h rows place).map scD))) hw1 (by omega) (by omega) (List.getElem_mem hi4) (get_set hlp) (by rw [List.length_map, lineMax_eq]; omega)
      refine ⟨_, _, by rw [List.getElem_map]; exact e, _, c3, c4, c5, c6, rfl, ?_⟩
      rw [List.set_set, List.take_succ_eq_append_getElem hi4, List.flatMap_append, List.map_append]
      congr 4
      simp)
    ⟨none, none, none, none, none, rfl, by simp only [List.take_zero, List.flatMap_nil, List.map_nil]; exact (set_same hp).symm⟩
  subst j1; subst j2
  rw [List.length_map, List.take_length] at e1
  have hfin : (μ ++ [O.lst []] ++ ν).set μ.length (.lst ((scenesL w h).map scD)) = μ ++ ([.lst ((scenesL w h).map scD)] ++ ν) := by
    rw [List.append_assoc, List.set_append_right _ _ (Nat.le_refl _)]
    simp
  refine ⟨[.lst ((scenesL w h).map scD)] ++ ν, μ.length, ?_, ?_⟩
  · rw [← hfin]
    walk_at "fh"
    simp only [e]
    walk_at "fh"
    simp only [src_ptr] at e1
    rw [e1]
    walk_at "fh"
    rfl
  · simp
end
/-! The empty program; k07. -/
section
variable {μ : Store} {fu k : Nat}
theorem need_empty : callK Gam fu (k + 2) .need_program [.tup []] μ = .ok .non μ := by
  have h1 : callK Gam fu (k + 1) .are_steps [.tup [], .int 0] μ = .ok (.bl true) μ := by
    rw [c_are_steps]
    unfold B_are_steps
    walk_at "fh"
    simp only [for_vals, forV]
    walk_at "fh"
  have h2 : callK Gam fu (k + 1) .count_ [.tup []] μ = .ok (.int 0) μ := by
    rw [c_count_]
    unfold B_count_
    walk_at "fh"
    simp only [lcV, sumD, intsOf, lst_lst']
    walk_at "fh"
    simp only [sumD, intsOf, lst_lst']
    walk_at "fh"
    rfl
  rw [c_need_program]
  unfold B_need_program
  have h3 : ¬ (30 : Int) < 0 := by decide
  walk_at "fhs"
theorem lines_empty : callK Gam fu (k + 1) .lines_of [.tup [], .int 0] μ = .ok (.ptr μ.length) (μ ++ [.lst []]) := by
  rw [c_lines_of]
  unfold B_lines_of
  walk_at "fh"
  simp only [for_vals, forV]
  walk_at "fh"
/-- the fields of a run -/
abbrev runF (ld : D) (at_ : Int) (s : D) (n : Int) (m o a : D) : List (Fld × D) := [(.lines, ld), (.at_, .int at_), (.scene, s), (.doings, .int n), (.met, m), (.outcome, o), (.around, a)]
theorem get_mid {μ ν : Store} {o : O} : (μ ++ [o] ++ ν)[μ.length]? = some o := by
  rw [List.getElem?_append_left (by simp)]; exact get_app
theorem set_mid {μ ν : Store} {o o' : O} : (μ ++ [o] ++ ν).set μ.length o' = μ ++ [o'] ++ ν := by
  rw [List.append_assoc, List.set_append_right _ _ (Nat.le_refl _)]
  simp
theorem app_mid {μ ν : Store} {o o' : O} : μ ++ [o] ++ ν ++ [o'] = μ ++ [o] ++ (ν ++ [o']) := by simp
theorem run_init {pr ld s : D} {ν : Store} (hl : callK Gam fu (k + 1) .lines_of [pr, .int 0] (μ ++ [O.ins []]) = .ok ld (μ ++ [O.ins []] ++ ν)) :
    callK Gam fu (k + 2) .Run_init [.ptr μ.length, pr, s] (μ ++ [O.ins []]) = .ok .non (μ ++ [O.ins (runF ld 0 s 0 (.ptr (μ ++ [O.ins []] ++ ν).length) .non .non)] ++ (ν ++ [O.dic []])) := by
  rw [c_Run_init]
  unfold B_Run_init
  have e1 : ∀ o, (μ ++ [o] ++ ν).length = (μ ++ [O.ins []] ++ ν).length := fun o => by simp
  walk_at "fh"
  simp only [hl]
  repeat (first | (simp only [get_mid, set_mid, app_mid]) | walk_at "fh")
  rw [e1]
theorem run_made {pr ld s : D} {ν : Store} (hl : callK Gam fu (k + 1) .lines_of [pr, .int 0] (μ ++ [O.ins []]) = .ok ld (μ ++ [O.ins []] ++ ν)) {cx : Option (Cl × D)} {σ : Env} :
    fMake (callK Gam fu (k + 2)) .Run_init [pr, s] μ = .ok (.ptr μ.length) (μ ++ [O.ins (runF ld 0 s 0 (.ptr (μ ++ [O.ins []] ++ ν).length) .non .non)] ++ (ν ++ [O.dic []])) := by
  rw [fMake, run_init hl]
  walk_at "fh"
theorem run_empty {s : D} (hfu : 3 ≤ fu) : ∃ ν a, callK Gam fu (k + 4) .run_of [.tup [], s] μ = .ok (.ptr μ.length) (μ ++ [O.ins (runF (.ptr (μ ++ [O.ins []]).length) 0 s 0 a (.tup [.str [100, 111, 110, 101], s]) .non)] ++ ν) := by
  obtain ⟨f, rfl⟩ : ∃ f, fu = f + 3 := ⟨fu - 3, by omega⟩
  have hl := lines_empty (μ := μ ++ [O.ins []]) (fu := f + 3) (k := k + 1)
  have hm := run_made (s := s) (cx := none) (σ := []) (μ := μ) (k := k + 1) hl
  refine ⟨[O.lst []] ++ [O.dic []], .ptr (μ ++ [O.ins []] ++ [O.lst []]).length, ?_⟩
  have hg : ∀ o : O, (μ ++ [o] ++ ([O.lst []] ++ [O.dic []]))[(μ ++ [O.ins []]).length]? = some (.lst []) := fun o => by simp
  have hgo : callK Gam (f + 3) (k + 2) .Run_go_on [.ptr μ.length] (μ ++ [O.ins (runF (.ptr (μ ++ [O.ins []]).length) 0 s 0 (.ptr (μ ++ [O.ins []] ++ [O.lst []]).length) .non .non)] ++ ([O.lst []] ++ [O.dic []]))
      = .ok .non (μ ++ [O.ins (runF (.ptr (μ ++ [O.ins []]).length) 0 s 0 (.ptr (μ ++ [O.ins []] ++ [O.lst []]).length) (.tup [.str [100, 111, 110, 101], s]) .non)] ++ ([O.lst []] ++ [O.dic []])) := by
    rw [c_Run_go_on]
    unfold B_Run_go_on
    have hz : eqD (μ ++ [O.ins (runF (.ptr (μ ++ [O.ins []]).length) 0 s 0 (.ptr (μ ++ [O.ins []] ++ [O.lst []]).length) .non .non)] ++ ([O.lst []] ++ [O.dic []])) (.int 0) (.int ((0 : Nat) : Int)) = some true := by rw [eqD_int]; rfl
    have hn : ¬ (0 : Int) < ((0 : Nat) : Int) := by decide
    walk_at "fh"
    repeat (first | (simp only [get_mid, set_mid, hg, hn, hz]) | walk_at "fh")
  have hst : callK Gam (f + 3) (k + 3) .Run_step [.ptr μ.length] (μ ++ [O.ins (runF (.ptr (μ ++ [O.ins []]).length) 0 s 0 (.ptr (μ ++ [O.ins []] ++ [O.lst []]).length) .non .non)] ++ ([O.lst []] ++ [O.dic []]))
      = .ok (.bl false) (μ ++ [O.ins (runF (.ptr (μ ++ [O.ins []]).length) 0 s 0 (.ptr (μ ++ [O.ins []] ++ [O.lst []]).length) (.tup [.str [100, 111, 110, 101], s]) .non)] ++ ([O.lst []] ++ [O.dic []])) := by
    rw [c_Run_step]
    unfold B_Run_step
    walk_at "fh"
    repeat (first | (simp only [get_mid, set_mid, hgo]) | walk_at "fh")
  rw [c_run_of]
  unfold B_run_of
  simp only [s_cons, s_asg, v_make, v_cons, v_nil, v_var, fCons1, fCons2, List.getElem?_cons_zero, List.getElem?_cons_succ, Option.bind_some, id_eq, Res.of_some, Res.bind_ok, hm, Res.out_ok, gAsg, Out.seq_nx]
  repeat (first | (simp only [get_mid, set_mid, hst]) | walk_at "fh")
end
/-! Scenes: the cell ahead, asks, doings. -/
/-- rows of W cells, H of them -/
structure Grid (rows : Rows) (W H : Nat) : Prop where
  len : rows.length = H
  each : ∀ l ∈ rows, l.length = W
  sign : ∀ l ∈ rows, ∀ c ∈ l, c = 35 ∨ c = 111 ∨ c = 46
  w1 : 1 ≤ W
  w6 : W ≤ 6
  h1 : 1 ≤ H
  h6 : H ≤ 6
/-- a scene in which the hand may stand -/
structure Fit (s : Sc) (W H : Nat) : Prop where
  g : Grid s.rows W H
  r : s.r < H
  c : s.c < W
  w : s.w < 4
  free : cellN s.rows s.r s.c ≠ 35
def rowN (rows : Rows) (i : Nat) : List Nat := rows.getD i []
theorem cellN_eq (rows : Rows) (i j : Nat) : cellN rows i j = (rowN rows i).getD j 0 := rfl
section
variable {rows : Rows} {W H i j : Nat}
theorem Grid.row (g : Grid rows W H) (hi : i < H) : rows[i]? = some (rowN rows i) ∧ rowN rows i ∈ rows := by
  have h : i < rows.length := by rw [g.len]; exact hi
  have e : rowN rows i = rows[i] := by simp [rowN, List.getD_eq_getElem?_getD, List.getElem?_eq_getElem h]
  rw [e, List.getElem?_eq_getElem h]
  exact ⟨rfl, List.getElem_mem h⟩
theorem Grid.rlen (g : Grid rows W H) (hi : i < H) : (rowN rows i).length = W := g.each _ (g.row hi).2
theorem Grid.cell (g : Grid rows W H) (hi : i < H) (hj : j < W) : (rowN rows i)[j]? = some (cellN rows i j) := by
  have h : j < (rowN rows i).length := by rw [g.rlen hi]; exact hj
  rw [cellN_eq, List.getD_eq_getElem?_getD, List.getElem?_eq_getElem h]
  rfl
theorem Grid.csign (g : Grid rows W H) (hi : i < H) (hj : j < W) : cellN rows i j = 35 ∨ cellN rows i j = 111 ∨ cellN rows i j = 46 := g.sign _ (g.row hi).2 _ (List.mem_of_getElem? (g.cell hi hj))
theorem Grid.P (g : Grid rows W H) : RowsP rows := fun l hl c hc => by have := g.sign l hl c hc; omega
theorem Grid.rlm (g : Grid rows W H) (hi : i < H) : (rowN rows i).length ≤ lineMax := by rw [g.rlen hi, lineMax_eq]; have := g.w6; omega
theorem Grid.idx1 (g : Grid rows W H) (ν : Store) (hi : i < H) : idxD ν (rowsD rows) (.int (i : Nat)) = some (.str (rowN rows i)) := by
  rw [rowsD, idx_tup, atI_nat, List.getElem?_map, (g.row hi).1]; rfl
theorem Grid.idx2 (g : Grid rows W H) (ν : Store) (hi : i < H) (hj : j < W) : idxD ν (.str (rowN rows i)) (.int (j : Nat)) = some (.str [cellN rows i j]) := by
  rw [idx_str, if_pos (g.rlm hi), atI_nat, g.cell hi hj]; rfl
theorem Grid.lenD (g : Grid rows W H) (ν : Store) : FH.lenD ν [rowsD rows] = some (.int H) := by
  rw [rowsD, len_tup, List.length_map, g.len]
theorem Grid.lenR (g : Grid rows W H) (ν : Store) (hi : i < H) : FH.lenD ν [.str (rowN rows i)] = some (.int W) := by
  rw [len_str, if_pos (g.rlm hi), g.rlen hi]
theorem Grid.eqC (g : Grid rows W H) (ν : Store) (hi : i < H) (hj : j < W) {x : Nat} (hx : x < 128) : eqD ν (.str [cellN rows i j]) (.str [x]) = some (decide (cellN rows i j = x)) := by
  have h := g.csign hi hj
  rw [eqD_str ν _ _ (ascii_ok (by omega)) (ascii_ok hx)]
  congr 1
  rw [Bool.eq_iff_iff]
  simp
end
def dr : Nat → Int
  | 0 => 0
  | 1 => 1
  | 2 => 0
  | _ => -1
def dc : Nat → Int
  | 0 => 1
  | 1 => 0
  | 2 => -1
  | _ => 0
def tgt (rows : Rows) (R C : Int) : Option (Nat × Nat) :=
  if 0 ≤ R ∧ 0 ≤ C then (match (rowN rows R.toNat)[C.toNat]? with | some x => if x = 35 then none else some (R.toNat, C.toNat) | none => none) else none
def ahead (s : Sc) : Option (Nat × Nat) := tgt s.rows (s.r + dr s.w) (s.c + dc s.w)
def optD {α : Type} (f : α → D) : Option α → D
  | none => .non
  | some a => f a
abbrev pairD (p : Nat × Nat) : D := .tup [.int p.1, .int p.2]
theorem steps_at (ν : Store) : ∀ {w : Nat}, w < 4 → idxD ν (gval .STEPS) (.int w) = some (.tup [.int (dr w), .int (dc w)])
  | 0, _ => rfl
  | 1, _ => rfl
  | 2, _ => rfl
  | 3, _ => rfl
  | w + 4, h => by omega
theorem tgt_in {rows : Rows} {W H i j : Nat} (g : Grid rows W H) (hi : i < H) (hj : j < W) : tgt rows i j = if cellN rows i j = 35 then none else some (i, j) := by
  unfold tgt
  rw [if_pos ⟨by omega, by omega⟩, Int.toNat_natCast, Int.toNat_natCast, g.cell hi hj]
theorem rowN_out {rows : Rows} {W H i : Nat} (g : Grid rows W H) (h : H ≤ i) : rowN rows i = [] := by
  unfold rowN
  rw [List.getD_eq_getElem?_getD, List.getElem?_eq_none (by rw [g.len]; exact h)]
  rfl
theorem tgt_out {rows : Rows} {W H : Nat} {R C : Int} (g : Grid rows W H) (h : ¬ (0 ≤ R ∧ R < H ∧ 0 ≤ C ∧ C < W)) : tgt rows R C = none := by
  unfold tgt
  by_cases h1 : 0 ≤ R ∧ 0 ≤ C
  · rw [if_pos h1]
    by_cases h2 : R < H
    · have h3 : ¬ C < W := fun h3 => h ⟨h1.1, h2, h1.2, h3⟩
      rw [List.getElem?_eq_none (by rw [g.rlen (by omega)]; omega)]
    · rw [rowN_out g (by omega)]
      rfl
  · rw [if_neg h1]
section
variable {μ : Store} {fu k W H : Nat} {s : Sc}
theorem cell_ahead_ok (h : Fit s W H) : callK Gam fu (k + 1) .cell_ahead [scD s] μ = .ok (optD pairD (ahead s)) μ := by
  rw [c_cell_ahead]
  unfold B_cell_ahead scD ahead
  have i0 : idxD μ (rowsD s.rows) (.int 0) = some (.str (rowN s.rows 0)) := h.g.idx1 μ (i := 0) (by have := h.g.h1; omega)
  have l0 := h.g.lenR μ (i := 0) (by have := h.g.h1; omega)
  have l1 := h.g.lenD μ
  have st := steps_at μ h.w
  rw [gval] at st
  generalize hR : (s.r : Int) + dr s.w = R
  generalize hC : (s.c : Int) + dc s.w = C
  by_cases c1 : 0 ≤ R
  · by_cases c2 : R < H
    · by_cases c3 : 0 ≤ C
      · by_cases c4 : C < W
        · obtain ⟨i, rfl⟩ := Int.eq_ofNat_of_zero_le c1
          obtain ⟨j, rfl⟩ := Int.eq_ofNat_of_zero_le c3
          have hi : i < H := by omega
          have hj : j < W := by omega
          have i1 := h.g.idx1 μ hi
          have i2 := h.g.idx2 μ hi hj
          have q := h.g.eqC μ hi hj (x := 35) (by decide)
          rw [tgt_in h.g hi hj]
          by_cases c5 : cellN s.rows i j = 35
          · rw [decide_eq_true c5] at q
            rw [if_pos c5]
            clear c5
            walk_at "fhs"
            rfl
          · rw [decide_eq_false c5] at q
            rw [if_neg c5]
            clear c5
            walk_at "fhs"
            rfl
        · rw [tgt_out h.g (by omega)]
          walk_at "fhs"
          rfl
      · rw [tgt_out h.g (by omega)]
        walk_at "fhs"
        rfl
    · rw [tgt_out h.g (by omega)]
      walk_at "fhs"
      rfl
  · rw [tgt_out h.g (by omega)]
    walk_at "fhs"
    rfl
end
/-! Asks and doings. -/
inductive Wd where
  | go | put | take | turn
  deriving DecidableEq
def Wd.c : Wd → List Nat
  | .go => [103, 111]
  | .put => [112, 117, 116]
  | .take => [116, 97, 107, 101]
  | .turn => [116, 117, 114, 110]
inductive Ak where
  | held | opn | stone
  deriving DecidableEq
def Ak.c : Ak → List Nat
  | .held => [104, 101, 108, 100]
  | .opn => [111, 112, 101, 110]
  | .stone => [115, 116, 111, 110, 101]
theorem eqL (ν : Store) (a b : List Nat) (h : (a ++ b).all (· < 128) = true) : eqD ν (.str a) (.str b) = some (decide (a = b)) := by
  have h' : ∀ x ∈ a ++ b, x < 128 := fun x hx => by simpa using List.all_eq_true.mp h x hx
  rw [eqD_str ν a b (List.all_eq_true.mpr fun x hx => by have := h' x (List.mem_append_left _ hx); simp; omega) (List.all_eq_true.mpr fun x hx => by have := h' x (List.mem_append_right _ hx); simp; omega)]
  congr 1
  rw [Bool.eq_iff_iff]
  simp
theorem eqW (ν : Store) (a b : Wd) : eqD ν (.str a.c) (.str b.c) = some (decide (a = b)) := by
  rw [eqL ν _ _ (by cases a <;> cases b <;> decide)]
  cases a <;> cases b <;> rfl
theorem eqA (ν : Store) (a b : Ak) : eqD ν (.str a.c) (.str b.c) = some (decide (a = b)) := by
  rw [eqL ν _ _ (by cases a <;> cases b <;> decide)]
  cases a <;> cases b <;> rfl
def so (s : Sc) : Ak → Bool
  | .held => decide (0 < s.h)
  | .opn => (ahead s).isSome
  | .stone => decide (cellN s.rows s.r s.c = 111)
def setCell (rows : Rows) (i j x : Nat) : Rows := rows.set i ((rowN rows i).set j x)
def doing (s : Sc) : Wd → Option Sc
  | .turn => some { s with w := (s.w + 1) % 4 }
  | .go => (ahead s).map fun p => { s with r := p.1, c := p.2 }
  | .take => if cellN s.rows s.r s.c = 111 then some { s with rows := setCell s.rows s.r s.c 46, h := s.h + 1 } else none
  | .put => if cellN s.rows s.r s.c = 111 ∨ s.h = 0 then none else some { s with rows := setCell s.rows s.r s.c 111, h := s.h - 1 }
theorem cut_take {α : Type} (xs : List α) (n : Nat) : cut xs none (some (n : Int)) = xs.take n := by
  unfold cut sIx
  simp only [List.drop_zero, Nat.sub_zero]
  rw [if_neg (by omega), Int.toNat_natCast]
  by_cases h : n ≤ xs.length
  · rw [Nat.min_eq_left h]
  · rw [Nat.min_eq_right (by omega), List.take_of_length_le (Nat.le_refl _), List.take_of_length_le (by omega)]
theorem cut_drop {α : Type} (xs : List α) (n : Nat) : cut xs (some ((n : Int) + 1)) none = xs.drop (n + 1) := by
  unfold cut sIx
  simp only
  rw [if_neg (by omega), show (n : Int) + 1 = ((n + 1 : Nat) : Int) by omega, Int.toNat_natCast]
  by_cases h : n + 1 ≤ xs.length
  · rw [Nat.min_eq_left h, List.take_of_length_le (by rw [List.length_drop]; omega)]
  · rw [Nat.min_eq_right (by omega), List.drop_of_length_le (Nat.le_refl _), List.drop_of_length_le (by omega)]
    simp
theorem cut_one {α : Type} (xs : List α) (n : Nat) : cut xs (some (n : Int)) (some ((n : Int) + 1)) = (xs.drop n).take 1 := by
  unfold cut sIx
  simp only
  rw [if_neg (by omega), if_neg (by omega), show (n : Int) + 1 = ((n + 1 : Nat) : Int) by omega, Int.toNat_natCast, Int.toNat_natCast]
  by_cases h : n + 1 ≤ xs.length
  · rw [Nat.min_eq_left h, Nat.min_eq_left (by omega)]
    congr 1
    omega
  · rw [Nat.min_eq_right (by omega), Nat.min_eq_right (by omega), List.drop_of_length_le (Nat.le_refl _), List.drop_of_length_le (by omega)]
    simp
section
variable {rows : Rows} {W H i j x : Nat}
theorem setCell_split (g : Grid rows W H) (hi : i < H) (hj : j < W) : (rows.take i).map D.str ++ [D.str ((rowN rows i).take j ++ [x] ++ (rowN rows i).drop (j + 1))] ++ (rows.drop (i + 1)).map D.str = (setCell rows i j x).map D.str := by
  unfold setCell
  rw [List.set_eq_take_append_cons_drop, if_pos (by rw [g.len]; exact hi), List.set_eq_take_append_cons_drop, if_pos (by rw [g.rlen hi]; exact hj)]
  simp
theorem Grid.set (g : Grid rows W H) (hi : i < H) (hx : x = 35 ∨ x = 111 ∨ x = 46) : Grid (setCell rows i j x) W H where
  len := by rw [setCell, List.length_set, g.len]
  each l hl := by
    rcases List.mem_or_eq_of_mem_set hl with h | rfl
    · exact g.each l h
    · rw [List.length_set, g.rlen hi]
  sign l hl c hc := by
    rcases List.mem_or_eq_of_mem_set hl with h | rfl
    · exact g.sign l h c hc
    · rcases List.mem_or_eq_of_mem_set hc with h | rfl
      · exact g.sign _ (g.row hi).2 c h
      · exact hx
  w1 := g.w1
  w6 := g.w6
  h1 := g.h1
  h6 := g.h6
theorem cellN_set (g : Grid rows W H) (hi : i < H) (hj : j < W) : cellN (setCell rows i j x) i j = x := by
  have h1 : i < rows.length := by rw [g.len]; exact hi
  have h2 : j < (rowN rows i).length := by rw [g.rlen hi]; exact hj
  rw [cellN_eq, rowN, setCell, List.getD_eq_getElem?_getD, List.getD_eq_getElem?_getD, List.getElem?_set_self h1]
  simp [h2]
theorem Grid.sl1 (ν : Store) (n : Nat) : slcV ν (rowsD rows) none (some (n : Int)) = some (.tup ((rows.take n).map .str)) := by
  rw [rowsD, slc_tup, cut_take, List.map_take]
theorem Grid.sl2 (ν : Store) (n : Nat) : slcV ν (rowsD rows) (some ((n : Int) + 1)) none = some (.tup ((rows.drop (n + 1)).map .str)) := by
  rw [rowsD, slc_tup, cut_drop, List.map_drop]
theorem Grid.sl3 (g : Grid rows W H) (hi : i < H) (ν : Store) (n : Nat) : slcV ν (.str (rowN rows i)) none (some (n : Int)) = some (.str ((rowN rows i).take n)) := by
  rw [slc_str, if_pos (g.rlm hi), cut_take]
theorem Grid.sl4 (g : Grid rows W H) (hi : i < H) (ν : Store) (n : Nat) : slcV ν (.str (rowN rows i)) (some ((n : Int) + 1)) none = some (.str ((rowN rows i).drop (n + 1))) := by
  rw [slc_str, if_pos (g.rlm hi), cut_drop]
theorem Grid.ad1 (g : Grid rows W H) (hi : i < H) (ν : Store) (n : Nat) : binD ν .Add (.str ((rowN rows i).take n)) (.str [x]) = some (.str ((rowN rows i).take n ++ [x])) := by
  rw [add_str, if_pos (by rw [List.length_take, g.rlen hi, lineMax_eq, List.length_singleton]; have := g.w6; omega)]
theorem Grid.ad2 (g : Grid rows W H) (hi : i < H) (ν : Store) (n m : Nat) : binD ν .Add (.str ((rowN rows i).take n ++ [x])) (.str ((rowN rows i).drop m)) = some (.str ((rowN rows i).take n ++ [x] ++ (rowN rows i).drop m)) := by
  rw [add_str, if_pos (by rw [List.length_append, List.length_take, List.length_drop, g.rlen hi, lineMax_eq, List.length_singleton]; have := g.w6; omega)]
theorem Grid.ad3 (g : Grid rows W H) (ν : Store) (n : Nat) (d : D) : binD ν .Add (.tup ((rows.take n).map .str)) (.tup [d]) = some (.tup ((rows.take n).map .str ++ [d])) := by
  rw [add_tup, if_pos (by rw [List.length_map, List.length_take, g.len, lineMax_eq, List.length_singleton]; have := g.h6; omega)]
theorem Grid.ad4 (g : Grid rows W H) (ν : Store) (n m : Nat) (d : D) : binD ν .Add (.tup ((rows.take n).map .str ++ [d])) (.tup ((rows.drop m).map .str)) = some (.tup ((rows.take n).map .str ++ [d] ++ (rows.drop m).map .str)) := by
  rw [add_tup, if_pos (by rw [List.length_append, List.length_map, List.length_take, List.length_map, List.length_drop, g.len, lineMax_eq, List.length_singleton]; have := g.h6; omega)]
end
section
variable {μ : Store} {fu k W H : Nat} {s : Sc}
theorem with_sign_ok {rows : Rows} {i j x : Nat} (g : Grid rows W H) (hi : i < H) (hj : j < W) : callK Gam fu (k + 1) .with_sign [rowsD rows, .int i, .int j, .str [x]] μ = .ok (rowsD (setCell rows i j x)) μ := by
  rw [c_with_sign]
  unfold B_with_sign
  have i1 := g.idx1 μ hi
  have a1 := Grid.sl1 (rows := rows) μ i
  have a2 := Grid.sl2 (rows := rows) μ i
  have a3 := g.sl3 hi μ j
  have a4 := g.sl4 hi μ j
  have b1 := g.ad1 (x := x) hi μ j
  have b2 := g.ad2 (x := x) hi μ j (j + 1)
  have b3 := fun d => g.ad3 μ i d
  have b4 := fun d => g.ad4 μ i (i + 1) d
  have e := setCell_split (x := x) g hi hj
  walk_at "fhs"
  rfl
theorem is_so_ok (h : Fit s W H) (a : Ak) : callK Gam fu (k + 2) .is_so [scD s, .str a.c] μ = .ok (.bl (so s a)) μ := by
  have e := cell_ahead_ok (μ := μ) (fu := fu) (k := k) h
  rw [c_is_so]
  unfold B_is_so
  have hs : scD s = .tup [rowsD s.rows, .int s.r, .int s.c, .int s.w, .int s.h] := rfl
  rw [hs] at e ⊢
  clear hs
  have q1 : eqD μ (.str a.c) (.str [111, 112, 101, 110]) = some (decide (a = .opn)) := eqA μ a .opn
  have q2 : eqD μ (.str a.c) (.str [115, 116, 111, 110, 101]) = some (decide (a = .stone)) := eqA μ a .stone
  have i1 := h.g.idx1 μ h.r
  have i2 := h.g.idx2 μ h.r h.c
  have q := h.g.eqC μ h.r h.c (x := 111) (by decide)
  cases a with
  | held =>
    walk_at "fhs"
    simp [so]
  | opn =>
    cases ha : ahead s with
    | none =>
      rw [ha, optD] at e
      have hso : so s .opn = false := by simp [so, ha]
      clear ha
      walk_at "fhs"
    | some p =>
      rw [ha, optD] at e
      have hso : so s .opn = true := by simp [so, ha]
      clear ha
      walk_at "fhs"
  | stone =>
    walk_at "fhs"
    simp [so]
theorem behind_ok (h : Fit s W H) (w : Wd) : callK Gam fu (k + 2) .behind [scD s, .str w.c] μ = .ok (optD scD (doing s w)) μ := by
  have e := cell_ahead_ok (μ := μ) (fu := fu) (k := k) h
  have e2 := fun x => with_sign_ok (μ := μ) (fu := fu) (k := k) (x := x) h.g h.r h.c
  rw [c_behind]
  unfold B_behind
  have hs : scD s = .tup [rowsD s.rows, .int s.r, .int s.c, .int s.w, .int s.h] := rfl
  rw [hs] at e ⊢
  clear hs
  have q1 : eqD μ (.str w.c) (.str [116, 117, 114, 110]) = some (decide (w = .turn)) := eqW μ w .turn
  have q2 : eqD μ (.str w.c) (.str [103, 111]) = some (decide (w = .go)) := eqW μ w .go
  have q3 : eqD μ (.str w.c) (.str [116, 97, 107, 101]) = some (decide (w = .take)) := eqW μ w .take
  have i1 := h.g.idx1 μ h.r
  have i2 := h.g.idx2 μ h.r h.c
  have q := h.g.eqC μ h.r h.c (x := 111) (by decide)
  have q0 := eqD_int μ (s.h : Int) 0
  cases w with
  | turn =>
    walk_at "fhs"
    rw [if_pos (by decide)]
    walk_at "fhs"
    simp only [doing, optD, scD, Int.natCast_emod, Int.natCast_add]
    rfl
  | go =>
    cases ha : ahead s with
    | none =>
      rw [ha, optD] at e
      have hd : doing s .go = none := by simp [doing, ha]
      clear ha
      walk_at "fhs"
      rfl
    | some p =>
      rw [ha, optD] at e
      have hd : doing s .go = some { s with r := p.1, c := p.2 } := by simp [doing, ha]
      clear ha
      walk_at "fhs"
      rfl
  | take =>
    by_cases hc : cellN s.rows s.r s.c = 111
    · rw [decide_eq_true hc] at q
      have hd : doing s .take = some { s with rows := setCell s.rows s.r s.c 46, h := s.h + 1 } := by simp [doing, hc]
      clear hc
      walk_at "fhs"
      rfl
    · rw [decide_eq_false hc] at q
      have hd : doing s .take = none := by simp [doing, hc]
      clear hc
      walk_at "fhs"
      rfl
  | put =>
    by_cases hc : cellN s.rows s.r s.c = 111
    · rw [decide_eq_true hc] at q
      have hd : doing s .put = none := by simp [doing, hc]
      clear hc
      walk_at "fhs"
      rfl
    · rw [decide_eq_false hc] at q
      by_cases hh : s.h = 0
      · have hb : ((s.h : Int) == 0) = true := by simp [hh]
        rw [hb] at q0
        have hd : doing s .put = none := by simp [doing, hh]
        clear hc hh hb
        walk_at "fhs"
        rfl
      · have hb : ((s.h : Int) == 0) = false := by simp [hh]
        rw [hb] at q0
        have hd : doing s .put = some { s with rows := setCell s.rows s.r s.c 111, h := s.h - 1 } := by simp [doing, hc, hh]
        have e3 : ((s.h - 1 : Nat) : Int) = (s.h : Int) - 1 := by omega
        clear hc hh hb
        walk_at "fhs"
        simp only [optD, scD, e3]
theorem doing_fit {s' : Sc} {w : Wd} (h : Fit s W H) (e : doing s w = some s') : Fit s' W H := by
  cases w with
  | turn =>
    cases e
    exact ⟨h.g, h.r, h.c, Nat.mod_lt _ (by decide), h.free⟩
  | go =>
    simp only [doing, Option.map_eq_some_iff] at e
    obtain ⟨⟨i, j⟩, ha, rfl⟩ := e
    unfold ahead at ha
    by_cases hin : 0 ≤ (s.r : Int) + dr s.w ∧ (s.r : Int) + dr s.w < H ∧ 0 ≤ (s.c : Int) + dc s.w ∧ (s.c : Int) + dc s.w < W
    · obtain ⟨r', hr'⟩ := Int.eq_ofNat_of_zero_le hin.1
      obtain ⟨c', hc'⟩ := Int.eq_ofNat_of_zero_le hin.2.2.1
      rw [hr', hc'] at ha hin
      have h1 : r' < H := by omega
      have h2 : c' < W := by omega
      rw [tgt_in h.g h1 h2] at ha
      split at ha
      · cases ha
      · cases ha
        exact ⟨h.g, h1, h2, h.w, by assumption⟩
    · rw [tgt_out h.g hin] at ha
      cases ha
  | take =>
    simp only [doing] at e
    split at e
    · cases e
      exact ⟨h.g.set h.r (by decide), h.r, h.c, h.w, by rw [cellN_set h.g h.r h.c]; decide⟩
    · cases e
  | put =>
    simp only [doing] at e
    split at e
    · cases e
    · cases e
      exact ⟨h.g.set h.r (by decide), h.r, h.c, h.w, by rw [cellN_set h.g h.r h.c]; decide⟩
end
/-! The law's own look at scenes. -/
theorem inT (ν : Store) (a : List Nat) : inD ν (.str a) (.tup [.str [], .str [35]]) = some (decide (a = [] ∨ a = [35])) := by
  have h : inD ν (.str a) (.tup [.str [], .str [35]]) = some (([] == a) || (([35] == a) || false)) := rfl
  rw [h]
  congr 1
  rw [Bool.eq_iff_iff, Bool.or_false, Bool.or_eq_true, beq_iff_eq, beq_iff_eq, decide_eq_true_iff]
  exact ⟨fun h => h.imp Eq.symm Eq.symm, fun h => h.imp Eq.symm Eq.symm⟩
section
variable {μ : Store} {fu k W H : Nat} {s : Sc}
theorem dr_at (ν : Store) : ∀ {w : Nat}, w < 4 → idxD ν (.lst [.int 0, .int 1, .int 0, .int (0 - 1)]) (.int w) = some (.int (dr w))
  | 0, _ => rfl
  | 1, _ => rfl
  | 2, _ => rfl
  | 3, _ => rfl
  | w + 4, h => by omega
theorem dc_at (ν : Store) : ∀ {w : Nat}, w < 4 → idxD ν (.lst [.int 1, .int 0, .int (0 - 1), .int 0]) (.int w) = some (.int (dc w))
  | 0, _ => rfl
  | 1, _ => rfl
  | 2, _ => rfl
  | 3, _ => rfl
  | w + 4, h => by omega
theorem row_cut {rows : Rows} (g : Grid rows W H) (i : Nat) : ∃ ds, slcV μ (rowsD rows) (some (i : Int)) (some ((i : Int) + 1)) = some (.tup ds) ∧ binD μ .Add (.tup ds) (.tup [.str []]) = some (.tup (ds ++ [.str []])) ∧ idxD μ (.tup (ds ++ [.str []])) (.int 0) = some (.str (rowN rows i)) := by
  refine ⟨((rows.map D.str).drop i).take 1, ?_, ?_, ?_⟩
  · rw [rowsD, slc_tup, cut_one]
  · rw [add_tup, if_pos (by rw [List.length_take, lineMax_eq, List.length_singleton]; omega)]
  · rw [idx_tup, atI_0]
    by_cases h : i < H
    · have h1 : i < (rows.map D.str).length := by rw [List.length_map, g.len]; exact h
      rw [List.drop_eq_getElem_cons h1]
      simp only [List.take_succ_cons, List.take_zero, List.cons_append, List.getElem?_cons_zero, List.getElem_map]
      have := (g.row h).1
      rw [List.getElem?_eq_getElem (by rw [g.len]; exact h)] at this
      rw [Option.some.inj this]
    · rw [rowN_out g (by omega), List.drop_of_length_le (by rw [List.length_map, g.len]; omega)]
      rfl
theorem law_ahead_ok (h : Fit s W H) : callK Gam fu (k + 1) .law_ahead [scD s] μ = .ok (optD pairD (ahead s)) μ := by
  rw [c_law_ahead]
  unfold B_law_ahead scD ahead
  have st1 := dr_at μ h.w
  have st2 := dc_at μ h.w
  generalize hR : (s.r : Int) + dr s.w = R
  generalize hC : (s.c : Int) + dc s.w = C
  by_cases c1 : R < 0
  · rw [tgt_out h.g (by omega)]
    walk_at "fhs"
    rfl
  · by_cases c3 : C < 0
    · rw [tgt_out h.g (by omega)]
      walk_at "fhs"
      rfl
    · obtain ⟨i, rfl⟩ := Int.eq_ofNat_of_zero_le (show 0 ≤ R by omega)
      obtain ⟨j, rfl⟩ := Int.eq_ofNat_of_zero_le (show 0 ≤ C by omega)
      obtain ⟨ds, x1, x2, x3⟩ := row_cut (μ := μ) h.g i
      have hl : (rowN s.rows i).length ≤ lineMax := by
        by_cases hi : i < H
        · exact h.g.rlm hi
        · rw [rowN_out h.g (by omega)]; decide
      have x4 : slcV μ (.str (rowN s.rows i)) (some (j : Int)) (some ((j : Int) + 1)) = some (.str (((rowN s.rows i).drop j).take 1)) := by
        rw [slc_str, if_pos hl, cut_one]
      have x5 := inT μ (((rowN s.rows i).drop j).take 1)
      by_cases hin : i < H ∧ j < W
      · have hj : j < (rowN s.rows i).length := by rw [h.g.rlen hin.1]; exact hin.2
        have hc : ((rowN s.rows i).drop j).take 1 = [cellN s.rows i j] := by
          have := h.g.cell hin.1 hin.2
          rw [List.getElem?_eq_getElem hj] at this
          rw [List.drop_eq_getElem_cons hj, Option.some.inj this]
          rfl
        rw [tgt_in h.g hin.1 hin.2]
        by_cases c5 : cellN s.rows i j = 35
        · rw [decide_eq_true (by rw [hc, c5]; exact .inr rfl)] at x5
          rw [if_pos c5]
          clear c5 hc hl hin
          walk_at "fhs"
          rfl
        · rw [decide_eq_false (by rw [hc]; simp [c5])] at x5
          rw [if_neg c5]
          clear c5 hc hl hin
          walk_at "fhs"
          rfl
      · have hc : ((rowN s.rows i).drop j).take 1 = [] := by
          by_cases hi : i < H
          · rw [List.drop_of_length_le (by rw [h.g.rlen hi]; omega)]; rfl
          · rw [rowN_out h.g (by omega)]; simp
        rw [decide_eq_true (.inl hc)] at x5
        rw [tgt_out h.g (by omega)]
        clear hc hl hin
        walk_at "fhs"
        rfl
theorem law_so_ok (h : Fit s W H) (a : Ak) : callK Gam fu (k + 2) .law_so [scD s, .str a.c] μ = .ok (.bl (so s a)) μ := by
  have e := law_ahead_ok (μ := μ) (fu := fu) (k := k) h
  rw [c_law_so]
  unfold B_law_so
  have hs : scD s = .tup [rowsD s.rows, .int s.r, .int s.c, .int s.w, .int s.h] := rfl
  rw [hs] at e ⊢
  clear hs
  have q1 : eqD μ (.str a.c) (.str [111, 112, 101, 110]) = some (decide (a = .opn)) := eqA μ a .opn
  have q2 : eqD μ (.str a.c) (.str [115, 116, 111, 110, 101]) = some (decide (a = .stone)) := eqA μ a .stone
  have i1 := h.g.idx1 μ h.r
  have i2 := h.g.idx2 μ h.r h.c
  have q := h.g.eqC μ h.r h.c (x := 111) (by decide)
  cases a with
  | held =>
    walk_at "fhs"
    simp [so]
  | opn =>
    cases ha : ahead s with
    | none =>
      rw [ha, optD] at e
      have hso : so s .opn = false := by simp [so, ha]
      clear ha
      walk_at "fhs"
    | some p =>
      rw [ha, optD] at e
      have hso : so s .opn = true := by simp [so, ha]
      clear ha
      walk_at "fhs"
  | stone =>
    walk_at "fhs"
    simp [so]
theorem law_done_ok (h : Fit s W H) (w : Wd) : callK Gam fu (k + 2) .law_done_k03 [scD s, .str w.c] μ = .ok (optD scD (doing s w)) μ := by
  have e := law_ahead_ok (μ := μ) (fu := fu) (k := k) h
  rw [c_law_done_k03]
  unfold B_law_done_k03
  have hs : scD s = .tup [rowsD s.rows, .int s.r, .int s.c, .int s.w, .int s.h] := rfl
  rw [hs] at e ⊢
  clear hs
  have q1 : eqD μ (.str w.c) (.str [116, 117, 114, 110]) = some (decide (w = .turn)) := eqW μ w .turn
  have q2 : eqD μ (.str w.c) (.str [103, 111]) = some (decide (w = .go)) := eqW μ w .go
  have q3 : eqD μ (.str w.c) (.str [116, 97, 107, 101]) = some (decide (w = .take)) := eqW μ w .take
  have q4 : eqD μ (.str w.c) (.str [112, 117, 116]) = some (decide (w = .put)) := eqW μ w .put
  have i1 := h.g.idx1 μ h.r
  have i2 := h.g.idx2 μ h.r h.c
  have q := h.g.eqC μ h.r h.c (x := 111) (by decide)
  have q0 := eqD_int μ (s.h : Int) 0
  have a1 := Grid.sl1 (rows := s.rows) μ s.r
  have a2 := Grid.sl2 (rows := s.rows) μ s.r
  have a3 := h.g.sl3 h.r μ s.c
  have a4 := h.g.sl4 h.r μ s.c
  have b1 := fun x => h.g.ad1 (x := x) h.r μ s.c
  have b2 := fun x => h.g.ad2 (x := x) h.r μ s.c (s.c + 1)
  have b3 := fun d => h.g.ad3 μ s.r d
  have b4 := fun d => h.g.ad4 μ s.r (s.r + 1) d
  have e5 := fun x => setCell_split (x := x) h.g h.r h.c
  have z1 := eqD_bl μ true true
  have z2 := eqD_bl μ true false
  have z3 := eqD_bl μ false true
  have z4 := eqD_bl μ false false
  have y1 : (true == true) = true := rfl
  have y2 : (true == false) = false := rfl
  have y3 : (false == true) = false := rfl
  have y4 : (false == false) = true := rfl
  rw [y1] at z1; rw [y2] at z2; rw [y3] at z3; rw [y4] at z4
  clear y1 y2 y3 y4
  cases w with
  | turn =>
    have h4 : (0 : Int) < 4 := by decide
    walk_at "fhs"
    simp only [doing, optD, scD, Int.natCast_emod, Int.natCast_add]
    rfl
  | go =>
    cases ha : ahead s with
    | none =>
      rw [ha, optD] at e
      have hd : doing s .go = none := by simp [doing, ha]
      clear ha
      walk_at "fhs"
      rfl
    | some p =>
      rw [ha, optD] at e
      have hd : doing s .go = some { s with r := p.1, c := p.2 } := by simp [doing, ha]
      clear ha
      walk_at "fhs"
      rfl
  | take =>
    by_cases hc : cellN s.rows s.r s.c = 111
    · rw [decide_eq_true hc] at q
      have hd : doing s .take = some { s with rows := setCell s.rows s.r s.c 46, h := s.h + 1 } := by simp [doing, hc]
      clear hc
      walk_at "fhs"
      rfl
    · rw [decide_eq_false hc] at q
      have hd : doing s .take = none := by simp [doing, hc]
      clear hc
      walk_at "fhs"
      rfl
  | put =>
    by_cases hc : cellN s.rows s.r s.c = 111
    · rw [decide_eq_true hc] at q
      have hd : doing s .put = none := by simp [doing, hc]
      clear hc
      walk_at "fhs"
      rfl
    · rw [decide_eq_false hc] at q
      by_cases hh : s.h = 0
      · have hb : ((s.h : Int) == 0) = true := by simp [hh]
        rw [hb] at q0
        have hd : doing s .put = none := by simp [doing, hh]
        clear hc hh hb
        walk_at "fhs"
        rfl
      · have hb : ((s.h : Int) == 0) = false := by simp [hh]
        rw [hb] at q0
        have hd : doing s .put = some { s with rows := setCell s.rows s.r s.c 111, h := s.h - 1 } := by simp [doing, hc, hh]
        have e3 : ((s.h - 1 : Nat) : Int) = (s.h : Int) + (0 - 1) := by omega
        clear hc hh hb
        walk_at "fhs"
        simp only [optD, scD, e3]
        rfl
end
/-! Scenes are let be. -/
section
variable {μ : Store} {fu k W H : Nat} {s : Sc}
theorem eqE : eqD μ (.lst []) (.lst []) = some true := rfl
theorem in_signs (ν : Store) {x : Nat} (h : x = 35 ∨ x = 111 ∨ x = 46) : inD ν (.str [x]) (.tup [.str [35], .str [111], .str [46]]) = some true := by
  rcases h with rfl | rfl | rfl <;> rfl
theorem are_rows_ok {rows : Rows} (g : Grid rows W H) : callK Gam fu (k + 1) .are_rows [rowsD rows] μ = .ok (.bl true) μ := by
  rw [c_are_rows]
  unfold B_are_rows
  have i0 : idxD μ (rowsD rows) (.int 0) = some (.str (rowN rows 0)) := g.idx1 μ (i := 0) (by have := g.h1; omega)
  have l0 := g.lenR μ (i := 0) (by have := g.h1; omega)
  have l1 := g.lenD μ
  have sr : srcD μ (rowsD rows) = some (.vals (rows.map .str)) := rfl
  have c1 : (1 : Int) ≤ H := by have := g.h1; omega
  have c2 : (H : Int) ≤ 6 := by have := g.h6; omega
  have c3 : (1 : Int) ≤ W := by have := g.w1; omega
  have c4 : (W : Int) ≤ 6 := by have := g.w6; omega
  have t1 := lcV_none (μ := μ) (acc := []) (ds := rows.map .str) (f := turn1F (callK Gam fu k) none 1 (.cmp .NotEq (.blt .len (.cons (.var 1) .nil)) (.blt .len (.cons (.idx (.var 0) (.con (.int 0))) .nil))) (.var 1) [some (rowsD rows), none, none]) (fun d hd => by
    obtain ⟨l, hl, rfl⟩ := List.mem_map.mp hd
    have l2 : FH.lenD μ [.str l] = some (.int W) := by rw [len_str, if_pos (by rw [g.each l hl, lineMax_eq]; have := g.w6; omega), g.each l hl]
    have q : eqD μ (.int W) (.int W) = some true := by rw [eqD_int]; simp
    walk_at "fhs")
  have t2 := lcV_none (μ := μ) (acc := []) (ds := rows.map .str) (f := turn1F (callK Gam fu k) none 1 (.cmp .NotEq (.comp1 2 (.seq (.var 1)) (.cmp .NotIn (.var 2) (.glo .SIGNS)) (.var 2)) (.lst .nil)) (.var 1) [some (rowsD rows), none, none]) (fun d hd => by
    obtain ⟨l, hl, rfl⟩ := List.mem_map.mp hd
    have t3 := lcV_none (μ := μ) (acc := []) (ds := l.map fun c => .str [c]) (f := turn1F (callK Gam fu k) none 2 (.cmp .NotIn (.var 2) (.glo .SIGNS)) (.var 2) [some (rowsD rows), some (.str l), none]) (fun d hd => by
      obtain ⟨c, hc, rfl⟩ := List.mem_map.mp hd
      have q := in_signs μ (g.sign l hl c hc)
      walk_at "fhs")
    have q := eqE (μ := μ)
    walk_at "fhs")
  have q := eqE (μ := μ)
  walk_at "fhs"
theorem need_scene_ok (h : Fit s W H) (hh : s.h ≤ 36) : callK Gam fu (k + 2) .need_scene [scD s] μ = .ok .non μ := by
  rw [c_need_scene]
  unfold B_need_scene scD
  have e := are_rows_ok (μ := μ) (fu := fu) (k := k) h.g
  have i0 : idxD μ (rowsD s.rows) (.int 0) = some (.str (rowN s.rows 0)) := h.g.idx1 μ (i := 0) (by have := h.g.h1; omega)
  have l0 := h.g.lenR μ (i := 0) (by have := h.g.h1; omega)
  have l1 := h.g.lenD μ
  have i1 := h.g.idx1 μ h.r
  have i2 := h.g.idx2 μ h.r h.c
  have q := h.g.eqC μ h.r h.c (x := 35) (by decide)
  rw [decide_eq_false h.free] at q
  have c1 : (0 : Int) ≤ s.r := by omega
  have c2 : (s.r : Int) < H := by have := h.r; omega
  have c3 : (0 : Int) ≤ s.c := by omega
  have c4 : (s.c : Int) < W := by have := h.c; omega
  have c5 : (0 : Int) ≤ s.w := by omega
  have c6 : (s.w : Int) < ((4 : Nat) : Int) := by have := h.w; omega
  have c7 : (0 : Int) ≤ s.h := by omega
  have c8 : (s.h : Int) ≤ 36 := by omega
  clear hh
  walk_at "fhs"
end
/-! Programs as trees: what is a program, how many steps. -/
mutual
inductive Stp where
  | act (w : Wd) | ifs (a : Ak) (x y : Bd) | whl (a : Ak) (x : Bd)
inductive Bd where
  | nil | cons (s : Stp) (b : Bd)
end
mutual
def stD : Stp → D
  | .act w => .tup [.str w.c]
  | .ifs a x y => .tup [.str [105, 102], .str a.c, .tup (bdL x), .tup (bdL y)]
  | .whl a x => .tup [.str [119, 104, 105, 108, 101], .str a.c, .tup (bdL x)]
def bdL : Bd → List D
  | .nil => []
  | .cons s b => stD s :: bdL b
end
def prD (b : Bd) : D := .tup (bdL b)
mutual
def lvS : Stp → Nat
  | .act _ => 1
  | .ifs _ x y => 1 + max (lvB x) (lvB y)
  | .whl _ x => 1 + lvB x
def lvB : Bd → Nat
  | .nil => 0
  | .cons s b => max (lvS s) (lvB b)
end
mutual
def cnS : Stp → Nat
  | .act _ => 1
  | .ifs _ x y => 1 + (cnB x + cnB y)
  | .whl _ x => 1 + cnB x
def cnB : Bd → Nat
  | .nil => 0
  | .cons s b => cnS s + cnB b
end
section
variable {fu : Nat}
abbrev areBody : Ss := (.cons (.ifs (.or (.inG false (.idx (.var 2) (.con (.int 0)))) (.or (.cmp .NotEq (.blt .len (.cons (.var 2) .nil)) (.getG (.idx (.var 2) (.con (.int 0))))) (.cmp .Gt (.var 1) (.glo .MOST_WITHIN)))) (.cons (.ret (.con (.bl false)))
  .nil) .nil)
  (.cons (.ifs (.and (.cmp .Gt (.blt .len (.cons (.var 2) .nil)) (.con (.int 1))) (.cmp .NotIn (.idx (.var 2) (.con (.int 1))) (.glo .ASKS))) (.cons (.ret (.con (.bl false)))
  .nil) .nil)
  (.cons (.ifs (.cmp .NotEq (.comp1 3 (.seq (.slc (.var 2) (.con (.int 2)) (.con .non))) (.not (.call .are_steps (.cons (.var 3) (.cons (.bin .Add (.var 1) (.con (.int 1))) .nil)))) (.var 3)) (.lst .nil)) (.cons (.ret (.con (.bl false)))
  .nil) .nil)
  .nil)))
theorem are_of {b : Bd} {n k : Nat} {μ : Store} (h : ∀ D0 a2, ∃ a2', forV (gBody (callK Gam fu k) fu none 2 areBody) (bdL b) [some D0, some (.int (n : Nat)), a2, none] μ = .nx [some D0, some (.int (n : Nat)), a2', none] μ) :
    callK Gam fu (k + 1) .are_steps [.tup (bdL b), .int (n : Nat)] μ = .ok (.bl true) μ := by
  obtain ⟨a2', e⟩ := h (.tup (bdL b)) none
  rw [c_are_steps]
  unfold B_are_steps
  walk_at "fh"
  simp only [for_vals, e]
  walk_at "fh"
theorem lookW (w : Wd) : lengths.lookup w.c = some 1 := by cases w <;> rfl
theorem inA (ν : Store) (a : Ak) : inD ν (.str a.c) (gval .ASKS) = some true := by cases a <;> rfl
theorem w4 {n : Nat} (h : n ≤ 4) : ¬ (4 : Int) < n := by omega
mutual
theorem are_B : ∀ (b : Bd) (n k : Nat) (μ : Store) (D0 : D) (a2 : Option D), n + lvB b ≤ 5 → lvB b ≤ k →
    ∃ a2', forV (gBody (callK Gam fu k) fu none 2 areBody) (bdL b) [some D0, some (.int (n : Nat)), a2, none] μ = .nx [some D0, some (.int (n : Nat)), a2', none] μ
  | .nil, n, k, μ, D0, a2, h1, h2 => ⟨a2, rfl⟩
  | .cons s b, n, k, μ, D0, a2, h1, h2 => by
    rw [lvB] at h1 h2
    obtain ⟨a2', e⟩ := are_B b n k μ D0 (some (stD s)) (by omega) (by omega)
    refine ⟨a2', ?_⟩
    rw [bdL, forV, are_S s n k μ D0 a2 (by omega) (by omega)]
    exact e
theorem are_S : ∀ (s : Stp) (n k : Nat) (μ : Store) (D0 : D) (a2 : Option D), n + lvS s ≤ 5 → lvS s ≤ k →
    gBody (callK Gam fu k) fu none 2 areBody (stD s) [some D0, some (.int (n : Nat)), a2, none] μ = .nx [some D0, some (.int (n : Nat)), some (stD s), none] μ
  | .act w, n, k, μ, D0, a2, h1, h2 => by
    rw [lvS] at h1
    have hl := lookW w
    have q : eqD μ (.int ((1 : Nat) : Int)) (.int 1) = some true := by rw [eqD_int]; rfl
    have hw := w4 (n := n) (by omega)
    have c1 : ¬ (1 : Int) < ((1 : Nat) : Int) := by decide
    have hc : cut [D.str w.c] (some 2) none = [] := rfl
    have qe := eqE (μ := μ)
    rw [stD]
    clear h1 h2
    walk_at "fh"
    simp only [hl]
    repeat (first | (simp only [hl, q, hw, c1, hc, lcV, qe]) | walk_at "fh")
  | .ifs a x y, n, k, μ, D0, a2, h1, h2 => by
    rw [lvS] at h1 h2
    obtain ⟨k', rfl⟩ : ∃ k', k = k' + 1 := ⟨k - 1, by omega⟩
    have e1 := are_of (fu := fu) fun D0 a2 => are_B x (n + 1) k' μ D0 a2 (by omega) (by omega)
    have e2 := are_of (fu := fu) fun D0 a2 => are_B y (n + 1) k' μ D0 a2 (by omega) (by omega)
    rw [Int.natCast_add] at e1 e2
    have hl : lengths.lookup [105, 102] = some 4 := rfl
    have q : eqD μ (.int ((4 : Nat) : Int)) (.int 4) = some true := by rw [eqD_int]; rfl
    have hw := w4 (n := n) (by omega)
    have c1 : (1 : Int) < ((4 : Nat) : Int) := by decide
    have hc : cut [D.str [105, 102], D.str a.c, .tup (bdL x), .tup (bdL y)] (some 2) none = [.tup (bdL x), .tup (bdL y)] := rfl
    have qe := eqE (μ := μ)
    have qa := inA μ a
    rw [gval] at qa
    rw [stD]
    clear h1 h2
    have t := lcV_none (μ := μ) (acc := []) (ds := [.tup (bdL x), .tup (bdL y)]) (f := turn1F (callK Gam fu (k' + 1)) none 3 (.not (.call .are_steps (.cons (.var 3) (.cons (.bin .Add (.var 1) (.con (.int 1))) .nil)))) (.var 3) [some D0, some (.int n), some (.tup [.str [105, 102], .str a.c, .tup (bdL x), .tup (bdL y)]), none]) (fun d hd => by
      simp only [List.mem_cons, List.not_mem_nil, or_false] at hd
      rcases hd with rfl | rfl
      · walk_at "fh"
        simp only [show ((n : Int) + 1) = (n : Int) + ((1 : Nat) : Int) from rfl, e1]
        walk_at "fh"
      · walk_at "fh"
        simp only [show ((n : Int) + 1) = (n : Int) + ((1 : Nat) : Int) from rfl, e2]
        walk_at "fh")
    walk_at "fh"
    simp only [hl]
    repeat (first | (simp only [hl, q, hw, c1, hc, qa, t, qe]) | walk_at "fh")
  | .whl a x, n, k, μ, D0, a2, h1, h2 => by
    rw [lvS] at h1 h2
    obtain ⟨k', rfl⟩ : ∃ k', k = k' + 1 := ⟨k - 1, by omega⟩
    have e1 := are_of (fu := fu) fun D0 a2 => are_B x (n + 1) k' μ D0 a2 (by omega) (by omega)
    rw [Int.natCast_add] at e1
    have hl : lengths.lookup [119, 104, 105, 108, 101] = some 3 := rfl
    have q : eqD μ (.int ((3 : Nat) : Int)) (.int 3) = some true := by rw [eqD_int]; rfl
    have hw := w4 (n := n) (by omega)
    have c1 : (1 : Int) < ((3 : Nat) : Int) := by decide
    have hc : cut [D.str [119, 104, 105, 108, 101], D.str a.c, .tup (bdL x)] (some 2) none = [.tup (bdL x)] := rfl
    have qe := eqE (μ := μ)
    have qa := inA μ a
    rw [gval] at qa
    rw [stD]
    clear h1 h2
    have t := lcV_none (μ := μ) (acc := []) (ds := [.tup (bdL x)]) (f := turn1F (callK Gam fu (k' + 1)) none 3 (.not (.call .are_steps (.cons (.var 3) (.cons (.bin .Add (.var 1) (.con (.int 1))) .nil)))) (.var 3) [some D0, some (.int n), some (.tup [.str [119, 104, 105, 108, 101], .str a.c, .tup (bdL x)]), none]) (fun d hd => by
      simp only [List.mem_cons, List.not_mem_nil, or_false] at hd
      subst hd
      walk_at "fh"
      simp only [show ((n : Int) + 1) = (n : Int) + ((1 : Nat) : Int) from rfl, e1]
      walk_at "fh")
    walk_at "fh"
    simp only [hl]
    repeat (first | (simp only [hl, q, hw, c1, hc, qa, t, qe]) | walk_at "fh")
end
def cnL : Bd → List Int
  | .nil => []
  | .cons s b => (cnS s : Int) :: cnL b
theorem cnL_sum : ∀ b, (cnL b).sum = cnB b
  | .nil => rfl
  | .cons s b => by rw [cnL, List.sum_cons, cnL_sum b, cnB, Int.natCast_add]
theorem ints_map : ∀ l : List Int, intsOf (l.map .int) = some l
  | [] => rfl
  | i :: l => by rw [List.map_cons, intsOf, ints_map l]; rfl
theorem cnL_len : ∀ b, (cnL b).length ≤ cnB b
  | .nil => Nat.le_refl _
  | .cons s b => by
    rw [cnL, cnB, List.length_cons]
    have := cnL_len b
    have : 1 ≤ cnS s := by cases s <;> simp [cnS]
    omega
theorem count_of {b : Bd} {k : Nat} {μ : Store} (h : ∀ D0, lcV (turn0F (callK Gam fu k) none 2 (.bin .Add (.con (.int 1)) (.blt .sum (.cons (.comp0 1 (.seq (.slc (.var 2) (.con (.int 2)) (.con .non))) (.call .count_ (.cons (.var 1) .nil))) .nil))) [some D0, none, none]) (bdL b) [] μ = .ok ((cnL b).map .int) μ) :
    callK Gam fu (k + 1) .count_ [.tup (bdL b)] μ = .ok (.int (cnB b)) μ := by
  have e := h (.tup (bdL b))
  have i := ints_map (cnL b)
  rw [c_count_]
  unfold B_count_
  walk_at "fh"
  simp only [e]
  walk_at "fh"
  simp only [sumD, lst_lst']
  walk_at "fh"
  simp only [i]
  walk_at "fh"
  rw [cnL_sum]
mutual
theorem count_B : ∀ (b : Bd) (k : Nat) (μ : Store) (D0 : D) (acc : List D), lvB b ≤ k → acc.length + cnB b ≤ 1000 →
    lcV (turn0F (callK Gam fu k) none 2 (.bin .Add (.con (.int 1)) (.blt .sum (.cons (.comp0 1 (.seq (.slc (.var 2) (.con (.int 2)) (.con .non))) (.call .count_ (.cons (.var 1) .nil))) .nil))) [some D0, none, none]) (bdL b) acc μ = .ok (acc ++ (cnL b).map .int) μ
  | .nil, k, μ, D0, acc, h1, h2 => by rw [bdL, lcV, cnL]; simp
  | .cons s b, k, μ, D0, acc, h1, h2 => by
    rw [lvB] at h1
    rw [cnB] at h2
    have h3 : 1 ≤ cnS s := by cases s <;> simp [cnS]
    have e := count_B b k μ D0 (acc ++ [.int (cnS s)]) (by omega) (by rw [List.length_append, List.length_singleton]; omega)
    rw [bdL, lcV, count_S s k μ D0 (by omega) (by omega)]
    simp only
    rw [if_pos (by rw [lineMax_eq]; omega), e, cnL]
    simp
theorem count_S : ∀ (s : Stp) (k : Nat) (μ : Store) (D0 : D), lvS s ≤ k → cnS s ≤ 1000 →
    turn0F (callK Gam fu k) none 2 (.bin .Add (.con (.int 1)) (.blt .sum (.cons (.comp0 1 (.seq (.slc (.var 2) (.con (.int 2)) (.con .non))) (.call .count_ (.cons (.var 1) .nil))) .nil))) [some D0, none, none] (stD s) μ = .ok (some (.int (cnS s))) μ
  | .act w, k, μ, D0, h1, h2 => by
    have hc : cut [D.str w.c] (some 2) none = [] := rfl
    rw [stD]
    walk_at "fh"
    simp only [hc, lcV]
    walk_at "fh"
    simp only [sumD, lst_lst']
    walk_at "fh"
    simp only [intsOf]
    walk_at "fh"
    rfl
  | .ifs a x y, k, μ, D0, h1, h2 => by
    rw [lvS] at h1
    rw [cnS] at h2
    obtain ⟨k', rfl⟩ : ∃ k', k = k' + 1 := ⟨k - 1, by omega⟩
    have e1 := count_of (fu := fu) (b := x) (k := k') (μ := μ) fun D0 => count_B x k' μ D0 [] (by omega) (by simp; omega)
    have e2 := count_of (fu := fu) (b := y) (k := k') (μ := μ) fun D0 => count_B y k' μ D0 [] (by omega) (by simp; omega)
    have hc : cut [D.str [105, 102], D.str a.c, .tup (bdL x), .tup (bdL y)] (some 2) none = [.tup (bdL x), .tup (bdL y)] := rfl
    have t : lcV (turn0F (callK Gam fu (k' + 1)) none 1 (.call .count_ (.cons (.var 1) .nil)) [some D0, none, some (.tup [.str [105, 102], .str a.c, .tup (bdL x), .tup (bdL y)])]) [.tup (bdL x), .tup (bdL y)] [] μ = .ok [.int (cnB x), .int (cnB y)] μ := by
      have l1 : 0 < lineMax := by decide
      have l2 : 1 < lineMax := by decide
      simp only [lcV]
      walk_at "fh"
      repeat (first | (simp only [e1, e2, l1, l2, List.nil_append, List.cons_append]) | walk_at "fh")
    rw [stD]
    walk_at "fh"
    simp only [hc, t]
    walk_at "fh"
    simp only [sumD, lst_lst']
    walk_at "fh"
    simp only [intsOf]
    walk_at "fh"
    simp only [cnS, List.sum_cons, List.sum_nil, Int.natCast_add, Int.add_zero]
    rfl
  | .whl a x, k, μ, D0, h1, h2 => by
    rw [lvS] at h1
    rw [cnS] at h2
    obtain ⟨k', rfl⟩ : ∃ k', k = k' + 1 := ⟨k - 1, by omega⟩
    have e1 := count_of (fu := fu) (b := x) (k := k') (μ := μ) fun D0 => count_B x k' μ D0 [] (by omega) (by simp; omega)
    have hc : cut [D.str [119, 104, 105, 108, 101], D.str a.c, .tup (bdL x)] (some 2) none = [.tup (bdL x)] := rfl
    have t : lcV (turn0F (callK Gam fu (k' + 1)) none 1 (.call .count_ (.cons (.var 1) .nil)) [some D0, none, some (.tup [.str [119, 104, 105, 108, 101], .str a.c, .tup (bdL x)])]) [.tup (bdL x)] [] μ = .ok [.int (cnB x)] μ := by
      have l1 : 0 < lineMax := by decide
      simp only [lcV]
      walk_at "fh"
      repeat (first | (simp only [e1, l1, List.nil_append, List.cons_append]) | walk_at "fh")
    rw [stD]
    walk_at "fh"
    simp only [hc, t]
    walk_at "fh"
    simp only [sumD, lst_lst']
    walk_at "fh"
    simp only [intsOf]
    walk_at "fh"
    simp only [cnS, List.sum_cons, List.sum_nil, Int.natCast_add, Int.add_zero]
    rfl
end
theorem need_program_ok {b : Bd} {k : Nat} {μ : Store} (h1 : lvB b ≤ 5) (h2 : cnB b ≤ 30) : callK Gam fu (k + 7) .need_program [prD b] μ = .ok .non μ := by
  have e1 := are_of (fu := fu) (b := b) (n := 0) (k := k + 5) (μ := μ) fun D0 a2 => are_B b 0 (k + 5) μ D0 a2 (by omega) (by omega)
  have e2 := count_of (fu := fu) (b := b) (k := k + 5) (μ := μ) fun D0 => count_B b (k + 5) μ D0 [] (by omega) (by simp; omega)
  have e1' : callK Gam fu (k + 6) .are_steps [prD b, .int 0] μ = .ok (.bl true) μ := e1
  have e2' : callK Gam fu (k + 6) .count_ [prD b] μ = .ok (.int (cnB b)) μ := e2
  have c : ¬ (30 : Int) < cnB b := by omega
  rw [c_need_program]
  unfold B_need_program
  clear e1 e2 h1 h2
  walk_at "fhs"
end
/-! A program's lines. -/
inductive Ln where
  | act (w : Wd) | ask (a : Ak) (n : Nat) | on (n : Nat)
def lnD : Ln → D
  | .act w => .tup [.str w.c]
  | .ask a n => .tup [.str [97, 115, 107], .str a.c, .int n]
  | .on n => .tup [.str [111, 110], .int n]
mutual
def lnS : Stp → Nat → List Ln
  | .act w, _ => [.act w]
  | .whl a x, n => [Ln.ask a (n + (lnB x (n + 1)).length + 2)] ++ lnB x (n + 1) ++ [.on n]
  | .ifs a x y, n => [Ln.ask a (n + (lnB x (n + 1)).length + 2)] ++ lnB x (n + 1) ++ [.on (n + (lnB x (n + 1)).length + (lnB y (n + (lnB x (n + 1)).length + 2)).length + 2)] ++ lnB y (n + (lnB x (n + 1)).length + 2)
def lnB : Bd → Nat → List Ln
  | .nil, _ => []
  | .cons s b, n => lnS s n ++ lnB b (n + (lnS s n).length)
end
mutual
theorem lnS_len : ∀ (s : Stp) (n : Nat), (lnS s n).length ≤ 2 * cnS s
  | .act w, n => by simp [lnS, cnS]
  | .whl a x, n => by
    have := lnB_len x (n + 1)
    simp only [lnS, cnS, List.length_append, List.length_cons, List.length_nil]
    omega
  | .ifs a x y, n => by
    have := lnB_len x (n + 1)
    have := lnB_len y (n + (lnB x (n + 1)).length + 2)
    simp only [lnS, cnS, List.length_append, List.length_cons, List.length_nil]
    omega
theorem lnB_len : ∀ (b : Bd) (n : Nat), (lnB b n).length ≤ 2 * cnB b
  | .nil, n => by simp [lnB]
  | .cons s b, n => by
    have := lnS_len s n
    have := lnB_len b (n + (lnS s n).length)
    simp only [lnB, cnB, List.length_append]
    omega
end
section
variable {fu : Nat}
abbrev lnBody : Ss := (.cons (.asg 4 (.bin .Add (.var 1) (.blt .len (.cons (.var 2) .nil))))
  (.cons (.ifs (.cmp .In (.idx (.var 3) (.con (.int 0))) (.glo .DOINGS)) (.cons (.ex (.mth .append (.var 2) (.cons (.var 3) .nil)))
  .nil) (.cons (.ifs (.cmp .Eq (.idx (.var 3) (.con (.int 0))) (.con (.str [119, 104, 105, 108, 101]))) (.cons (.asg 5 (.call .lines_of (.cons (.idx (.var 3) (.con (.int 2))) (.cons (.bin .Add (.var 4) (.con (.int 1))) .nil))))
  (.cons (.ex (.mth .extend (.var 2) (.cons (.bin .Add (.bin .Add (.lst (.cons (.tup (.cons (.con (.str [97, 115, 107])) (.cons (.idx (.var 3) (.con (.int 1))) (.cons (.bin .Add (.bin .Add (.var 4) (.blt .len (.cons (.var 5) .nil))) (.con (.int 2))) .nil)))) .nil)) (.var 5)) (.lst (.cons (.tup (.cons (.con (.str [111, 110])) (.cons (.var 4) .nil))) .nil))) .nil)))
  .nil)) (.cons (.asg 6 (.call .lines_of (.cons (.idx (.var 3) (.con (.int 2))) (.cons (.bin .Add (.var 4) (.con (.int 1))) .nil))))
  (.cons (.asg 7 (.call .lines_of (.cons (.idx (.var 3) (.con (.int 3))) (.cons (.bin .Add (.bin .Add (.var 4) (.blt .len (.cons (.var 6) .nil))) (.con (.int 2))) .nil))))
  (.cons (.asg 8 (.bin .Add (.bin .Add (.bin .Add (.var 4) (.blt .len (.cons (.var 6) .nil))) (.blt .len (.cons (.var 7) .nil))) (.con (.int 2))))
  (.cons (.ex (.mth .extend (.var 2) (.cons (.bin .Add (.bin .Add (.bin .Add (.lst (.cons (.tup (.cons (.con (.str [97, 115, 107])) (.cons (.idx (.var 3) (.con (.int 1))) (.cons (.bin .Add (.bin .Add (.var 4) (.blt .len (.cons (.var 6) .nil))) (.con (.int 2))) .nil)))) .nil)) (.var 6)) (.lst (.cons (.tup (.cons (.con (.str [111, 110])) (.cons (.var 8) .nil))) .nil))) (.var 7)) .nil)))
  .nil)))))
  .nil))
  .nil))
theorem inW (ν : Store) (w : Wd) : inD ν (.str w.c) (gval .DOINGS) = some true := by cases w <;> rfl
/-- the turns of lines_of -/
def LnB (fu : Nat) (b : Bd) (k : Nat) : Prop := ∀ (n : Nat) (μ : Store) (D0 : D) (acc : List D) (ν : Store) (a3 a4 a5 a6 a7 a8 : Option D), acc.length + 2 * cnB b ≤ 1000 →
    ∃ ν' b3 b4 b5 b6 b7 b8, forV (gBody (callK Gam fu k) fu none 3 lnBody) (bdL b) [some D0, some (.int (n : Nat)), some (.ptr μ.length), a3, a4, a5, a6, a7, a8] (μ ++ [.lst acc] ++ ν)
      = .nx [some D0, some (.int (n : Nat)), some (.ptr μ.length), b3, b4, b5, b6, b7, b8] (μ ++ [.lst (acc ++ (lnB b (n + acc.length)).map lnD)] ++ (ν ++ ν'))
theorem lines_of_B {b : Bd} {n k : Nat} {μ : Store} (h : LnB fu b k) (hc : cnB b ≤ 500) :
    ∃ ν, callK Gam fu (k + 1) .lines_of [.tup (bdL b), .int (n : Nat)] μ = .ok (.ptr μ.length) (μ ++ [.lst ((lnB b n).map lnD)] ++ ν) := by
  obtain ⟨ν', b3, b4, b5, b6, b7, b8, e⟩ := h n μ (.tup (bdL b)) [] [] none none none none none none (by simp; omega)
  refine ⟨ν', ?_⟩
  rw [c_lines_of]
  unfold B_lines_of
  simp only [List.append_nil, List.nil_append, List.length_nil, Nat.add_zero] at e
  walk_at "fh"
  simp only [for_vals, e]
  walk_at "fh"
theorem two_app {μ ν ν' : Store} {o o' : O} : μ ++ [o] ++ ν ++ [o'] ++ ν' = μ ++ [o] ++ (ν ++ [o'] ++ ν') := by simp
mutual
theorem ln_B : ∀ (b : Bd) (k : Nat), lvB b ≤ k → LnB fu b k
  | .nil, k, h1 => fun n μ D0 acc ν a3 a4 a5 a6 a7 a8 h2 => ⟨[], a3, a4, a5, a6, a7, a8, by simp [bdL, forV, lnB]⟩
  | .cons s b, k, h1 => fun n μ D0 acc ν a3 a4 a5 a6 a7 a8 h2 => by
    rw [lvB] at h1
    rw [cnB] at h2
    obtain ⟨ν1, b3, b4, b5, b6, b7, b8, e1⟩ := ln_S s k (by omega) n μ D0 acc ν a3 a4 a5 a6 a7 a8 (by omega)
    have hl := lnS_len s (n + acc.length)
    obtain ⟨ν2, c3, c4, c5, c6, c7, c8, e2⟩ := ln_B b k (by omega) n μ D0 (acc ++ (lnS s (n + acc.length)).map lnD) (ν ++ ν1) b3 b4 b5 b6 b7 b8 (by rw [List.length_append, List.length_map]; omega)
    refine ⟨ν1 ++ ν2, c3, c4, c5, c6, c7, c8, ?_⟩
    rw [bdL, forV, e1, Out.seq_nx, e2, lnB, List.map_append, List.length_append, List.length_map, ← Nat.add_assoc, List.append_assoc acc, List.append_assoc ν]
theorem ln_S : ∀ (s : Stp) (k : Nat), lvS s ≤ k → ∀ (n : Nat) (μ : Store) (D0 : D) (acc : List D) (ν : Store) (a3 a4 a5 a6 a7 a8 : Option D), acc.length + 2 * cnS s ≤ 1000 →
    ∃ ν' b3 b4 b5 b6 b7 b8, gBody (callK Gam fu k) fu none 3 lnBody (stD s) [some D0, some (.int (n : Nat)), some (.ptr μ.length), a3, a4, a5, a6, a7, a8] (μ ++ [.lst acc] ++ ν)
      = .nx [some D0, some (.int (n : Nat)), some (.ptr μ.length), b3, b4, b5, b6, b7, b8] (μ ++ [.lst (acc ++ (lnS s (n + acc.length)).map lnD)] ++ (ν ++ ν'))
  | .act w, k, h1, n, μ, D0, acc, ν, a3, a4, a5, a6, a7, a8, h2 => by
    refine ⟨[], some (stD (.act w)), some (.int ((n : Int) + (acc.length : Nat))), a5, a6, a7, a8, ?_⟩
    have hin := inW (μ ++ [.lst acc] ++ ν) w
    rw [gval] at hin
    have hb : acc.length < lineMax := by rw [lineMax_eq]; omega
    rw [stD]
    clear h1 h2
    walk_at "fh"
    repeat (first | (simp only [get_mid, set_mid, hin, hb]) | walk_at "fh")
    simp [lnS, lnD]
  | .whl a x, k, h1, n, μ, D0, acc, ν, a3, a4, a5, a6, a7, a8, h2 => by
    rw [lvS] at h1
    rw [cnS] at h2
    obtain ⟨k', rfl⟩ : ∃ k', k = k' + 1 := ⟨k - 1, by omega⟩
    have e1 := lines_of_B (fu := fu) (b := x) (n := n + acc.length + 1) (k := k') (μ := μ ++ [.lst acc] ++ ν) (ln_B x k' (by omega)) (by omega)
    obtain ⟨ν1, e1⟩ := e1
    have hL := lnB_len x (n + acc.length + 1)
    rw [Int.natCast_add, Int.natCast_add] at e1
    obtain ⟨L, hLL⟩ : ∃ L, L = (lnB x (n + acc.length + 1)).map lnD := ⟨_, rfl⟩
    rw [← hLL] at e1
    have hl1 : L.length = (lnB x (n + acc.length + 1)).length := by rw [hLL, List.length_map]
    obtain ⟨q, hq⟩ : ∃ q, q = (μ ++ [O.lst acc] ++ ν).length := ⟨_, rfl⟩
    obtain ⟨S, hS⟩ : ∃ S, S = μ ++ [O.lst acc] ++ ν ++ [O.lst L] ++ ν1 := ⟨_, rfl⟩
    have g2 : S[q]? = some (.lst L) := by rw [hS, hq]; exact get_mid
    have g1 : S[μ.length]? = some (.lst acc) := by rw [hS, two_app]; exact get_mid
    have g3 : ∀ o, S.set μ.length o = μ ++ [o] ++ (ν ++ ([O.lst L] ++ ν1)) := fun o => by rw [hS, two_app, set_mid, ← List.append_assoc ν]
    rw [← hS, ← hq] at e1
    have hno : inD (μ ++ [O.lst acc] ++ ν) (.str [119, 104, 105, 108, 101]) (gval .DOINGS) = some false := rfl
    rw [gval] at hno
    have hw : eqD (μ ++ [O.lst acc] ++ ν) (.str [119, 104, 105, 108, 101]) (.str [119, 104, 105, 108, 101]) = some true := by rw [eqL _ _ _ (by decide)]; rfl
    refine ⟨[O.lst L] ++ ν1, some (stD (.whl a x)), some (.int ((n : Int) + (acc.length : Nat))), some (.ptr q), a6, a7, a8, ?_⟩
    rw [stD]
    clear h1
    have c1 : 1 + L.length ≤ lineMax := by rw [lineMax_eq]; omega
    have c2 : ∀ d : D, ([d] ++ L).length + 1 ≤ lineMax := fun d => by rw [List.length_append, List.length_singleton, lineMax_eq]; omega
    have c3 : ∀ d d' : D, acc.length + ([d] ++ L ++ [d']).length ≤ lineMax := fun d d' => by rw [List.length_append, List.length_append, List.length_singleton, List.length_singleton, lineMax_eq]; omega
    have one : ((1 : Nat) : Int) = 1 := rfl
    rw [one] at e1
    walk_at "fh"
    repeat (first | (simp only [get_mid, hno, hw, e1, g1, g2, g3, c1, c2, c3]) | walk_at "fh")
    simp [lnS, lnD, hLL]
  | .ifs a x y, k, h1, n, μ, D0, acc, ν, a3, a4, a5, a6, a7, a8, h2 => by
    rw [lvS] at h1
    rw [cnS] at h2
    obtain ⟨k', rfl⟩ : ∃ k', k = k' + 1 := ⟨k - 1, by omega⟩
    obtain ⟨ν1, e1⟩ := lines_of_B (fu := fu) (b := x) (n := n + acc.length + 1) (k := k') (μ := μ ++ [.lst acc] ++ ν) (ln_B x k' (by omega)) (by omega)
    have hL := lnB_len x (n + acc.length + 1)
    rw [Int.natCast_add, Int.natCast_add] at e1
    obtain ⟨L, hLL⟩ : ∃ L, L = (lnB x (n + acc.length + 1)).map lnD := ⟨_, rfl⟩
    rw [← hLL] at e1
    have hl1 : L.length = (lnB x (n + acc.length + 1)).length := by rw [hLL, List.length_map]
    obtain ⟨q, hq⟩ : ∃ q, q = (μ ++ [O.lst acc] ++ ν).length := ⟨_, rfl⟩
    obtain ⟨S, hS⟩ : ∃ S, S = μ ++ [O.lst acc] ++ ν ++ [O.lst L] ++ ν1 := ⟨_, rfl⟩
    have g2 : S[q]? = some (.lst L) := by rw [hS, hq]; exact get_mid
    rw [← hS, ← hq] at e1
    obtain ⟨ν2, e2⟩ := lines_of_B (fu := fu) (b := y) (n := n + acc.length + L.length + 2) (k := k') (μ := S) (ln_B y k' (by omega)) (by omega)
    have hL2 := lnB_len y (n + acc.length + L.length + 2)
    rw [Int.natCast_add, Int.natCast_add, Int.natCast_add] at e2
    obtain ⟨M, hMM⟩ : ∃ M, M = (lnB y (n + acc.length + L.length + 2)).map lnD := ⟨_, rfl⟩
    rw [← hMM] at e2
    have hl2 : M.length = (lnB y (n + acc.length + L.length + 2)).length := by rw [hMM, List.length_map]
    obtain ⟨q2, hq2⟩ : ∃ q2, q2 = S.length := ⟨_, rfl⟩
    obtain ⟨T, hT⟩ : ∃ T, T = S ++ [O.lst M] ++ ν2 := ⟨_, rfl⟩
    rw [← hT, ← hq2] at e2
    have hqS : q < S.length := (List.getElem?_eq_some_iff.mp g2).1
    have g4 : T[q2]? = some (.lst M) := by rw [hT, hq2]; exact get_mid
    have g5 : T[q]? = some (.lst L) := by rw [hT, List.append_assoc, List.getElem?_append_left hqS]; exact g2
    have hT2 : T = μ ++ [O.lst acc] ++ (ν ++ ([O.lst L] ++ ν1 ++ [O.lst M] ++ ν2)) := by rw [hT, hS]; simp
    have g1 : T[μ.length]? = some (.lst acc) := by rw [hT2]; exact get_mid
    have g3 : ∀ o, T.set μ.length o = μ ++ [o] ++ (ν ++ ([O.lst L] ++ ν1 ++ [O.lst M] ++ ν2)) := fun o => by rw [hT2, set_mid]
    have hno : inD (μ ++ [O.lst acc] ++ ν) (.str [105, 102]) (gval .DOINGS) = some false := rfl
    rw [gval] at hno
    have hw : eqD (μ ++ [O.lst acc] ++ ν) (.str [105, 102]) (.str [119, 104, 105, 108, 101]) = some false := by rw [eqL _ _ _ (by decide)]; rfl
    refine ⟨[O.lst L] ++ ν1 ++ [O.lst M] ++ ν2, some (stD (.ifs a x y)), some (.int ((n : Int) + (acc.length : Nat))), a5, some (.ptr q), some (.ptr q2), some (.int ((n : Int) + (acc.length : Nat) + (L.length : Nat) + (M.length : Nat) + 2)), ?_⟩
    rw [stD]
    clear h1
    have c1 : 1 + L.length ≤ lineMax := by rw [lineMax_eq]; omega
    have c2 : ∀ d : D, ([d] ++ L).length + 1 ≤ lineMax := fun d => by rw [List.length_append, List.length_singleton, lineMax_eq]; omega
    have c4 : ∀ d d' : D, ([d] ++ L ++ [d']).length + M.length ≤ lineMax := fun d d' => by rw [List.length_append, List.length_append, List.length_singleton, List.length_singleton, lineMax_eq]; omega
    have c3 : ∀ d d' : D, acc.length + ([d] ++ L ++ [d'] ++ M).length ≤ lineMax := fun d d' => by rw [List.length_append, List.length_append, List.length_append, List.length_singleton, List.length_singleton, lineMax_eq]; omega
    have one : ((1 : Nat) : Int) = 1 := rfl
    have two : ((2 : Nat) : Int) = 2 := rfl
    rw [one] at e1
    rw [two] at e2
    walk_at "fh"
    repeat (first | (simp only [get_mid, hno, hw, e1, e2, g1, g2, g3, g4, g5, c1, c2, c3, c4]) | walk_at "fh")
    simp [lnS, lnD, hLL, hMM]
end
theorem lines_of_ok {b : Bd} {n k : Nat} {μ : Store} (h1 : lvB b ≤ 5) (h2 : cnB b ≤ 30) :
    ∃ ν, callK Gam fu (k + 6) .lines_of [prD b, .int (n : Nat)] μ = .ok (.ptr μ.length) (μ ++ [.lst ((lnB b n).map lnD)] ++ ν) :=
  lines_of_B (ln_B b (k + 5) (by omega)) (by omega)
end
/-! Runs: the things of the store, their keys. -/
theorem Sc.eq_iff (a b : Sc) : (a.rows = b.rows ∧ a.r = b.r ∧ a.c = b.c ∧ a.w = b.w ∧ a.h = b.h) ↔ a = b := by
  cases a; cases b
  simp
def Sc.dec (a b : Sc) : Decidable (a = b) := decidable_of_iff _ (Sc.eq_iff a b)
instance : DecidableEq Sc := Sc.dec
open PySem (NestedKey)
def nkS (s : Sc) : NestedKey := .tup [.tup (s.rows.map fun l => .text ⟨l.toArray⟩), .num s.r, .num s.c, .num s.w, .num s.h]
def nkA (a : Nat) (s : Sc) : NestedKey := .tup [.num a, nkS s]
theorem toNKs_strs : ∀ r : Rows, toNKs (r.map .str) = some (r.map fun l => .text ⟨l.toArray⟩)
  | [] => rfl
  | l :: r => by rw [List.map_cons, toNKs, toNK, toNKs_strs r]; rfl
theorem depth_strs : ∀ r : Rows, NestedKey.depthAll (r.map fun l => .text ⟨l.toArray⟩) = 0
  | [] => rfl
  | l :: r => by rw [List.map_cons, NestedKey.depthAll, depth_strs r]; rfl
theorem toNK_sc (s : Sc) : toNK (scD s) = some (nkS s) := by
  simp only [scD, rowsD, toNK, toNKs, toNKs_strs, Option.map_some, Option.bind_some, nkS]
theorem depth_sc (s : Sc) : (nkS s).depth = 2 := by
  simp only [nkS, NestedKey.depth, NestedKey.depthAll, depth_strs]
  rfl
theorem keyD_sc (s : Sc) : keyD (scD s) = some (nkS s) := by
  have h : keyD (scD s) = (toNK (scD s)).bind fun k => if k.depth ≤ 8 then some k else none := rfl
  rw [h, toNK_sc, Option.bind_some, if_pos (by rw [depth_sc]; decide)]
theorem keyD_at (a : Nat) (s : Sc) : keyD (.tup [.int a, scD s]) = some (nkA a s) := by
  have h : keyD (.tup [.int a, scD s]) = (toNK (.tup [.int a, scD s])).bind fun k => if k.depth ≤ 8 then some k else none := rfl
  have h2 : toNK (.tup [.int a, scD s]) = some (nkA a s) := by
    simp only [toNK, toNKs, toNK_sc, Option.map_some, Option.bind_some, nkA]
  rw [h, h2, Option.bind_some, if_pos]
  simp only [nkA, NestedKey.depth, NestedKey.depthAll, depth_sc]
  decide
theorem nkS_inj {s t : Sc} (h : nkS s = nkS t) : s = t := by
  cases s; cases t
  simp only [nkS, NestedKey.tup.injEq, List.cons.injEq, NestedKey.num.injEq, and_true, Int.natCast_inj] at h
  obtain ⟨h1, rfl, rfl, rfl, rfl⟩ := h
  rw [List.map_inj_right (fun x y hxy => by
    simp only [NestedKey.text.injEq, PySem.Str.mk.injEq] at hxy
    simpa using congrArg Array.toList hxy)] at h1
  rw [h1]
theorem nkA_inj {a b : Nat} {s t : Sc} (h : nkA a s = nkA b t) : a = b ∧ s = t := by
  simp only [nkA, NestedKey.tup.injEq, List.cons.injEq, NestedKey.num.injEq, and_true, Int.natCast_inj] at h
  exact ⟨h.1, nkS_inj h.2⟩
abbrev Met := List ((Nat × Sc) × Nat)
def look : Met → Nat → Sc → Option Nat
  | [], _, _ => none
  | ((b, t), m) :: r, a, s => if b = a ∧ t = s then some m else look r a s
def kvD (kvs : Met) : List (D × D) := kvs.map fun x => (.tup [.int x.1.1, scD x.1.2], .int x.2)
theorem dkey_kv : ∀ (kvs : Met) (a : Nat) (s : Sc), dkey (kvD kvs) (nkA a s) = (look kvs a s).map fun m => .int m
  | [], a, s => rfl
  | ((b, t), m) :: r, a, s => by
    have ih := dkey_kv r a s
    rw [kvD, List.map_cons, dkey, look, keyD_at]
    by_cases h : b = a ∧ t = s
    · rw [if_pos h, if_pos (by rw [h.1, h.2])]
      rfl
    · rw [if_neg h, if_neg (fun e => h (nkA_inj (Option.some.inj e)))]
      exact ih
theorem setK_kv : ∀ (kvs : Met) (a : Nat) (s : Sc) (n : Nat), look kvs a s = none → setK (kvD kvs) (nkA a s) (.tup [.int a, scD s]) (.int n) = kvD (kvs ++ [((a, s), n)])
  | [], a, s, n, _ => rfl
  | ((b, t), m) :: r, a, s, n, h => by
    rw [look] at h
    by_cases hh : b = a ∧ t = s
    · rw [if_pos hh] at h; cases h
    · rw [if_neg hh] at h
      have ih := setK_kv r a s n h
      rw [kvD, List.map_cons, setK, keyD_at, if_neg (fun e => hh (nkA_inj (Option.some.inj e)))]
      show _ :: setK (kvD r) _ _ _ = _
      rw [ih]
      rfl
inductive Oc where
  | done (s : Sc) | broken (w : Wd) (s : Sc) | forever
def ocD : Option Oc → D
  | none => .non
  | some (.done s) => .tup [.str [100, 111, 110, 101], scD s]
  | some (.broken w s) => .tup [.str [98, 114, 111, 107, 101, 110], .str w.c, scD s]
  | some .forever => .tup [.str [102, 111, 114, 101, 118, 101, 114]]
def arD : Option (Nat × Int) → D
  | none => .non
  | some (m, d) => .tup [.int m, .int d]
structure RS where
  at_ : Nat
  s : Sc
  n : Nat
  kvs : Met
  o : Option Oc
  ar : Option (Nat × Int)
abbrev rsF (pl pm : Nat) (x : RS) : List (Fld × D) := [(.lines, .ptr pl), (.at_, .int x.at_), (.scene, scD x.s), (.doings, .int x.n), (.met, .ptr pm), (.outcome, ocD x.o), (.around, arD x.ar)]
/-- a run in the store -/
structure Rn (μ : Store) (p pl pm : Nat) (ls : List Ln) (x : RS) : Prop where
  g : μ[p]? = some (.ins (rsF pl pm x))
  l : μ[pl]? = some (.lst (ls.map lnD))
  m : μ[pm]? = some (.dic (kvD x.kvs))
  n1 : p ≠ pl
  n2 : p ≠ pm
  n3 : pl ≠ pm
/-- all but two things are as they were -/
def Same (μ μ' : Store) (p q : Nat) : Prop := μ'.length = μ.length ∧ ∀ r, r ≠ p → r ≠ q → μ'[r]? = μ[r]?
theorem Same.refl (μ : Store) (p q : Nat) : Same μ μ p q := ⟨rfl, fun _ _ _ => rfl⟩
theorem Same.trans {μ μ' μ'' : Store} {p q : Nat} (h : Same μ μ' p q) (h' : Same μ' μ'' p q) : Same μ μ'' p q := ⟨h'.1.trans h.1, fun r a b => (h'.2 r a b).trans (h.2 r a b)⟩
theorem Same.set1 {μ : Store} {p q : Nat} {o : O} : Same μ (μ.set p o) p q := ⟨List.length_set, fun _ a _ => get_set_ne (Ne.symm a)⟩
theorem Same.set2 {μ : Store} {p q : Nat} {o : O} : Same μ (μ.set q o) p q := ⟨List.length_set, fun _ _ a => get_set_ne (Ne.symm a)⟩
section
variable {μ : Store} {p pl pm : Nat} {ls : List Ln} {x : RS}
theorem Rn.lt (h : Rn μ p pl pm ls x) : p < μ.length := (List.getElem?_eq_some_iff.mp h.g).1
theorem Rn.ltm (h : Rn μ p pl pm ls x) : pm < μ.length := (List.getElem?_eq_some_iff.mp h.m).1
theorem Rn.put (h : Rn μ p pl pm ls x) {y : RS} (e : y.kvs = x.kvs) : Rn (μ.set p (.ins (rsF pl pm y))) p pl pm ls y where
  g := get_set h.lt
  l := by rw [get_set_ne h.n1]; exact h.l
  m := by rw [get_set_ne h.n2, e]; exact h.m
  n1 := h.n1
  n2 := h.n2
  n3 := h.n3
theorem Rn.putm (h : Rn μ p pl pm ls x) {y : RS} (e : rsF pl pm y = rsF pl pm x) : Rn (μ.set pm (.dic (kvD y.kvs))) p pl pm ls y where
  g := by rw [get_set_ne h.n2.symm, e]; exact h.g
  l := by rw [get_set_ne h.n3.symm]; exact h.l
  m := get_set h.ltm
  n1 := h.n1
  n2 := h.n2
  n3 := h.n3
end
def jmp (ls : List Ln) : Nat → Nat → Option Nat
  | 0, _ => none
  | j + 1, a => match ls[a]? with
    | some (.on t) => jmp ls j t
    | _ => some a
section
variable {μ : Store} {p pl pm fu k : Nat} {ls : List Ln} {x : RS}
theorem ln_at {a : Nat} {l : Ln} (h : ls[a]? = some l) : atI (ls.map lnD) (a : Int) = some (lnD l) := by
  rw [atI_nat, List.getElem?_map, h]; rfl
theorem ln_lt {a : Nat} {l : Ln} (h : ls[a]? = some l) : (a : Int) < ((ls.map lnD).length : Int) := by
  have := (List.getElem?_eq_some_iff.mp h).1
  rw [List.length_map]; omega
theorem ln_ge {a : Nat} (h : ls[a]? = none) : ¬ (a : Int) < ((ls.map lnD).length : Int) := by
  have := List.getElem?_eq_none_iff.mp h
  rw [List.length_map]; omega
theorem go_loop {c1 : Nat} {a1 : Option D} : ∀ (j f : Nat) (μ : Store) (x : RS) (b : Nat), Rn μ p pl pm ls x → jmp ls j x.at_ = some b → j ≤ f →
    gWhl2 (callK Gam fu k) fu none (.and (.cmp .Lt (.fld (.var 0) .at_) (.blt .len (.cons (.fld (.var 0) .lines) .nil))) (.cmp .Eq (.idx (.idx (.fld (.var 0) .lines) (.fld (.var 0) .at_)) (.con (.int 0))) (.con (.str [111, 110])))) (.cons (.setF (.var 0) .at_ (.idx (.idx (.fld (.var 0) .lines) (.fld (.var 0) .at_)) (.con (.int 1))))
  .nil) f [some (.ptr p), a1] μ = .nx [some (.ptr p), a1] (μ.set p (.ins (rsF pl pm { x with at_ := b })))
  | 0, f, μ, x, b, h, e, hf => by cases e
  | j + 1, f, μ, x, b, h, e, hf => by
    obtain ⟨f, rfl⟩ : ∃ f', f = f' + 1 := ⟨f - 1, by omega⟩
    have g := h.g
    have l := h.l
    rw [rsF] at g
    rw [jmp] at e
    cases hl : ls[x.at_]? with
    | none =>
      rw [hl] at e
      simp only [Option.some.injEq] at e
      have c := ln_ge hl
      clear hl
      have hs : μ.set p (.ins (rsF pl pm { x with at_ := b })) = μ := by rw [← e]; exact set_same h.g
      rw [hs]
      clear hs e hf
      walk_at "fhs"
    | some li =>
      rw [hl] at e
      have c := ln_lt hl
      have hat := ln_at hl
      clear hl
      cases li with
      | on t =>
        simp only at e
        have ih := go_loop (c1 := c1) (a1 := a1) j f (μ.set p (.ins (rsF pl pm { x with at_ := t }))) { x with at_ := t } b (h.put rfl) e (by omega)
        rw [List.set_set] at ih
        rw [lnD] at hat
        have q : eqD μ (.str [111, 110]) (.str [111, 110]) = some true := by rw [eqL _ _ _ (by decide)]; rfl
        have c7 : 7 < 1000 := by decide
        clear e hf
        walk_at "fhs"
      | act w =>
        simp only [Option.some.injEq] at e
        have hs : μ.set p (.ins (rsF pl pm { x with at_ := b })) = μ := by rw [← e]; exact set_same h.g
        rw [hs]
        rw [lnD] at hat
        have q : eqD μ (.str w.c) (.str [111, 110]) = some false := by
          rw [eqL _ _ _ (by cases w <;> decide)]; cases w <;> rfl
        clear hs e hf
        walk_at "fhs"
      | ask a t =>
        simp only [Option.some.injEq] at e
        have hs : μ.set p (.ins (rsF pl pm { x with at_ := b })) = μ := by rw [← e]; exact set_same h.g
        rw [hs]
        rw [lnD] at hat
        have q : eqD μ (.str [97, 115, 107]) (.str [111, 110]) = some false := by rw [eqL _ _ _ (by decide)]; rfl
        clear hs e hf
        walk_at "fhs"
end
/-! A run's step. -/
def stepR (fu : Nat) (ls : List Ln) (x : RS) : Option (Bool × RS) :=
  match jmp ls fu x.at_ with
  | none => none
  | some b => match ls[b]? with
    | none => if b = ls.length then some (false, { x with at_ := b, o := some (.done x.s) }) else none
    | some l => match look x.kvs b x.s with
      | some m => some (false, { x with at_ := b, o := some .forever, ar := some (m, (x.n : Int) - m) })
      | none => if x.kvs.length < lineMax then (match l with
          | .ask a t => some (false, { x with kvs := x.kvs ++ [((b, x.s), x.n)], at_ := if so x.s a then b + 1 else t })
          | .act w => (match doing x.s w with
            | none => some (false, { x with at_ := b, kvs := x.kvs ++ [((b, x.s), x.n)], o := some (.broken w x.s) })
            | some s' => some (true, { x with kvs := x.kvs ++ [((b, x.s), x.n)], s := s', n := x.n + 1, at_ := b + 1 }))
          | .on _ => none) else none
section
variable {μ : Store} {p pl pm fu k : Nat} {ls : List Ln} {x : RS}
theorem kv_len (m : Met) : (kvD m).length = m.length := List.length_map ..
theorem go_done {b : Nat} (h : Rn μ p pl pm ls x) (hj : jmp ls fu x.at_ = some b) (hb : b = ls.length) :
    callK Gam fu (k + 1) .Run_go_on [.ptr p] μ = .ok .non (μ.set p (.ins (rsF pl pm { x with at_ := b, o := some (.done x.s) }))) := by
  have e := go_loop (fu := fu) (k := k) (c1 := 0) (a1 := none) fu fu μ x b h hj (Nat.le_refl _)
  have h1 := h.put (y := { x with at_ := b }) rfl
  have g := h1.g
  have l := h1.l
  rw [rsF] at g
  generalize hS : μ.set p (.ins (rsF pl pm { x with at_ := b })) = S at *
  have hs : ∀ o, S.set p o = μ.set p o := fun o => by rw [← hS, List.set_set]
  have q : eqD S (.int b) (.int ((ls.map lnD).length : Nat)) = some true := by rw [eqD_int, List.length_map, hb]; simp
  have c7 : 7 < 1000 := by decide
  rw [c_Run_go_on]
  unfold B_Run_go_on
  clear hS hj hb h1 h
  walk_at "fhs"
  rfl
theorem go_met {b m : Nat} {li : Ln} (h : Rn μ p pl pm ls x) (hj : jmp ls fu x.at_ = some b) (hb : ls[b]? = some li) (hm : look x.kvs b x.s = some m) :
    callK Gam fu (k + 1) .Run_go_on [.ptr p] μ = .ok .non (μ.set p (.ins (rsF pl pm { x with at_ := b, o := some .forever, ar := some (m, (x.n : Int) - m) }))) := by
  have e := go_loop (fu := fu) (k := k) (c1 := 0) (a1 := none) fu fu μ x b h hj (Nat.le_refl _)
  have h1 := h.put (y := { x with at_ := b }) rfl
  have g := h1.g
  have l := h1.l
  have hm1 := h1.m
  rw [rsF] at g
  have hlt := h1.lt
  generalize hS : μ.set p (.ins (rsF pl pm { x with at_ := b })) = S at *
  have hs : ∀ o, S.set p o = μ.set p o := fun o => by rw [← hS, List.set_set]
  have hlt' := h.lt
  have q : eqD S (.int b) (.int ((ls.map lnD).length : Nat)) = some false := by
    have := ln_lt hb
    rw [eqD_int]
    congr 1
    rw [beq_eq_false_iff_ne]
    omega
  have i1 : inD S (.tup [.int b, scD x.s]) (.ptr pm) = some true := by
    simp only [inD, hm1, keyD_at, Option.map_some, dkey_kv, hm]
    rfl
  have h2 : ∀ y : RS, y.kvs = x.kvs → (μ.set p (.ins (rsF pl pm y)))[pm]? = some (.dic (kvD x.kvs)) := fun y hy => by
    rw [get_set_ne h.n2]; exact h.m
  have i2 : ∀ y : RS, y.kvs = x.kvs → idxD (μ.set p (.ins (rsF pl pm y))) (.ptr pm) (.tup [.int b, scD x.s]) = some (.int m) := fun y hy => by
    simp only [idxD, h2 y hy, keyD_at, Option.bind_some, dkey_kv, hm, Option.map_some]
  have i3 := i2 { x with at_ := b, o := some .forever } rfl
  rw [rsF] at i3
  have c7 : 7 < 1000 := by decide
  rw [c_Run_go_on]
  unfold B_Run_go_on
  clear hS hj hb hm h1 h i2 h2
  have o1 : ocD (some .forever) = .tup [.str [102, 111, 114, 101, 118, 101, 114]] := rfl
  rw [o1] at i3
  walk_at "fhs"
  rfl
theorem go_new {b : Nat} {li : Ln} (h : Rn μ p pl pm ls x) (hj : jmp ls fu x.at_ = some b) (hb : ls[b]? = some li) (hm : look x.kvs b x.s = none) (hz : x.kvs.length < lineMax) :
    ∃ μ', callK Gam fu (k + 1) .Run_go_on [.ptr p] μ = .ok .non μ' ∧ Rn μ' p pl pm ls { x with at_ := b, kvs := x.kvs ++ [((b, x.s), x.n)] } ∧ Same μ μ' p pm := by
  have e := go_loop (fu := fu) (k := k) (c1 := 0) (a1 := none) fu fu μ x b h hj (Nat.le_refl _)
  have h1 := h.put (y := { x with at_ := b }) rfl
  have g := h1.g
  have l := h1.l
  have hm1 := h1.m
  rw [rsF] at g
  have s1 : Same μ (μ.set p (.ins (rsF pl pm { x with at_ := b }))) p pm := Same.set1
  generalize hS : μ.set p (.ins (rsF pl pm { x with at_ := b })) = S at *
  refine ⟨S.set pm (.dic (kvD (x.kvs ++ [((b, x.s), x.n)]))), ?_, h1.putm (y := { x with at_ := b, kvs := x.kvs ++ [((b, x.s), x.n)] }) rfl, s1.trans Same.set2⟩
  have q : eqD S (.int b) (.int ((ls.map lnD).length : Nat)) = some false := by
    have := ln_lt hb
    rw [eqD_int]
    congr 1
    rw [beq_eq_false_iff_ne]
    omega
  have i1 : inD S (.tup [.int b, scD x.s]) (.ptr pm) = some false := by
    simp only [inD, hm1, keyD_at, Option.map_some, dkey_kv, hm]
    rfl
  have i2 : setIx (.ptr pm) (.tup [.int b, scD x.s]) (.int x.n) S = some (S.set pm (.dic (kvD (x.kvs ++ [((b, x.s), x.n)])))) := by
    simp only [setIx, hm1, keyD_at, Option.bind_some]
    rw [if_pos (by rw [kv_len]; exact hz), setK_kv _ _ _ _ hm]
  have c7 : 7 < 1000 := by decide
  rw [c_Run_go_on]
  unfold B_Run_go_on
  clear hS hj hb hm h1 h hz s1 hm1
  walk_at "fhs"
theorem step_ok {W H : Nat} {r : Bool} {x' : RS} (h : Rn μ p pl pm ls x) (ho : x.o = none) (hf : Fit x.s W H) (hs : stepR fu ls x = some (r, x')) :
    ∃ μ', callK Gam fu (k + 3) .Run_step [.ptr p] μ = .ok (.bl r) μ' ∧ Rn μ' p pl pm ls x' ∧ Same μ μ' p pm := by
  rw [stepR] at hs
  have g0 := h.g
  rw [rsF] at g0
  cases hj : jmp ls fu x.at_ with
  | none => rw [hj] at hs; cases hs
  | some b =>
    rw [hj] at hs
    simp only at hs
    cases hb : ls[b]? with
    | none =>
      rw [hb] at hs
      simp only at hs
      split at hs
      · rename_i hbl
        simp only [Option.some.injEq, Prod.mk.injEq] at hs
        obtain ⟨rfl, rfl⟩ := hs
        have e := go_done (k := k + 1) h hj hbl
        have h1 := h.put (y := { x with at_ := b, o := some (.done x.s) }) rfl
        refine ⟨_, ?_, h1, Same.set1⟩
        have g := h1.g
        rw [rsF, ocD] at g
        rw [rsF, ocD] at e
        rw [rsF, ocD]
        generalize μ.set p (.ins _) = S at *
        rw [c_Run_step]
        unfold B_Run_step
        clear h1 h hj hb hbl
        walk_at "fhs"
      · cases hs
    | some li =>
      rw [hb] at hs
      simp only at hs
      cases hm : look x.kvs b x.s with
      | some m =>
        rw [hm] at hs
        simp only [Option.some.injEq, Prod.mk.injEq] at hs
        obtain ⟨rfl, rfl⟩ := hs
        have e := go_met (k := k + 1) h hj hb hm
        have h1 := h.put (y := { x with at_ := b, o := some .forever, ar := some (m, (x.n : Int) - m) }) rfl
        refine ⟨_, ?_, h1, Same.set1⟩
        have g := h1.g
        rw [rsF, ocD] at g
        rw [rsF, ocD] at e
        rw [rsF, ocD]
        generalize μ.set p (.ins _) = S at *
        rw [c_Run_step]
        unfold B_Run_step
        clear h1 h hj hb hm
        walk_at "fhs"
      | none =>
        rw [hm] at hs
        simp only at hs
        split at hs
        · rename_i hz
          obtain ⟨S, e, h1, s1⟩ := go_new (k := k + 1) h hj hb hm hz
          have g := h1.g
          have l := h1.l
          have hat := ln_at hb
          have hlt := h1.lt
          have oN : ocD none = .non := rfl
          rw [rsF] at g
          have c7 : 7 < 1000 := by decide
          cases li with
          | on t => cases hs
          | ask a t =>
            simp only [Option.some.injEq, Prod.mk.injEq] at hs
            obtain ⟨rfl, rfl⟩ := hs
            have h2 := h1.put (y := { x with at_ := if so x.s a then b + 1 else t, kvs := x.kvs ++ [((b, x.s), x.n)] }) rfl
            refine ⟨_, ?_, h2, s1.trans Same.set1⟩
            have es := is_so_ok (μ := S) (fu := fu) (k := k) hf a
            have q : eqD S (.str [97, 115, 107]) (.str [97, 115, 107]) = some true := by rw [eqL _ _ _ (by decide)]; rfl
            rw [lnD] at hat
            rw [c_Run_step]
            unfold B_Run_step
            clear h1 h hj hb hm h2 hf hz s1
            cases hso : so x.s a with
            | true =>
              rw [hso] at es
              clear hso
              walk_at "fhs"
              rfl
            | false =>
              rw [hso] at es
              clear hso
              walk_at "fhs"
              rfl
          | act w =>
            have q : eqD S (.str w.c) (.str [97, 115, 107]) = some false := by
              rw [eqL _ _ _ (by cases w <;> decide)]; cases w <;> rfl
            have es := behind_ok (μ := S) (fu := fu) (k := k) hf w
            rw [lnD] at hat
            simp only at hs
            cases hd : doing x.s w with
            | none =>
              rw [hd] at hs es
              simp only [Option.some.injEq, Prod.mk.injEq] at hs
              obtain ⟨rfl, rfl⟩ := hs
              have h2 := h1.put (y := { x with at_ := b, kvs := x.kvs ++ [((b, x.s), x.n)], o := some (.broken w x.s) }) rfl
              refine ⟨_, ?_, h2, s1.trans Same.set1⟩
              rw [optD] at es
              rw [c_Run_step]
              unfold B_Run_step
              clear h1 h hj hb hm h2 hf hz s1 hd
              walk_at "fhs"
              rfl
            | some s' =>
              rw [hd] at hs es
              simp only [Option.some.injEq, Prod.mk.injEq] at hs
              obtain ⟨rfl, rfl⟩ := hs
              have h2 := h1.put (y := { x with at_ := b + 1, kvs := x.kvs ++ [((b, x.s), x.n)], s := s', n := x.n + 1 }) rfl
              refine ⟨_, ?_, h2, s1.trans Same.set1⟩
              rw [optD] at es
              have hsc : scD s' = .tup [rowsD s'.rows, .int s'.r, .int s'.c, .int s'.w, .int s'.h] := rfl
              rw [rsF]
              simp only
              rw [hsc] at es ⊢
              rw [c_Run_step]
              unfold B_Run_step
              clear h1 h hj hb hm h2 hf hz s1 hd hsc
              walk_at "fhs"
              rfl
        · cases hs
end
/-! Whole runs: run_of, ran, ring, passed. -/
def runR (fu : Nat) (ls : List Ln) : Nat → RS → Option RS
  | 0, _ => none
  | f + 1, x => match x.o with
    | some _ => some x
    | none => match stepR fu ls x with
      | some (_, x') => runR fu ls f x'
      | none => none
def passR (fu : Nat) (ls : List Ln) (many : Nat) : Nat → RS → List Sc → Option (List Sc)
  | 0, _, _ => none
  | f + 1, x, found => if found.length < many then (match stepR fu ls x with
      | none => none
      | some (r, x') => match x'.o with
        | none => passR fu ls many f x' (if r then found ++ [x'.s] else found)
        | some .forever => (match x'.ar with
          | some (_, d) => if d = 0 then some (if r then found ++ [x'.s] else found) else passR fu ls many f { x' with o := none, kvs := [] } (if r then found ++ [x'.s] else found)
          | none => none)
        | some _ => some (if r then found ++ [x'.s] else found)) else some found
/-- the things ahead of b are as they were -/
def Kp (b : Nat) (μ μ' : Store) : Prop := μ.length ≤ μ'.length ∧ ∀ q, q < b → μ'[q]? = μ[q]?
theorem Kp.refl (b : Nat) (μ : Store) : Kp b μ μ := ⟨Nat.le_refl _, fun _ _ => rfl⟩
theorem Kp.trans {b : Nat} {μ μ' μ'' : Store} (h : Kp b μ μ') (h' : Kp b μ' μ'') : Kp b μ μ'' := ⟨Nat.le_trans h.1 h'.1, fun q hq => (h'.2 q hq).trans (h.2 q hq)⟩
theorem Same.kp {b p q : Nat} {μ μ' : Store} (h : Same μ μ' p q) (hp : b ≤ p) (hq : b ≤ q) : Kp b μ μ' := ⟨by rw [h.1]; exact Nat.le_refl _, fun r hr => h.2 r (by omega) (by omega)⟩
theorem Kp.app {b : Nat} {μ ν : Store} (h : b ≤ μ.length) : Kp b μ (μ ++ ν) := ⟨by simp, fun q hq => List.getElem?_append_left (by omega)⟩
theorem Kp.set {b p : Nat} {μ : Store} {o : O} (h : b ≤ p) : Kp b μ (μ.set p o) := ⟨by simp, fun q hq => get_set_ne (by omega)⟩
theorem Kp.row {b p : Nat} {μ μ' : Store} {ns : List Int} (h : Kp b μ μ') (hp : p < b) (hr : RowAt ns p μ) : RowAt ns p μ' := by
  obtain ⟨a, c, d, ha, e⟩ := hr
  exact ⟨a, c, d, ha, by rw [h.2 p hp]; exact e⟩
theorem step_fit {fu W H : Nat} {ls : List Ln} {x x' : RS} {r : Bool} (hf : Fit x.s W H) (h : stepR fu ls x = some (r, x')) : Fit x'.s W H := by
  rw [stepR] at h
  split at h
  · cases h
  · split at h
    · split at h
      · cases h; exact hf
      · cases h
    · split at h
      · cases h; exact hf
      · split at h
        · split at h
          · cases h; exact hf
          · split at h
            · cases h; exact hf
            · rename_i s' hd
              cases h
              exact doing_fit hf hd
          · cases h
        · cases h
section
variable {p pl pm fu k W H : Nat} {ls : List Ln}
theorem run_loop {a0 a1 : Option D} : ∀ (f : Nat) (μ : Store) (x x' : RS), Rn μ p pl pm ls x → Fit x.s W H → runR fu ls f x = some x' →
    ∃ μ', gWhl2 (callK Gam fu (k + 3)) fu none (.cmp .Is (.fld (.var 2) .outcome) (.con .non)) (.cons (.ex (.meth .Run_step (.var 2))) .nil) f [a0, a1, some (.ptr p)] μ = .nx [a0, a1, some (.ptr p)] μ' ∧ Rn μ' p pl pm ls x' ∧ Same μ μ' p pm
  | 0, μ, x, x', h, hf, hr => by cases hr
  | f + 1, μ, x, x', h, hf, hr => by
    rw [runR] at hr
    have g := h.g
    rw [rsF] at g
    cases ho : x.o with
    | some o =>
      rw [ho] at hr
      simp only [Option.some.injEq] at hr
      subst hr
      refine ⟨μ, ?_, h, Same.refl ..⟩
      rw [ho] at g
      clear h hf
      cases o <;> (rw [ocD] at g; walk_at "fhs")
    | none =>
      rw [ho] at hr
      simp only at hr
      cases hs : stepR fu ls x with
      | none => rw [hs] at hr; cases hr
      | some rx =>
        obtain ⟨r, y⟩ := rx
        rw [hs] at hr
        simp only at hr
        obtain ⟨μ1, e1, h1, s1⟩ := step_ok (k := k) h ho hf hs
        obtain ⟨μ2, e2, h2, s2⟩ := run_loop (a0 := a0) (a1 := a1) f μ1 y x' h1 (step_fit hf hs) hr
        refine ⟨μ2, ?_, h2, s1.trans s2⟩
        rw [ho, ocD] at g
        clear h hf hs hr ho h1 h2 s1 s2
        walk_at "fhs"
abbrev rs0 (s : Sc) : RS := ⟨0, s, 0, [], none, none⟩
theorem g_two {μ ν : Store} {a a' b c : O} : (μ ++ [a] ++ ([b] ++ ν ++ [c]))[(μ ++ [a']).length]? = some b := by
  have : (μ ++ [a']).length = (μ ++ [a]).length := by simp
  rw [this, List.append_assoc [b], ← List.append_assoc (μ ++ [a])]
  exact get_mid
theorem g_three {μ ν : Store} {a a' b c : O} : (μ ++ [a] ++ ([b] ++ ν ++ [c]))[(μ ++ [a'] ++ ([b] ++ ν)).length]? = some c := by
  have : (μ ++ [a'] ++ ([b] ++ ν)).length = (μ ++ [a] ++ ([b] ++ ν)).length := by simp
  rw [this, ← List.append_assoc (μ ++ [a])]
  exact get_app
theorem run_start {b : Bd} {s : Sc} {μ : Store} (h1 : lvB b ≤ 5) (h2 : cnB b ≤ 30) :
    ∃ μ' pl pm, fMake (callK Gam fu (k + 7)) .Run_init [prD b, scD s] μ = .ok (.ptr μ.length) μ' ∧ Rn μ' μ.length pl pm (lnB b 0) (rs0 s) ∧ Kp μ.length μ μ' ∧ μ.length ≤ pl ∧ μ.length ≤ pm ∧ μ.length < μ'.length := by
  obtain ⟨ν, e⟩ := lines_of_ok (fu := fu) (b := b) (n := 0) (k := k) (μ := μ ++ [O.ins []]) h1 h2
  rw [List.append_assoc (μ ++ [O.ins []])] at e
  have hm := run_made (s := scD s) (cx := none) (σ := []) (μ := μ) (k := k + 5) e
  refine ⟨_, (μ ++ [O.ins []]).length, (μ ++ [O.ins []] ++ ([O.lst ((lnB b 0).map lnD)] ++ ν)).length, hm, ⟨?_, ?_, ?_, ?_, ?_, ?_⟩, ?_, ?_, ?_, ?_⟩
  · exact get_mid
  · exact g_two
  · exact g_three
  · simp
  · simp
  · simp
  · rw [List.append_assoc]
    exact Kp.app (Nat.le_refl _)
  · simp
  · simp
  · simp
theorem run_of_ok {b : Bd} {s : Sc} {μ : Store} {x' : RS} (h1 : lvB b ≤ 5) (h2 : cnB b ≤ 30) (hf : Fit s W H) (hr : runR fu (lnB b 0) fu (rs0 s) = some x') :
    ∃ μ' pl pm, callK Gam fu (k + 8) .run_of [prD b, scD s] μ = .ok (.ptr μ.length) μ' ∧ Rn μ' μ.length pl pm (lnB b 0) x' ∧ Kp μ.length μ μ' := by
  obtain ⟨μ1, pl, pm, e1, r1, k1, p1, p2, p3⟩ := run_start (fu := fu) (k := k) (s := s) (μ := μ) h1 h2
  obtain ⟨μ2, e2, r2, s2⟩ := run_loop (k := k + 4) (a0 := some (prD b)) (a1 := some (scD s)) fu μ1 (rs0 s) x' r1 hf hr
  refine ⟨μ2, pl, pm, ?_, r2, k1.trans (s2.kp (Nat.le_refl _) p2)⟩
  rw [c_run_of]
  unfold B_run_of
  rw [fMake] at e1
  clear h1 h2 hr hf r1 r2 s2 k1 p1 p2 p3
  walk_at "fhs"
theorem ran_ok {b : Bd} {s : Sc} {μ : Store} {x' : RS} (h1 : lvB b ≤ 5) (h2 : cnB b ≤ 30) (hf : Fit s W H) (hh : s.h ≤ 36) (hr : runR fu (lnB b 0) fu (rs0 s) = some x') :
    ∃ μ', callK Gam fu (k + 9) .ran [prD b, scD s] μ = .ok (ocD x'.o) μ' ∧ Kp μ.length μ μ' := by
  obtain ⟨μ1, pl, pm, e1, r1, k1⟩ := run_of_ok (fu := fu) (k := k) (μ := μ) h1 h2 hf hr
  have n1 := need_program_ok (fu := fu) (k := k + 1) (μ := μ) h1 h2
  have n2 := need_scene_ok (fu := fu) (k := k + 6) (μ := μ) hf hh
  have g := r1.g
  rw [rsF] at g
  refine ⟨μ1, ?_, k1⟩
  rw [c_ran]
  unfold B_ran
  clear h1 h2 hr hf r1 k1 hh
  walk_at "fhs"
theorem ring_ok {b : Bd} {s : Sc} {μ : Store} {x' : RS} (h1 : lvB b ≤ 5) (h2 : cnB b ≤ 30) (hf : Fit s W H) (hh : s.h ≤ 36) (hr : runR fu (lnB b 0) fu (rs0 s) = some x') :
    ∃ μ', callK Gam fu (k + 9) .ring [prD b, scD s] μ = .ok (arD x'.ar) μ' ∧ Kp μ.length μ μ' := by
  obtain ⟨μ1, pl, pm, e1, r1, k1⟩ := run_of_ok (fu := fu) (k := k) (μ := μ) h1 h2 hf hr
  have n1 := need_program_ok (fu := fu) (k := k + 1) (μ := μ) h1 h2
  have n2 := need_scene_ok (fu := fu) (k := k + 6) (μ := μ) hf hh
  have g := r1.g
  rw [rsF] at g
  refine ⟨μ1, ?_, k1⟩
  rw [c_ring]
  unfold B_ring
  clear h1 h2 hr hf r1 k1 hh
  walk_at "fhs"
end
/-! The scenes passed. -/
section
variable {fu k W H : Nat} {ls : List Ln}
abbrev passIf : S := (.ifs (.meth .Run_step (.var 3)) (.cons (.ex (.mth .append (.var 4) (.cons (.fld (.var 3) .scene) .nil)))
  .nil) .nil)
abbrev passRest : Ss := (.cons (.ifs (.and (.cmp .IsNot (.fld (.var 3) .outcome) (.con .non)) (.cmp .NotEq (.fld (.var 3) .outcome) (.tup (.cons (.con (.str [102, 111, 114, 101, 118, 101, 114])) .nil)))) (.cons (.ret (.var 4))
  .nil) .nil)
  (.cons (.ifs (.cmp .IsNot (.fld (.var 3) .outcome) (.con .non)) (.cons (.setF (.var 3) .outcome (.con .non))
  (.cons (.setF (.var 3) .met .dnew)
  (.cons (.ifs (.cmp .Eq (.idx (.fld (.var 3) .around) (.con (.int 1))) (.con (.int 0))) (.cons (.ret (.var 4))
  .nil) .nil)
  .nil))) .nil)
  .nil))
theorem pass_if {A0 A1 A2 : Option D} {S : Store} {p pl pm pf : Nat} {x x' : RS} {r : Bool} {found : List Sc} (h : Rn S p pl pm ls x) (ho : x.o = none) (hf : Fit x.s W H) (hs : stepR fu ls x = some (r, x'))
    (hF : S[pf]? = some (.lst (found.map scD))) (n1 : pf ≠ p) (n2 : pf ≠ pl) (n3 : pf ≠ pm) (hl : found.length < 1000) :
    ∃ S1, ex1 (callK Gam fu (k + 3)) fu passIf none [A0, A1, A2, some (.ptr p), some (.ptr pf)] S = .nx [A0, A1, A2, some (.ptr p), some (.ptr pf)] S1 ∧ Rn S1 p pl pm ls x' ∧ S1[pf]? = some (.lst ((if r then found ++ [x'.s] else found).map scD)) ∧ S.length ≤ S1.length ∧ (∀ q, q ≠ p → q ≠ pm → q ≠ pf → S1[q]? = S[q]?) := by
  obtain ⟨S1, e, h1, s1⟩ := step_ok (k := k) h ho hf hs
  have g0 := h.g
  rw [rsF] at g0
  have g := h1.g
  rw [rsF] at g
  have hF1 : S1[pf]? = some (.lst (found.map scD)) := by rw [s1.2 pf n1 n3]; exact hF
  cases r with
  | false =>
    refine ⟨S1, ?_, h1, hF1, by rw [s1.1]; exact Nat.le_refl _, fun q a b _ => s1.2 q a b⟩
    clear h h1 hf hs ho s1 hl
    walk_at "fhs"
  | true =>
    have hlt : pf < S1.length := (List.getElem?_eq_some_iff.mp hF1).1
    refine ⟨S1.set pf (.lst (found.map scD ++ [scD x'.s])), ?_, ⟨?_, ?_, ?_, h1.n1, h1.n2, h1.n3⟩, ?_, ?_, ?_⟩
    · have hm : (found.map scD).length < lineMax := by rw [List.length_map, lineMax_eq]; omega
      clear h h1 hf hs ho s1 hl hlt
      walk_at "fhs"
    · rw [get_set_ne n1]; exact h1.g
    · rw [get_set_ne n2]; exact h1.l
    · rw [get_set_ne n3]; exact h1.m
    · rw [get_set hlt]; simp
    · rw [List.length_set, s1.1]; exact Nat.le_refl _
    · intro q a b c
      rw [get_set_ne (Ne.symm c)]
      exact s1.2 q a b
theorem eq_oc {S : Store} {s : Sc} (hP : RowsP s.rows) : ∀ o : Oc, (o = .done s ∨ ∃ w, o = .broken w s) → eqD S (ocD (some o)) (.tup [.str [102, 111, 114, 101, 118, 101, 114]]) = some false := by
  intro o ho
  have h1 := pd_sc hP
  have h2 := dd_sc s
  rcases ho with rfl | ⟨w, rfl⟩
  · have hp : pd (ocD (some (.done s))) = true := by simp [ocD, pd, pds, h1]
    have hd : dd (ocD (some (.done s))) ≤ 64 := by simp [ocD, dd, dds]; omega
    rw [ocD] at *
    rw [eqD_of (a := .tup [.str [100, 111, 110, 101], scD s]) (b := .tup [.str [102, 111, 114, 101, 118, 101, 114]]) hp rfl hd (show 2 ≤ 64 by decide)]
    rfl
  · have hw : w.c.all (· < 0x110000) = true := by cases w <;> decide
    have hp : pd (ocD (some (.broken w s))) = true := by simp only [ocD, pd, pds, h1, hw]; rfl
    have hd : dd (ocD (some (.broken w s))) ≤ 64 := by simp [ocD, dd, dds]; omega
    rw [ocD] at *
    rw [eqD_of (a := .tup [.str [98, 114, 111, 107, 101, 110], .str w.c, scD s]) (b := .tup [.str [102, 111, 114, 101, 118, 101, 114]]) hp rfl hd (show 2 ≤ 64 by decide)]
    rfl
theorem eq_fe {S : Store} : eqD S (.tup [.str [102, 111, 114, 101, 118, 101, 114]]) (.tup [.str [102, 111, 114, 101, 118, 101, 114]]) = some true := by
  rw [eqD_of (a := .tup [.str [102, 111, 114, 101, 118, 101, 114]]) (b := .tup [.str [102, 111, 114, 101, 118, 101, 114]]) rfl rfl (show 2 ≤ 64 by decide) (show 2 ≤ 64 by decide)]
  rfl
/-- what comes out tells the scene of the run -/
theorem step_oc {x x' : RS} {r : Bool} {o : Oc} (ho : x.o = none) (h : stepR fu ls x = some (r, x')) (h' : x'.o = some o) : o = .forever ∨ (o = .done x'.s ∨ ∃ w, o = .broken w x'.s) := by
  rw [stepR] at h
  split at h
  · cases h
  · split at h
    · split at h
      · cases h; cases h'; exact .inr (.inl rfl)
      · cases h
    · split at h
      · cases h; cases h'; exact .inl rfl
      · split at h
        · split at h
          · cases h; rw [ho] at h'; cases h'
          · split at h
            · cases h; cases h'; exact .inr (.inr ⟨_, rfl⟩)
            · cases h; rw [ho] at h'; cases h'
          · cases h
        · cases h
theorem pass_loop {A0 A1 : Option D} {p pl pf b many : Nat} (hb1 : b ≤ p) (hb2 : b ≤ pf) (n1 : pf ≠ p) (n2 : pf ≠ pl) (hmany : many ≤ 1000) : ∀ (f : Nat) (pm : Nat) (S : Store) (x : RS) (found res : List Sc), Rn S p pl pm ls x → x.o = none → Fit x.s W H →
    S[pf]? = some (.lst (found.map scD)) → pf ≠ pm → b ≤ pm → passR fu ls many f x found = some res →
    ∃ μ', (gWhl2 (callK Gam fu (k + 3)) fu none (.cmp .Lt (.blt .len (.cons (.var 4) .nil)) (.var 2)) (.cons passIf passRest) f [A0, A1, some (.int (many : Nat)), some (.ptr p), some (.ptr pf)] S).seq (gSeq (callK Gam fu (k + 3)) fu (.cons (.ret (.var 4)) .nil) none) = .rt (.ptr pf) μ'
      ∧ μ'[pf]? = some (.lst (res.map scD)) ∧ Kp b S μ'
  | 0, pm, S, x, found, res, h, ho, hf, hF, n3, hb3, hr => by cases hr
  | f + 1, pm, S, x, found, res, h, ho, hf, hF, n3, hb3, hr => by
    rw [passR] at hr
    split at hr
    · rename_i hlt
      have c : ((found.map scD).length : Int) < (many : Int) := by rw [List.length_map]; omega
      cases hs : stepR fu ls x with
      | none => rw [hs] at hr; cases hr
      | some rx =>
        obtain ⟨r, x'⟩ := rx
        rw [hs] at hr
        simp only at hr
        obtain ⟨S1, e1, h1, hF1, hlen, hfr⟩ := pass_if (k := k) (A0 := A0) (A1 := A1) (A2 := some (.int (many : Nat))) h ho hf hs hF n1 n2 n3 (by omega)
        have k1 : Kp b S S1 := ⟨hlen, fun q hq => hfr q (by omega) (by omega) (by omega)⟩
        have hf1 := step_fit hf hs
        have g := h1.g
        rw [rsF] at g
        generalize hfo : (if r then found ++ [x'.s] else found) = found' at *
        cases ho1 : x'.o with
        | none =>
          rw [ho1] at hr g
          simp only at hr
          obtain ⟨μ', e2, f2, k2⟩ := pass_loop (A0 := A0) (A1 := A1) hb1 hb2 n1 n2 hmany f pm S1 x' found' res h1 ho1 hf1 hF1 n3 hb3 hr
          refine ⟨μ', ?_, f2, k1.trans k2⟩
          rw [ocD] at g
          rw [← e2]
          clear e2 f2 k2 k1 h1 hf1 hs hr h ho hf hF1 hfr hlen hfo ho1 hlt
          walk_at "fhs"
        | some o =>
          rw [ho1] at hr g
          rcases step_oc ho hs ho1 with rfl | hoc
          · simp only at hr
            cases har : x'.ar with
            | none => rw [har] at hr; cases hr
            | some md =>
              obtain ⟨m, d⟩ := md
              rw [har] at hr g
              simp only at hr
              rw [ocD, arD] at g
              have q1 := eq_fe (S := S1)
              have hlt1 := h1.lt
              obtain ⟨y, hy⟩ : ∃ y : RS, y = { x' with o := none, kvs := [], ar := some (m, d) } := ⟨_, rfl⟩
              have hA : ∀ o : O, (S1.set p o ++ [O.dic []])[p]? = some o := fun o => by rw [List.getElem?_append_left (by rw [List.length_set]; exact hlt1), get_set hlt1]
              have hB : ∀ o o' : O, (S1.set p o ++ [O.dic []]).set p o' = S1.set p o' ++ [O.dic []] := fun o o' => by rw [List.set_append_left _ _ (by rw [List.length_set]; exact hlt1), List.set_set]
              obtain ⟨T, hT⟩ : ∃ T, T = S1.set p (O.ins [(.lines, .ptr pl), (.at_, .int x'.at_), (.scene, scD x'.s), (.doings, .int x'.n), (.met, .ptr S1.length), (.outcome, .non), (.around, .tup [.int m, .int d])]) ++ [O.dic []] := ⟨_, rfl⟩
              have q2 := eqD_int T d 0
              have k2 : Kp b S1 T := by rw [hT]; exact (Kp.set hb1).trans (Kp.app (by rw [List.length_set]; omega))
              have gT : T[p]? = some (O.ins [(.lines, .ptr pl), (.at_, .int x'.at_), (.scene, scD x'.s), (.doings, .int x'.n), (.met, .ptr S1.length), (.outcome, .non), (.around, .tup [.int m, .int d])]) := by rw [hT]; exact hA _
              have hltf : pf < S1.length := (List.getElem?_eq_some_iff.mp hF1).1
              have fT : T[pf]? = some (.lst (found'.map scD)) := by
                rw [hT, List.getElem?_append_left (by rw [List.length_set]; exact hltf), get_set_ne n1.symm]; exact hF1
              have c7 : 7 < 1000 := by decide
              by_cases hd : d = 0
              · rw [if_pos hd] at hr
                cases hr
                refine ⟨T, ?_, fT, k1.trans k2⟩
                have hb : (d == 0) = true := by simp [hd]
                rw [hb] at q2
                have hT' := hT.symm
                clear k2 k1 h1 hf1 hs h ho hf hF1 hfr hlen hfo ho1 hlt hd hb hy har hltf hT
                walk_at "fhs"
              · rw [if_neg hd, ← hy] at hr
                have hltl : pl < S1.length := (List.getElem?_eq_some_iff.mp h1.l).1
                have rT : Rn T p pl S1.length ls y := by
                  refine ⟨?_, ?_, ?_, h1.n1, by omega, by omega⟩
                  · rw [gT, hy, rsF, ocD, arD]
                  · rw [hT, List.getElem?_append_left (by rw [List.length_set]; exact hltl), get_set_ne h1.n1]; exact h1.l
                  · rw [hT, hy, show S1.length = (S1.set p (O.ins [(.lines, .ptr pl), (.at_, .int x'.at_), (.scene, scD x'.s), (.doings, .int x'.n), (.met, .ptr S1.length), (.outcome, .non), (.around, .tup [.int m, .int d])])).length by rw [List.length_set]]
                    rw [List.length_set]
                    have := get_app (μ := S1.set p (O.ins [(.lines, .ptr pl), (.at_, .int x'.at_), (.scene, scD x'.s), (.doings, .int x'.n), (.met, .ptr S1.length), (.outcome, .non), (.around, .tup [.int m, .int d])])) (o := O.dic [])
                    rw [List.length_set] at this
                    exact this
                obtain ⟨μ', e2, f2, k3⟩ := pass_loop (A0 := A0) (A1 := A1) hb1 hb2 n1 n2 hmany f S1.length T y found' res rT (by rw [hy]) (by rw [hy]; exact hf1) fT (by omega) (by omega) hr
                refine ⟨μ', ?_, f2, (k1.trans k2).trans k3⟩
                have hb : (d == 0) = false := by simp [hd]
                rw [hb] at q2
                rw [← e2]
                have hT' := hT.symm
                clear e2 f2 k3 k2 k1 h1 hf1 hs hr h ho hf hF1 hfr hlen hfo ho1 hlt hd hb hy har hltf hltl rT hT
                walk_at "fhs"
          · have q := eq_oc (S := S1) (hf1.g.P) o hoc
            have hr' : some found' = some res := by
              rcases hoc with rfl | ⟨w, rfl⟩ <;> exact hr
            cases hr'
            refine ⟨S1, ?_, hF1, k1⟩
            have hoc' : ∃ xs, ocD (some o) = .tup xs := by
              rcases hoc with rfl | ⟨w, rfl⟩ <;> exact ⟨_, rfl⟩
            obtain ⟨xs, hxs⟩ := hoc'
            rw [hxs] at q g
            clear k1 h1 hf1 hs hr h ho hf hF1 hfr hlen hfo ho1 hlt hoc hxs
            walk_at "fhs"
    · rename_i hlt
      have c : ¬ ((found.map scD).length : Int) < (many : Int) := by rw [List.length_map]; omega
      cases hr
      refine ⟨S, ?_, hF, Kp.refl ..⟩
      clear h ho hf hlt
      walk_at "fhs"
theorem passed_ok {b : Bd} {s : Sc} {μ : Store} {many : Nat} {res : List Sc} (h1 : lvB b ≤ 5) (h2 : cnB b ≤ 30) (hf : Fit s W H) (hh : s.h ≤ 36) (hm : many ≤ 1000) (hr : passR fu (lnB b 0) many fu (rs0 s) [] = some res) :
    ∃ μ' q, callK Gam fu (k + 8) .passed [prD b, scD s, .int (many : Nat)] μ = .ok (.ptr q) μ' ∧ μ'[q]? = some (.lst (res.map scD)) ∧ μ.length ≤ q ∧ Kp μ.length μ μ' := by
  have n1 := need_program_ok (fu := fu) (k := k) (μ := μ) h1 h2
  have n2 := need_scene_ok (fu := fu) (k := k + 5) (μ := μ) hf hh
  obtain ⟨μ1, pl, pm, e1, r1, k1, p1, p2, p3⟩ := run_start (fu := fu) (k := k) (s := s) (μ := μ) h1 h2
  have hlt1 := r1.lt
  have r2 : Rn (μ1 ++ [O.lst []]) μ.length pl pm (lnB b 0) (rs0 s) :=
    ⟨by rw [get_app_lt r1.lt]; exact r1.g, by rw [get_app_lt (List.getElem?_eq_some_iff.mp r1.l).1]; exact r1.l, by rw [get_app_lt r1.ltm]; exact r1.m, r1.n1, r1.n2, r1.n3⟩
  have l1 : pl < μ1.length := (List.getElem?_eq_some_iff.mp r1.l).1
  have l2 := r1.ltm
  obtain ⟨μ2, e2, f2, k2⟩ := pass_loop (k := k + 4) (A0 := some (prD b)) (A1 := some (scD s)) (p := μ.length) (pl := pl) (pf := μ1.length) (b := μ.length) (many := many) (Nat.le_refl _) (by omega) (by omega) (by omega) hm fu pm (μ1 ++ [O.lst []]) (rs0 s) [] res r2 rfl hf (by rw [get_app]; rfl) (by omega) p2 hr
  refine ⟨μ2, μ1.length, ?_, f2, by omega, (k1.trans (Kp.app (by omega))).trans k2⟩
  rw [c_passed]
  unfold B_passed
  rw [fMake] at e1
  have c1 : (0 : Int) ≤ many := by omega
  have c2 : (many : Int) ≤ 1000 := by omega
  clear h1 h2 hr hf r1 r2 k1 k2 p1 p2 p3 hh hm hlt1 l1 l2
  walk_at "fhs"
theorem passed_far {b : Bd} {s : Sc} {μ : Store} {many : Int} (h1 : lvB b ≤ 5) (h2 : cnB b ≤ 30) (hf : Fit s W H) (hh : s.h ≤ 36) (hm : many < 0 ∨ 1000 < many) :
    callK Gam fu (k + 8) .passed [prD b, scD s, .int many] μ = .exc .BadNumber .non μ := by
  have n1 := need_program_ok (fu := fu) (k := k) (μ := μ) h1 h2
  have n2 := need_scene_ok (fu := fu) (k := k + 5) (μ := μ) hf hh
  rw [c_passed]
  unfold B_passed
  by_cases c1 : 0 ≤ many
  · have c2 : ¬ many ≤ 1000 := by omega
    clear h1 h2 hf hh hm
    walk_at "fhs"
  · clear h1 h2 hf hh hm
    walk_at "fhs"
end
/-! What the laws draw: sizes, rows, fields, scenes. -/
/-- all but the row of numbers is as it was -/
def Kr (p : Nat) (μ μ' : Store) : Prop := μ.length ≤ μ'.length ∧ ∀ q, q < μ.length → q ≠ p → μ'[q]? = μ[q]?
theorem Kr.refl (p : Nat) (μ : Store) : Kr p μ μ := ⟨Nat.le_refl _, fun _ _ _ => rfl⟩
theorem Kr.trans {p : Nat} {μ μ' μ'' : Store} (h : Kr p μ μ') (h' : Kr p μ' μ'') : Kr p μ μ'' := ⟨Nat.le_trans h.1 h'.1, fun q a b => (h'.2 q (Nat.lt_of_lt_of_le a h.1) b).trans (h.2 q a b)⟩
theorem Kr.app {p : Nat} {μ ν : Store} : Kr p μ (μ ++ ν) := ⟨by simp, fun q a b => List.getElem?_append_left a⟩
theorem Kr.set {p q : Nat} {μ μ' : Store} {o : O} (h : Kr p μ μ') (hq : μ.length ≤ q) : Kr p μ (μ'.set q o) := ⟨by rw [List.length_set]; exact h.1, fun r a b => by rw [get_set_ne (by omega)]; exact h.2 r a b⟩
theorem Kp.kr {b p : Nat} {μ μ' : Store} (h : Kp b μ μ') (hb : μ.length ≤ b) : Kr p μ μ' := ⟨h.1, fun q a _ => h.2 q (by omega)⟩
theorem RowAt.app {ns : List Int} {p : Nat} {μ ν : Store} (h : RowAt ns p μ) : RowAt ns p (μ ++ ν) := by
  have := h.lt
  obtain ⟨a, b, c, ha, e⟩ := h
  exact ⟨a, b, c, ha, by rw [get_app_lt this]; exact e⟩
theorem RowAt.set {ns : List Int} {p q : Nat} {μ : Store} {o : O} (h : RowAt ns p μ) (hq : q ≠ p) : RowAt ns p (μ.set q o) := by
  obtain ⟨a, b, c, ha, e⟩ := h
  exact ⟨a, b, c, ha, by rw [get_set_ne hq]; exact e⟩
section
variable {μ : Store} {fu k p : Nat} {ns : List Int}
theorem draw {m : Nat} {M : Int} (hM : M = m) (h : RowAt ns p μ) (h1 : 1 ≤ m) (h2 : m < 1073741824) :
    ∃ (v : Nat) (μ' : Store), callK Gam fu (k + 1) .law_taken [.ptr p, .int M] μ = .ok (.int v) μ' ∧ v < m ∧ RowAt ns p μ' ∧ Kr p μ μ' := by
  obtain ⟨v, r, e, l, u, hr⟩ := taken (fu := fu) (k := k) (m := M) h (by omega) (Nat.ble_eq_true_of_le (by rw [hM]; exact h2))
  obtain ⟨n, rfl⟩ := Int.eq_ofNat_of_zero_le l
  exact ⟨n, _, e, by omega, hr, by rw [List.length_set]; exact Nat.le_refl _, fun q _ b => get_set_ne (Ne.symm b)⟩
theorem law_size_ok {m : Nat} (hm1 : 1 ≤ m) (hm2 : m ≤ 36) (h : RowAt ns p μ) :
    ∃ (w hh : Nat) (μ' : Store), callK Gam fu (k + 2) .law_size [.ptr p, .int (m : Nat)] μ = .ok (.tup [.int w, .int hh]) μ' ∧ 1 ≤ w ∧ w ≤ 6 ∧ 1 ≤ hh ∧ hh ≤ 6 ∧ w * hh ≤ m ∧ RowAt ns p μ' ∧ Kr p μ μ' := by
  have e0 : (if (m : Int) < 6 then (m : Int) else 6) = ((min 6 m : Nat) : Int) := by split <;> omega
  obtain ⟨v1, μ1, e1, u1, r1, k1⟩ := draw (fu := fu) (k := k) (m := min 6 m) (M := if (m : Int) < 6 then (m : Int) else 6) e0 h (by omega) (by omega)
  obtain ⟨w, hw⟩ : ∃ w, w = 1 + v1 := ⟨_, rfl⟩
  have hdiv : (m : Int) / ((1 : Int) + v1) = ((m / w : Nat) : Int) := by rw [hw, show (1 : Int) + (v1 : Int) = ((1 + v1 : Nat) : Int) by omega]; exact (Int.natCast_ediv m (1 + v1)).symm
  have hmw : 1 ≤ m / w := (Nat.le_div_iff_mul_le (by omega)).mpr (by omega)
  have e0' : (if ((m / w : Nat) : Int) < 6 then ((m / w : Nat) : Int) else 6) = ((min 6 (m / w) : Nat) : Int) := by split <;> omega
  obtain ⟨v2, μ2, e2, u2, r2, k2⟩ := draw (fu := fu) (k := k) (m := min 6 (m / w)) (M := if ((m / w : Nat) : Int) < 6 then ((m / w : Nat) : Int) else 6) e0' r1 (by omega) (by omega)
  refine ⟨w, 1 + v2, μ2, ?_, by omega, by omega, by omega, by omega, ?_, r2, k1.trans k2⟩
  · have c1 : (0 : Int) < 1 + (v1 : Int) ∧ Nat.blt (1 + (v1 : Int)).natAbs 1073741824 = true := ⟨by omega, Nat.ble_eq_true_of_le (by omega)⟩
    rw [c_law_size]
    unfold B_law_size
    have hw' : (w : Int) = 1 + (v1 : Int) := by omega
    have hh' : ((1 + v2 : Nat) : Int) = 1 + (v2 : Int) := by omega
    clear e0 e0' hw hmw r1 r2 k1 k2 u1 u2 h hm1 hm2
    walk_at "fh"
    repeat (first | (simp only [e1, c1, hdiv, e2, and_self]) | walk_at "fh")
    rw [hw', hh']
  · have : 1 + v2 ≤ m / w := by omega
    exact Nat.le_trans (Nat.mul_le_mul_left w this) (Nat.mul_div_le m w)
theorem lcV_inv {f : D → Store → Res (Option D)} {P : Store → Prop} {Q : Nat → Prop} : ∀ (ds : List D) (acc : List D) (μ : Store), (∀ d ∈ ds, ∀ μ, P μ → ∃ c μ', f d μ = .ok (some (.str [c])) μ' ∧ Q c ∧ P μ') → P μ → acc.length + ds.length ≤ lineMax →
    ∃ (cs : List Nat) (μ' : Store), lcV f ds acc μ = .ok (acc ++ cs.map fun c => .str [c]) μ' ∧ cs.length = ds.length ∧ (∀ c ∈ cs, Q c) ∧ P μ'
  | [], acc, μ, hs, hP, hl => ⟨[], μ, by simp [lcV], rfl, by simp, hP⟩
  | d :: ds, acc, μ, hs, hP, hl => by
    obtain ⟨c, μ1, e, hq, hP1⟩ := hs d List.mem_cons_self μ hP
    rw [List.length_cons] at hl
    obtain ⟨cs, μ2, e2, hl2, hq2, hP2⟩ := lcV_inv ds (acc ++ [.str [c]]) μ1 (fun d hd => hs d (List.mem_cons_of_mem _ hd)) hP1 (by rw [List.length_append, List.length_singleton]; omega)
    refine ⟨c :: cs, μ2, ?_, by simp [hl2], fun x hx => ?_, hP2⟩
    · rw [lcV, e]
      simp only
      rw [if_pos (by omega), e2]
      simp
    · rcases List.mem_cons.mp hx with rfl | hx
      · exact hq
      · exact hq2 x hx
theorem strs_one : ∀ cs : List Nat, strsOf (cs.map fun c => .str [c]) = some (cs.map fun c => [c])
  | [] => rfl
  | c :: cs => by rw [List.map_cons, strsOf, strs_one cs]; rfl
theorem join_one : ∀ cs : List Nat, joinC [] (cs.map fun c => [c]) = cs
  | [] => rfl
  | [c] => rfl
  | c :: d :: cs => by
    have := join_one (d :: cs)
    rw [List.map_cons, List.map_cons, joinC]
    rw [List.map_cons] at this
    rw [this]
    rfl
theorem sum_one : ∀ cs : List Nat, ((cs.map fun c => [c]).map List.length).sum = cs.length
  | [] => rfl
  | c :: cs => by
    rw [List.map_cons, List.map_cons, List.sum_cons, sum_one cs]
    simp
    omega
def sgn (c : Nat) : Prop := c = 35 ∨ c = 111 ∨ c = 46
theorem signs_at (ν : Store) : ∀ {v : Nat}, v < 4 → ∃ cs : List Nat, idxD ν (.lst [.str [46, 46, 46, 46, 46, 111, 111, 35], .str [46, 111, 46, 35], .str [111, 111, 111, 46, 35], .str [46, 46, 46, 46, 46]]) (.int v) = some (.str cs) ∧ 1 ≤ cs.length ∧ cs.length ≤ 8 ∧ ∀ c ∈ cs, sgn c
  | 0, _ => ⟨_, rfl, by decide, by decide, by simp [sgn]⟩
  | 1, _ => ⟨_, rfl, by decide, by decide, by simp [sgn]⟩
  | 2, _ => ⟨_, rfl, by decide, by decide, by simp [sgn]⟩
  | 3, _ => ⟨_, rfl, by decide, by decide, by simp [sgn]⟩
  | v + 4, h => by omega
theorem law_rows_ok {w h : Nat} (hw1 : 1 ≤ w) (hw6 : w ≤ 6) (hh1 : 1 ≤ h) (hh6 : h ≤ 6) (hr : RowAt ns p μ) :
    ∃ (rows : Rows) (μ' : Store), callK Gam fu (k + 2) .law_rows [.ptr p, .tup [.int w, .int h]] μ = .ok (rowsD rows) μ' ∧ Grid rows w h ∧ RowAt ns p μ' ∧ Kr p μ μ' := by
  obtain ⟨v, μ1, e1, u1, r1, k1⟩ := draw (fu := fu) (k := k) (m := 4) (M := 4) rfl hr (by decide) (by decide)
  obtain ⟨cs, ec, l1, l8, hsg⟩ := signs_at μ1 u1
  rw [idx_lst] at ec
  have hp : p < μ1.length := RowAt.lt r1
  have hlc : cs.length ≤ lineMax := by rw [lineMax_eq]; omega
  have bh := big_nat (n := h) (by omega)
  have bw := big_nat (n := w) (by omega)
  have turn : ∀ (a3 a4 : Option D) (μ2 : Store), RowAt ns p μ2 → ∃ (ls : List Nat) (μ3 : Store), lcV (turn0F (callK Gam fu (k + 1)) none 5 (.idx (.var 2) (.call .law_taken (.cons (.var 0) (.cons (.blt .len (.cons (.var 2) .nil)) .nil)))) [some (.ptr p), some (.tup [.int w, .int h]), some (.str cs), a3, a4, none]) (rangeFrom 0 1 w) [] μ2 = .ok (ls.map fun c => .str [c]) μ3 ∧ ls.length = w ∧ (∀ c ∈ ls, sgn c) ∧ RowAt ns p μ3 ∧ Kr p μ2 μ3 := by
    intro a3 a4 μ2 hr2
    obtain ⟨ls, μ3, e, hl, hq, hP⟩ := lcV_inv (f := turn0F (callK Gam fu (k + 1)) none 5 (.idx (.var 2) (.call .law_taken (.cons (.var 0) (.cons (.blt .len (.cons (.var 2) .nil)) .nil)))) [some (.ptr p), some (.tup [.int w, .int h]), some (.str cs), a3, a4, none]) (P := fun μ => RowAt ns p μ ∧ Kr p μ2 μ) (Q := sgn) (rangeFrom 0 1 w) [] μ2 (fun d hd μ' ⟨hr', hk'⟩ => by
      obtain ⟨v', μ4, e4, u4, r4, k4⟩ := draw (fu := fu) (k := k) (m := cs.length) (M := (cs.length : Nat)) rfl hr' l1 (by omega)
      obtain ⟨c, hc⟩ : ∃ c, cs[v']? = some c := ⟨_, List.getElem?_eq_getElem u4⟩
      have hat : atI cs (v' : Int) = some c := by rw [atI_nat, hc]
      refine ⟨c, μ4, ?_, hsg _ (List.mem_of_getElem? hc), r4, hk'.trans k4⟩
      clear u4 r4 k4 hr' hk' hc
      walk_at "fh"
      repeat (first | (simp only [hlc, e4, hat]) | walk_at "fh")) ⟨hr2, Kr.refl ..⟩ (by rw [range_len, lineMax_eq]; simp; omega)
    rw [List.nil_append] at e
    exact ⟨ls, μ3, e, by rw [hl, range_len], hq, hP.1, hP.2⟩
  obtain ⟨σ', μ', f1, a4, rows, j1, j2, j3, j4, j5, j6, j7⟩ := for_vals_inv (xs := rangeFrom 0 1 h) (σ := [some (.ptr p), some (.tup [.int w, .int h]), some (.str cs), some (.ptr μ1.length), none, none]) (μ := μ1 ++ [O.lst []])
    (f := gBody (callK Gam fu (k + 1)) fu none 4 (.cons (.ex (.mth .append (.var 3) (.cons (.mth .join (.con (.str [])) (.cons (.comp0 5 (.rng (.cons (.idx (.var 1) (.con (.int 0))) .nil)) (.idx (.var 2) (.call .law_taken (.cons (.var 0) (.cons (.blt .len (.cons (.var 2) .nil)) .nil))))) .nil)) .nil)))
  .nil))
    (fun i σ' μ' => ∃ a4, ∃ rows : Rows, σ' = [some (.ptr p), some (.tup [.int w, .int h]), some (.str cs), some (.ptr μ1.length), a4, none] ∧ rows.length = i ∧ (∀ l ∈ rows, l.length = w) ∧ (∀ l ∈ rows, ∀ c ∈ l, sgn c) ∧ μ'[μ1.length]? = some (.lst (rows.map .str)) ∧ RowAt ns p μ' ∧ Kr p μ1 μ')
    (fun i σ' μ' hi ⟨a4, rows, h1, h2, h3, h4, h5, h6, h7⟩ => by
      subst h1
      rw [range_len] at hi
      obtain ⟨ls, μ3, e3, hl3, hs3, r3, k3⟩ := turn (some (.ptr μ1.length)) (some (rangeFrom 0 1 h)[i]) μ' h6
      have hlt : μ1.length < μ'.length := (List.getElem?_eq_some_iff.mp h5).1
      have g5 : μ3[μ1.length]? = some (.lst (rows.map .str)) := by rw [k3.2 _ hlt (by omega)]; exact h5
      have hlt3 : μ1.length < μ3.length := (List.getElem?_eq_some_iff.mp g5).1
      refine ⟨_, μ3.set μ1.length (.lst (rows.map .str ++ [.str ls])), ?_, some (rangeFrom 0 1 h)[i], rows ++ [ls], rfl, by simp [h2], ?_, ?_, ?_, RowAt.set r3 (by omega), (h7.trans k3).set (Nat.le_refl _)⟩
      · have hj := strs_one ls
        have hj2 := join_one ls
        have hj3 := sum_one ls
        have hc : (rows.map D.str).length < lineMax := by rw [List.length_map, lineMax_eq]; omega
        have hz : ls.length + (ls.map fun c => [c]).length * 0 ≤ 16777216 := by rw [hl3]; omega
        walk_at "fh"
        repeat (first | (simp only [h5, bw, e3, hj, hj2, hj3, hz, g5, hc]) | walk_at "fh")
      · intro l hl
        rcases List.mem_append.mp hl with hl | hl
        · exact h3 l hl
        · rw [List.mem_singleton.mp hl]; exact hl3
      · intro l hl
        rcases List.mem_append.mp hl with hl | hl
        · exact h4 l hl
        · rw [List.mem_singleton.mp hl]; exact hs3
      · rw [get_set hlt3]; simp)
    ⟨none, [], rfl, rfl, by simp, by simp, by rw [get_app]; rfl, RowAt.app r1, Kr.app⟩
  subst j1
  rw [range_len] at j2
  refine ⟨rows, μ', ?_, ⟨j2, j3, j4, hw1, hw6, hh1, hh6⟩, j6, k1.trans j7⟩
  rw [c_law_rows]
  unfold B_law_rows
  clear turn hsg j6 j7 k1 r1 hr u1
  walk_at "fh"
  repeat (first | (simp only [e1, ec, bh, f1, j5]) | walk_at "fh")
  rfl
end
/-! Drawn fields and scenes. -/
theorem cut_tail {α : Type} (xs : List α) : cut xs (some 1) none = xs.drop 1 := cut_drop xs 0
section
variable {rows : Rows} {W H x : Nat}
theorem first_set (g : Grid rows W H) : [D.str (x :: (rowN rows 0).drop 1)] ++ (rows.map D.str).drop 1 = (setCell rows 0 0 x).map D.str := by
  have h := setCell_split (x := x) g (i := 0) (j := 0) (by have := g.h1; omega) (by have := g.w1; omega)
  rw [← h]
  simp [List.map_drop]
theorem first_same (g : Grid rows W H) : [D.str (rowN rows 0)] ++ (rows.map D.str).drop 1 = rows.map D.str := by
  have h := (g.row (i := 0) (by have := g.h1; omega)).1
  cases hr : rows with
  | nil => rw [hr] at h; cases h
  | cons a r =>
    rw [hr] at h
    simp only [List.getElem?_cons_zero, Option.some.injEq] at h
    simp [← h]
theorem cellN_other (g : Grid rows W H) {i j i' j' : Nat} (hi : i < H) (hi' : i' < H) (hj' : j' < W) (hne : i ≠ i' ∨ j ≠ j') : cellN (setCell rows i j x) i' j' = cellN rows i' j' := by
  have h1 : i < rows.length := by rw [g.len]; exact hi
  by_cases he : i = i'
  · subst he
    have hj : j ≠ j' := by
      rcases hne with h | h
      · exact absurd rfl h
      · exact h
    have e1 : rowN (setCell rows i j x) i = (rowN rows i).set j x := by
      rw [rowN, setCell, List.getD_eq_getElem?_getD, List.getElem?_set_self h1]
      rfl
    rw [cellN_eq, cellN_eq, e1, List.getD_eq_getElem?_getD, List.getD_eq_getElem?_getD, List.getElem?_set_ne hj]
  · have e1 : rowN (setCell rows i j x) i' = rowN rows i' := by
      rw [rowN, setCell, List.getD_eq_getElem?_getD, List.getElem?_set_ne he, ← List.getD_eq_getElem?_getD]
      rfl
    rw [cellN_eq, cellN_eq, e1]
end
section
variable {μ : Store} {fu k p : Nat} {ns : List Int}
theorem law_field_ok {w h : Nat} (hw1 : 1 ≤ w) (hw6 : w ≤ 6) (hh1 : 1 ≤ h) (hh6 : h ≤ 6) (hr : RowAt ns p μ) :
    ∃ (rows : Rows) (μ' : Store), callK Gam fu (k + 3) .law_field [.ptr p, .tup [.int w, .int h]] μ = .ok (rowsD rows) μ' ∧ Grid rows w h ∧ cellN rows 0 0 ≠ 35 ∧ RowAt ns p μ' ∧ Kr p μ μ' := by
  obtain ⟨rows, μ', e, g, r1, k1⟩ := law_rows_ok (fu := fu) (k := k) hw1 hw6 hh1 hh6 hr
  have i0 : idxD μ' (rowsD rows) (.int 0) = some (.str (rowN rows 0)) := g.idx1 μ' (i := 0) (by omega)
  have i1 : idxD μ' (.str (rowN rows 0)) (.int 0) = some (.str [cellN rows 0 0]) := g.idx2 μ' (i := 0) (j := 0) (by omega) (by omega)
  have q := g.eqC μ' (i := 0) (j := 0) (by omega) (by omega) (x := 35) (by decide)
  have s1 : slcV μ' (rowsD rows) (some 1) none = some (.tup ((rows.map .str).drop 1)) := by rw [rowsD, slc_tup, cut_tail]
  have a1 : ∀ d : D, binD μ' .Add (.tup [d]) (.tup ((rows.map .str).drop 1)) = some (.tup ([d] ++ (rows.map .str).drop 1)) := fun d => by
    rw [add_tup, if_pos (by rw [List.length_drop, List.length_map, g.len, lineMax_eq, List.length_singleton]; omega)]
  by_cases hc : cellN rows 0 0 = 35
  · refine ⟨setCell rows 0 0 46, μ', ?_, g.set (by omega) (by decide), by rw [cellN_set g (by omega) (by omega)]; decide, r1, k1⟩
    rw [decide_eq_true hc] at q
    have s2 : slcV μ' (.str (rowN rows 0)) (some 1) none = some (.str ((rowN rows 0).drop 1)) := by rw [slc_str, if_pos (g.rlm (by omega)), cut_tail]
    have a2 : binD μ' .Add (.str [46]) (.str ((rowN rows 0).drop 1)) = some (.str (46 :: (rowN rows 0).drop 1)) := by
      rw [add_str, if_pos (by rw [List.length_drop, g.rlen (by omega), lineMax_eq, List.length_singleton]; omega)]; rfl
    have hs := first_set (x := 46) g
    rw [c_law_field]
    unfold B_law_field
    clear hc r1 k1 hr
    walk_at "fhs"
    rfl
  · refine ⟨rows, μ', ?_, g, hc, r1, k1⟩
    rw [decide_eq_false hc] at q
    have hs := first_same g
    rw [c_law_field]
    unfold B_law_field
    clear hc r1 k1 hr
    walk_at "fhs"
    rfl
theorem eq_pair {ν : Store} (a b : Nat) : eqD ν (.tup [.int a, .int b]) (.tup [.int 0, .int 0]) = some (decide (a = 0 ∧ b = 0)) := by
  rw [eqD_of (a := .tup [.int a, .int b]) (b := .tup [.int 0, .int 0]) rfl rfl (show 2 ≤ 64 by decide) (show 2 ≤ 64 by decide)]
  have : eqP (nf ν (.tup [.int a, .int b])) (nf ν (.tup [.int 0, .int 0])) = (((a : Int) == 0) && (((b : Int) == 0) && true)) := rfl
  rw [this]
  congr 1
  rw [Bool.eq_iff_iff]
  simp
theorem held_at (ν : Store) {v c : Nat} : v < 3 → c < 37 → ∃ n : Nat, idxD ν (.lst [.int 0, .int 1, .int (c : Nat)]) (.int (v : Nat)) = some (.int (n : Nat)) ∧ n ≤ 36 := fun hv hc =>
  match v, hv with
  | 0, _ => ⟨0, rfl, by omega⟩
  | 1, _ => ⟨1, rfl, by omega⟩
  | 2, _ => ⟨c, rfl, by omega⟩
  | v + 3, h => by omega
theorem law_scene_ok {w h : Nat} (hw1 : 1 ≤ w) (hw6 : w ≤ 6) (hh1 : 1 ≤ h) (hh6 : h ≤ 6) (hr : RowAt ns p μ) :
    ∃ (s : Sc) (μ' : Store), callK Gam fu (k + 4) .law_scene [.ptr p, .tup [.int w, .int h]] μ = .ok (scD s) μ' ∧ Fit s w h ∧ s.h ≤ 36 ∧ RowAt ns p μ' ∧ Kr p μ μ' := by
  obtain ⟨rows, μ1, e1, g, hfree, r1, k1⟩ := law_field_ok (fu := fu) (k := k) hw1 hw6 hh1 hh6 hr
  obtain ⟨low, μ2, e2, u2, r2, k2⟩ := draw (fu := fu) (k := k + 2) (m := h) (M := (h : Nat)) rfl r1 hh1 (by omega)
  obtain ⟨col, μ3, e3, u3, r3, k3⟩ := draw (fu := fu) (k := k + 2) (m := w) (M := (w : Nat)) rfl r2 hw1 (by omega)
  have k13 := (k1.trans k2).trans k3
  have ends : ∀ μ4, RowAt ns p μ4 → ∃ (way n : Nat) (μ5 : Store), way < 4 ∧ n ≤ 36 ∧ RowAt ns p μ5 ∧ Kr p μ4 μ5 ∧ ∀ (a1 a2 a3 a4 : D), exs (callK Gam fu (k + 3)) fu (.cons (.ret (.tup (.cons (.var 2) (.cons (.var 3) (.cons (.var 4) (.cons (.call .law_taken (.cons (.var 0) (.cons (.con (.int 4)) .nil))) (.cons (.idx (.lst (.cons (.con (.int 0)) (.cons (.con (.int 1)) (.cons (.call .law_taken (.cons (.var 0) (.cons (.con (.int 37)) .nil))) .nil)))) (.call .law_taken (.cons (.var 0) (.cons (.con (.int 3)) .nil)))) .nil)))))))
  .nil) none [some (.ptr p), some a1, some a2, some a3, some a4] μ4 = .rt (.tup [a2, a3, a4, .int (way : Nat), .int (n : Nat)]) μ5 := by
    intro μ4 hr4
    obtain ⟨way, μ5, e5, u5, r5, k5⟩ := draw (fu := fu) (k := k + 2) (m := 4) (M := 4) rfl hr4 (by decide) (by decide)
    obtain ⟨c, μ6, e6, u6, r6, k6⟩ := draw (fu := fu) (k := k + 2) (m := 37) (M := 37) rfl r5 (by decide) (by decide)
    obtain ⟨v, μ7, e7, u7, r7, k7⟩ := draw (fu := fu) (k := k + 2) (m := 3) (M := 3) rfl r6 (by decide) (by decide)
    obtain ⟨n, en, hn⟩ := held_at μ7 u7 u6
    refine ⟨way, n, μ7, u5, hn, r7, (k5.trans k6).trans k7, fun a1 a2 a3 a4 => ?_⟩
    clear u5 u6 u7 r5 r6 r7 k5 k6 k7 hn hr4
    walk_at "fhs"
  have i1 := g.idx1 μ3 u2
  have i2 := g.idx2 μ3 u2 u3
  have q := g.eqC μ3 u2 u3 (x := 35) (by decide)
  by_cases hc : cellN rows low col = 35
  · obtain ⟨way, n, μ5, hway, hn, r5, k5, e5⟩ := ends μ3 r3
    refine ⟨⟨rows, 0, 0, way, n⟩, μ5, ?_, ⟨g, Nat.lt_of_lt_of_le Nat.zero_lt_one hh1, Nat.lt_of_lt_of_le Nat.zero_lt_one hw1, hway, hfree⟩, hn, r5, k13.trans k5⟩
    rw [decide_eq_true hc] at q
    rw [c_law_scene]
    unfold B_law_scene
    clear hc ends r1 r2 r3 r5 k1 k2 k3 k13 k5 u2 u3 hn hway hfree hr
    walk_at "fhs"
    rfl
  · rw [decide_eq_false hc] at q
    obtain ⟨v, μ4, e4, u4, r4, k4⟩ := draw (fu := fu) (k := k + 2) (m := 3) (M := 3) rfl r3 (by decide) (by decide)
    obtain ⟨way, n, μ5, hway, hn, r5, k5, e5⟩ := ends μ4 r4
    have q2 := eqD_int μ4 (v : Int) 2
    have q3 := eq_pair (ν := μ4) low col
    by_cases hv : v = 2
    · have hv' : ((v : Int) == 2) = true := by simp [hv]
      rw [hv'] at q2
      by_cases hz : low = 0 ∧ col = 0
      · rw [decide_eq_true hz] at q3
        refine ⟨⟨rows, low, col, way, n⟩, μ5, ?_, ⟨g, u2, u3, hway, hc⟩, hn, r5, (k13.trans k4).trans k5⟩
        rw [c_law_scene]
        unfold B_law_scene
        clear hc ends r1 r2 r3 r5 r4 k1 k2 k3 k13 k5 k4 u2 u3 u4 hn hway hfree hr hv hv' hz
        walk_at "fhs"
        rfl
      · rw [decide_eq_false hz] at q3
        have i0 : idxD μ4 (rowsD rows) (.int 0) = some (.str (rowN rows 0)) := g.idx1 μ4 (i := 0) (by omega)
        have s1 : slcV μ4 (rowsD rows) (some 1) none = some (.tup ((rows.map .str).drop 1)) := by rw [rowsD, slc_tup, cut_tail]
        have a1 : ∀ d : D, binD μ4 .Add (.tup [d]) (.tup ((rows.map .str).drop 1)) = some (.tup ([d] ++ (rows.map .str).drop 1)) := fun d => by
          rw [add_tup, if_pos (by rw [List.length_drop, List.length_map, g.len, lineMax_eq, List.length_singleton]; omega)]
        have s2 : slcV μ4 (.str (rowN rows 0)) (some 1) none = some (.str ((rowN rows 0).drop 1)) := by rw [slc_str, if_pos (g.rlm (by omega)), cut_tail]
        have a2 : binD μ4 .Add (.str [35]) (.str ((rowN rows 0).drop 1)) = some (.str (35 :: (rowN rows 0).drop 1)) := by
          rw [add_str, if_pos (by rw [List.length_drop, g.rlen (by omega), lineMax_eq, List.length_singleton]; omega)]; rfl
        have hs := first_set (x := 35) g
        refine ⟨⟨setCell rows 0 0 35, low, col, way, n⟩, μ5, ?_, ⟨g.set (by omega) (by decide), u2, u3, hway, ?_⟩, hn, r5, (k13.trans k4).trans k5⟩
        · rw [c_law_scene]
          unfold B_law_scene
          clear hc ends r1 r2 r3 r5 r4 k1 k2 k3 k13 k5 k4 u2 u3 u4 hn hway hfree hr hv hv' hz
          walk_at "fhs"
          rfl
        · rw [cellN_other g (by omega) u2 u3 (by omega)]
          exact hc
    · have hv' : ((v : Int) == 2) = false := by
        rw [beq_eq_false_iff_ne]; omega
      rw [hv'] at q2
      refine ⟨⟨rows, low, col, way, n⟩, μ5, ?_, ⟨g, u2, u3, hway, hc⟩, hn, r5, (k13.trans k4).trans k5⟩
      rw [c_law_scene]
      unfold B_law_scene
      clear hc ends r1 r2 r3 r5 r4 k1 k2 k3 k13 k5 k4 u2 u3 u4 hn hway hfree hr hv hv' q3
      walk_at "fhs"
      rfl
end
/-! Doings in a row: what comes out. -/
def bdOf : List Wd → Bd
  | [] => .nil
  | w :: ws => .cons (.act w) (bdOf ws)
theorem bdL_of : ∀ ws, bdL (bdOf ws) = ws.map fun w => .tup [.str w.c]
  | [] => rfl
  | w :: ws => by rw [bdOf, bdL, bdL_of ws]; rfl
theorem lnB_of : ∀ ws n, lnB (bdOf ws) n = ws.map .act
  | [], n => rfl
  | w :: ws, n => by rw [bdOf, lnB, lnB_of ws]; rfl
theorem lvB_of : ∀ ws, lvB (bdOf ws) ≤ 1
  | [] => by simp [bdOf, lvB]
  | w :: ws => by
    have := lvB_of ws
    simp only [bdOf, lvB, lvS]
    omega
theorem cnB_of : ∀ ws, cnB (bdOf ws) = ws.length
  | [] => rfl
  | w :: ws => by rw [bdOf, cnB, cnB_of ws, cnS, List.length_cons]; omega
def dueR : List Wd → Sc → List Sc × Oc
  | [], s => ([], .done s)
  | w :: ws, s => match doing s w with
    | none => ([], .broken w s)
    | some s' => (s' :: (dueR ws s').1, (dueR ws s').2)
def foldS (st : List Sc × Option Oc × Sc) (w : Wd) : List Sc × Option Oc × Sc :=
  match st.2.1 with
  | some _ => st
  | none => match doing st.2.2 w with
    | none => (st.1, some (.broken w st.2.2), st.2.2)
    | some s' => (st.1 ++ [s'], none, s')
theorem fold_some : ∀ (ws : List Wd) (due : List Sc) (o : Oc) (s : Sc), ws.foldl foldS (due, some o, s) = (due, some o, s)
  | [], due, o, s => rfl
  | w :: ws, due, o, s => by rw [List.foldl_cons]; exact fold_some ws due o s
def ocOf (st : List Sc × Option Oc × Sc) : Oc := match st.2.1 with
  | some o => o
  | none => .done st.2.2
theorem fold_due : ∀ (ws : List Wd) (due : List Sc) (s : Sc), (ws.foldl foldS (due, none, s)).1 = due ++ (dueR ws s).1 ∧ ocOf (ws.foldl foldS (due, none, s)) = (dueR ws s).2
  | [], due, s => by simp [dueR, ocOf]
  | w :: ws, due, s => by
    rw [List.foldl_cons, dueR]
    cases hd : doing s w with
    | none =>
      have : foldS (due, none, s) w = (due, some (.broken w s), s) := by simp [foldS, hd]
      rw [this, fold_some]
      simp [ocOf]
    | some s' =>
      have : foldS (due, none, s) w = (due ++ [s'], none, s') := by simp [foldS, hd]
      rw [this]
      have ih := fold_due ws (due ++ [s']) s'
      exact ⟨by rw [ih.1]; simp, ih.2⟩
theorem due_len : ∀ (ws : List Wd) (s : Sc), (dueR ws s).1.length ≤ ws.length
  | [], s => by simp [dueR]
  | w :: ws, s => by
    rw [dueR]
    cases doing s w with
    | none => simp
    | some s' => simp only [List.length_cons]; have := due_len ws s'; omega
theorem due_fit {W H : Nat} : ∀ (ws : List Wd) (s : Sc), Fit s W H → (∀ t ∈ (dueR ws s).1, Fit t W H) ∧ ((∃ t, (dueR ws s).2 = .done t ∧ Fit t W H) ∨ ∃ w t, (dueR ws s).2 = .broken w t ∧ Fit t W H)
  | [], s, h => ⟨by simp [dueR], .inl ⟨s, rfl, h⟩⟩
  | w :: ws, s, h => by
    rw [dueR]
    cases hd : doing s w with
    | none => exact ⟨by simp, .inr ⟨w, s, rfl, h⟩⟩
    | some s' =>
      have hf := doing_fit h hd
      have ih := due_fit ws s' hf
      refine ⟨fun t ht => ?_, ih.2⟩
      rcases List.mem_cons.mp ht with rfl | ht
      · exact hf
      · exact ih.1 t ht
section
variable {fu : Nat}
theorem look_none : ∀ (kvs : Met) (a : Nat) (s : Sc), (∀ x ∈ kvs, x.1.1 < a) → look kvs a s = none
  | [], a, s, h => rfl
  | ((b, t), m) :: r, a, s, h => by
    rw [look, if_neg (fun e => by have := h _ List.mem_cons_self; simp only at this; omega)]
    exact look_none r a s fun x hx => h x (List.mem_cons_of_mem _ hx)
theorem jmp_act {ls : List Ln} {a : Nat} {w : Wd} (h1 : 1 ≤ fu) (h : ls[a]? = some (.act w)) : jmp ls fu a = some a := by
  obtain ⟨f, rfl⟩ : ∃ f, fu = f + 1 := ⟨fu - 1, by omega⟩
  rw [jmp, h]
theorem jmp_end {ls : List Ln} {a : Nat} (h1 : 1 ≤ fu) (h : ls[a]? = none) : jmp ls fu a = some a := by
  obtain ⟨f, rfl⟩ : ∃ f, fu = f + 1 := ⟨fu - 1, by omega⟩
  rw [jmp, h]
theorem step_act {ls : List Ln} {a n : Nat} {w : Wd} {s : Sc} {kvs : Met} (h1 : 1 ≤ fu) (h : ls[a]? = some (.act w)) (hk : ∀ x ∈ kvs, x.1.1 < a) (hl : kvs.length < lineMax) :
    stepR fu ls ⟨a, s, n, kvs, none, none⟩ = match doing s w with
      | none => some (false, ⟨a, s, n, kvs ++ [((a, s), n)], some (.broken w s), none⟩)
      | some s' => some (true, ⟨a + 1, s', n + 1, kvs ++ [((a, s), n)], none, none⟩) := by
  rw [stepR]
  simp only [jmp_act h1 h, h, look_none kvs a s hk, hl, if_true]
  all_goals (cases doing s w <;> rfl)
theorem step_end {ls : List Ln} {n : Nat} {s : Sc} {kvs : Met} (h1 : 1 ≤ fu) :
    stepR fu ls ⟨ls.length, s, n, kvs, none, none⟩ = some (false, ⟨ls.length, s, n, kvs, some (.done s), none⟩) := by
  have h : ls[ls.length]? = none := List.getElem?_eq_none (Nat.le_refl _)
  rw [stepR]
  simp only [jmp_end h1 h, h, if_true]
theorem line_at (pre : List Wd) (w : Wd) (ws : List Wd) : ((pre ++ w :: ws).map Ln.act)[pre.length]? = some (.act w) := by
  rw [List.getElem?_map, List.getElem?_append_right (Nat.le_refl _)]
  simp
theorem line_run : ∀ (ws pre : List Wd) (s : Sc) (kvs : Met) (n f : Nat), (∀ x ∈ kvs, x.1.1 < pre.length) → kvs.length + ws.length ≤ 1000 → ws.length + 2 ≤ f → 1 ≤ fu →
    ∃ x', runR fu ((pre ++ ws).map .act) f ⟨pre.length, s, n, kvs, none, none⟩ = some x' ∧ x'.o = some (dueR ws s).2 ∧ x'.ar = none
  | [], pre, s, kvs, n, f, h1, h2, h3, h4 => by
    obtain ⟨f, rfl⟩ : ∃ f', f = f' + 2 := ⟨f - 2, by simp at h3; omega⟩
    have e : pre.length = ((pre ++ []).map Ln.act).length := by simp
    refine ⟨⟨((pre ++ []).map Ln.act).length, s, n, kvs, some (.done s), none⟩, ?_, rfl, rfl⟩
    · rw [runR]
      simp only
      rw [e, step_end h4]
      simp only
      rw [runR]
  | w :: ws, pre, s, kvs, n, f, h1, h2, h3, h4 => by
    rw [List.length_cons] at h2 h3
    obtain ⟨f, rfl⟩ : ∃ f', f = f' + 1 := ⟨f - 1, by omega⟩
    have e := step_act (fu := fu) (n := n) (s := s) (kvs := kvs) h4 (line_at pre w ws) h1 (by rw [lineMax_eq]; omega)
    rw [runR, dueR]
    simp only
    rw [e]
    cases hd : doing s w with
    | none =>
      obtain ⟨f, rfl⟩ : ∃ f', f = f' + 1 := ⟨f - 1, by omega⟩
      refine ⟨⟨pre.length, s, n, kvs ++ [((pre.length, s), n)], some (.broken w s), none⟩, ?_, rfl, rfl⟩
      · simp only
        rw [runR]
    | some s' =>
      simp only
      have ih := line_run ws (pre ++ [w]) s' (kvs ++ [((pre.length, s), n)]) (n + 1) f (fun x hx => by
        rw [List.length_append, List.length_singleton]
        rcases List.mem_append.mp hx with hx | hx
        · have := h1 x hx; omega
        · rw [List.mem_singleton.mp hx]; simp) (by rw [List.length_append, List.length_singleton]; omega) (by omega) h4
      rw [List.append_assoc, List.length_append, List.length_singleton] at ih
      exact ih
theorem line_pass {many : Nat} : ∀ (ws pre : List Wd) (s : Sc) (kvs : Met) (n f : Nat) (found : List Sc), (∀ x ∈ kvs, x.1.1 < pre.length) → kvs.length + ws.length ≤ 1000 → ws.length + 2 ≤ f → 1 ≤ fu →
    passR fu ((pre ++ ws).map .act) many f ⟨pre.length, s, n, kvs, none, none⟩ found = some (found ++ (dueR ws s).1.take (many - found.length))
  | [], pre, s, kvs, n, f, found, h1, h2, h3, h4 => by
    obtain ⟨f, rfl⟩ : ∃ f', f = f' + 2 := ⟨f - 2, by simp at h3; omega⟩
    have e : pre.length = ((pre ++ []).map Ln.act).length := by simp
    rw [passR, dueR]
    split
    · rw [e, step_end h4]
      simp
    · simp
  | w :: ws, pre, s, kvs, n, f, found, h1, h2, h3, h4 => by
    rw [List.length_cons] at h2 h3
    obtain ⟨f, rfl⟩ : ∃ f', f = f' + 1 := ⟨f - 1, by omega⟩
    have e := step_act (fu := fu) (n := n) (s := s) (kvs := kvs) h4 (line_at pre w ws) h1 (by rw [lineMax_eq]; omega)
    rw [passR, dueR]
    split
    · rename_i hlt
      rw [e]
      cases hd : doing s w with
      | none => simp
      | some s' =>
        simp only
        have ih := line_pass (many := many) ws (pre ++ [w]) s' (kvs ++ [((pre.length, s), n)]) (n + 1) f (found ++ [s']) (fun x hx => by
          rw [List.length_append, List.length_singleton]
          rcases List.mem_append.mp hx with hx | hx
          · have := h1 x hx; omega
          · rw [List.mem_singleton.mp hx]; simp) (by rw [List.length_append, List.length_singleton]; omega) (by omega) h4
        rw [List.append_assoc, List.length_append, List.length_singleton, List.length_append, List.length_singleton] at ih
        rw [if_pos trivial]
        have hm : many - found.length = (many - (found.length + 1)) + 1 := by omega
        rw [hm, List.take_succ_cons]
        rw [List.append_assoc] at ih
        exact ih
    · rename_i hlt
      have hm : many - found.length = 0 := by omega
      rw [hm]
      simp
end
section
variable {μ : Store} {fu k W H : Nat} {s : Sc}
theorem alike_rows {rows : Rows} (g : Grid rows W H) : callK Gam fu (k + 2) .law_alike [rowsD rows, rowsD rows] μ = .ok (.bl true) μ := by
  refine alike_tup (by rw [List.length_map, g.len]; have := g.h6; omega) fun x hx => ?_
  obtain ⟨l, hl, rfl⟩ := List.mem_map.mp hx
  refine alike_str (List.all_eq_true.mpr fun c hc => ?_)
  have := g.P l hl c hc
  simp; omega
theorem alike_sc (h : Fit s W H) : callK Gam fu (k + 3) .law_alike [scD s, scD s] μ = .ok (.bl true) μ := by
  refine alike_tup (by simp) fun x hx => ?_
  simp only [List.mem_cons, List.not_mem_nil, or_false] at hx
  rcases hx with rfl | rfl | rfl | rfl | rfl
  · exact alike_rows h.g
  · exact alike_int _
  · exact alike_int _
  · exact alike_int _
  · exact alike_int _
theorem alike_oc {o : Oc} (h : (∃ t, o = .done t ∧ Fit t W H) ∨ (∃ w t, o = .broken w t ∧ Fit t W H) ∨ o = .forever) : callK Gam fu (k + 4) .law_alike [ocD (some o), ocD (some o)] μ = .ok (.bl true) μ := by
  rcases h with ⟨t, rfl, ht⟩ | ⟨w, t, rfl, ht⟩ | rfl
  · refine alike_tup (by simp) fun x hx => ?_
    simp only [List.mem_cons, List.not_mem_nil, or_false] at hx
    rcases hx with rfl | rfl
    · exact alike_str (by decide)
    · exact alike_sc ht
  · refine alike_tup (by simp) fun x hx => ?_
    simp only [List.mem_cons, List.not_mem_nil, or_false] at hx
    rcases hx with rfl | rfl | rfl
    · exact alike_str (by decide)
    · exact alike_str (by cases w <;> decide)
    · exact alike_sc ht
  · refine alike_tup (by simp) fun x hx => ?_
    simp only [List.mem_cons, List.not_mem_nil, or_false] at hx
    subst hx
    exact alike_str (by decide)
theorem alike_scs {a b : D} {ss : List Sc} (ha : listOf μ a = some (ss.map scD)) (hb : listOf μ b = some (ss.map scD)) (hl : ss.length ≤ 10000) (h : ∀ t ∈ ss, Fit t W H) : callK Gam fu (k + 4) .law_alike [a, b] μ = .ok (.bl true) μ := by
  refine alike_list ha hb (by rw [List.length_map]; omega) fun x hx => ?_
  obtain ⟨t, ht, rfl⟩ := List.mem_map.mp hx
  exact alike_sc (h t ht)
end
/-! Programs run as trees, with a budget of stations. -/
inductive TR where
  | out | fin (o : Oc) (r : Nat)
def wl (F : Nat → Sc → TR) (a : Ak) : Nat → Nat → Sc → TR
  | _, 0, _ => .out
  | 0, _ + 1, _ => .out
  | f + 1, n + 1, s => if so s a then (match F n s with
      | .fin (.done s') r => wl F a f r s'
      | x => x) else .fin (.done s) n
mutual
def tS : Stp → Nat → Sc → TR
  | .act w => fun n s => match n with
    | 0 => .out
    | n + 1 => (match doing s w with
      | none => .fin (.broken w s) n
      | some s' => .fin (.done s') n)
  | .ifs a x y => fun n s => match n with
    | 0 => .out
    | n + 1 => if so s a then tB x n s else tB y n s
  | .whl a x => fun n s => wl (tB x) a n n s
def tB : Bd → Nat → Sc → TR
  | .nil => fun n s => .fin (.done s) n
  | .cons st b => fun n s => match tS st n s with
    | .fin (.done s') r => tB b r s'
    | x => x
end
/-- a run that leaves r of n, leaves r + m of n + m -/
def Shift (F : Nat → Sc → TR) : Prop := ∀ n s o r, F n s = .fin o r → r ≤ n ∧ o ≠ .forever ∧ ∀ m, F (n + m) s = .fin o (r + m)
theorem wl_shift {F : Nat → Sc → TR} {a : Ak} (hF : Shift F) : ∀ (f n : Nat) (s : Sc) (o : Oc) (r : Nat), wl F a f n s = .fin o r → r < n ∧ o ≠ .forever ∧ ∀ m f', f ≤ f' → wl F a f' (n + m) s = .fin o (r + m)
  | f, 0, s, o, r, h => by cases f <;> simp [wl] at h
  | 0, n + 1, s, o, r, h => by simp [wl] at h
  | f + 1, n + 1, s, o, r, h => by
    rw [wl] at h
    by_cases hs : so s a = true
    · rw [if_pos hs] at h
      cases hf : F n s with
      | out => rw [hf] at h; cases h
      | fin o1 r1 =>
        rw [hf] at h
        obtain ⟨l1, l2, l3⟩ := hF n s o1 r1 hf
        cases o1 with
        | done s' =>
          simp only at h
          obtain ⟨i1, i2, i3⟩ := wl_shift hF f r1 s' o r h
          refine ⟨by omega, i2, fun m f' hf' => ?_⟩
          obtain ⟨f', rfl⟩ : ∃ g, f' = g + 1 := ⟨f' - 1, by omega⟩
          rw [show n + 1 + m = (n + m) + 1 by omega, wl, if_pos hs, l3 m]
          exact i3 m f' (by omega)
        | broken w t =>
          simp only [TR.fin.injEq] at h
          obtain ⟨rfl, rfl⟩ := h
          refine ⟨by omega, l2, fun m f' hf' => ?_⟩
          obtain ⟨f', rfl⟩ : ∃ g, f' = g + 1 := ⟨f' - 1, by omega⟩
          rw [show n + 1 + m = (n + m) + 1 by omega, wl, if_pos hs, l3 m]
        | forever => exact absurd rfl l2
    · rw [if_neg hs] at h
      simp only [TR.fin.injEq] at h
      obtain ⟨rfl, rfl⟩ := h
      refine ⟨by omega, by simp, fun m f' hf' => ?_⟩
      obtain ⟨f', rfl⟩ : ∃ g, f' = g + 1 := ⟨f' - 1, by omega⟩
      rw [show n + 1 + m = (n + m) + 1 by omega, wl, if_neg hs]
mutual
theorem tS_shift : ∀ st : Stp, Shift (tS st)
  | .act w => fun n s o r h => by
    cases n with
    | zero => simp [tS] at h
    | succ n =>
      simp only [tS] at h ⊢
      cases hd : doing s w with
      | none =>
        rw [hd] at h
        simp only [TR.fin.injEq] at h
        obtain ⟨rfl, rfl⟩ := h
        refine ⟨by omega, by simp, fun m => ?_⟩
        rw [show n + 1 + m = (n + m) + 1 by omega]
      | some s' =>
        rw [hd] at h
        simp only [TR.fin.injEq] at h
        obtain ⟨rfl, rfl⟩ := h
        refine ⟨by omega, by simp, fun m => ?_⟩
        rw [show n + 1 + m = (n + m) + 1 by omega]
  | .ifs a x y => fun n s o r h => by
    cases n with
    | zero => simp [tS] at h
    | succ n =>
      simp only [tS] at h ⊢
      by_cases hs : so s a = true
      · rw [if_pos hs] at h
        obtain ⟨l1, l2, l3⟩ := tB_shift x n s o r h
        refine ⟨by omega, l2, fun m => ?_⟩
        rw [show n + 1 + m = (n + m) + 1 by omega]
        simp only
        rw [if_pos hs, l3 m]
      · rw [if_neg hs] at h
        obtain ⟨l1, l2, l3⟩ := tB_shift y n s o r h
        refine ⟨by omega, l2, fun m => ?_⟩
        rw [show n + 1 + m = (n + m) + 1 by omega]
        simp only
        rw [if_neg hs, l3 m]
  | .whl a x => fun n s o r h => by
    simp only [tS] at h ⊢
    obtain ⟨l1, l2, l3⟩ := wl_shift (tB_shift x) n n s o r h
    exact ⟨by omega, l2, fun m => l3 m (n + m) (by omega)⟩
theorem tB_shift : ∀ b : Bd, Shift (tB b)
  | .nil => fun n s o r h => by
    simp only [tB, TR.fin.injEq] at h ⊢
    obtain ⟨rfl, rfl⟩ := h
    exact ⟨Nat.le_refl _, by simp, fun m => ⟨rfl, rfl⟩⟩
  | .cons st b => fun n s o r h => by
    simp only [tB] at h ⊢
    cases hf : tS st n s with
    | out => rw [hf] at h; cases h
    | fin o1 r1 =>
      rw [hf] at h
      obtain ⟨l1, l2, l3⟩ := tS_shift st n s o1 r1 hf
      cases o1 with
      | done s' =>
        simp only at h
        obtain ⟨i1, i2, i3⟩ := tB_shift b r1 s' o r h
        refine ⟨by omega, i2, fun m => ?_⟩
        rw [l3 m]
        exact i3 m
      | broken w t =>
        simp only [TR.fin.injEq] at h
        obtain ⟨rfl, rfl⟩ := h
        refine ⟨by omega, l2, fun m => ?_⟩
        rw [l3 m]
      | forever => exact absurd rfl l2
end
/-! The machine of lines, without its memory; a tree's run is the machine's. -/
def onOk (ls : List Ln) : Prop := ∀ a t, ls[a]? = some (.on t) → (a < t ∧ t ≤ ls.length) ∨ ∃ q u, ls[t]? = some (.ask q u)
theorem jmp_mono {ls : List Ln} : ∀ (j j' a b : Nat), jmp ls j a = some b → j ≤ j' → jmp ls j' a = some b
  | 0, j', a, b, h, _ => by simp [jmp] at h
  | j + 1, j', a, b, h, hj => by
    obtain ⟨j', rfl⟩ : ∃ g, j' = g + 1 := ⟨j' - 1, by omega⟩
    rw [jmp] at h ⊢
    cases hl : ls[a]? with
    | none => rw [hl] at h; exact h
    | some l =>
      rw [hl] at h
      cases l with
      | on t => exact jmp_mono j j' t b h (by omega)
      | act w => exact h
      | ask q t => exact h
theorem jmp_total {ls : List Ln} (ok : onOk ls) : ∀ (j a : Nat), a ≤ ls.length → ls.length - a + 2 ≤ j → ∃ b, jmp ls j a = some b ∧ b ≤ ls.length ∧ ∀ t, ls[b]? ≠ some (.on t)
  | 0, a, ha, hj => by omega
  | j + 1, a, ha, hj => by
    rw [jmp]
    cases hl : ls[a]? with
    | none => exact ⟨a, rfl, ha, fun t => by rw [hl]; simp⟩
    | some l =>
      cases l with
      | act w => exact ⟨a, rfl, ha, fun t => by rw [hl]; simp⟩
      | ask q t => exact ⟨a, rfl, ha, fun t => by rw [hl]; simp⟩
      | on t =>
        have hlt := (List.getElem?_eq_some_iff.mp hl).1
        rcases ok a t hl with ⟨h1, h2⟩ | ⟨q, u, h1⟩
        · exact jmp_total ok j t h2 (by omega)
        · obtain ⟨j, rfl⟩ : ∃ g, j = g + 1 := ⟨j - 1, by omega⟩
          refine ⟨t, ?_, Nat.le_of_lt (List.getElem?_eq_some_iff.mp h1).1, fun t' => by rw [h1]; simp⟩
          simp only
          rw [jmp, h1]
section
variable {fu : Nat} {ls : List Ln}
theorem jmp_on (ok : onOk ls) (hfu : ls.length + 3 ≤ fu) {a t : Nat} (h : ls[a]? = some (.on t)) : jmp ls fu a = jmp ls fu t := by
  obtain ⟨f, rfl⟩ : ∃ f, fu = f + 1 := ⟨fu - 1, by omega⟩
  have ht : t ≤ ls.length := by
    rcases ok a t h with ⟨_, h2⟩ | ⟨q, u, h1⟩
    · exact h2
    · exact Nat.le_of_lt (List.getElem?_eq_some_iff.mp h1).1
  obtain ⟨b, e, _⟩ := jmp_total ok f t ht (by omega)
  rw [jmp_mono f (f + 1) t b e (by omega), jmp, h]
  exact e
theorem jmp_self {a : Nat} (h1 : 1 ≤ fu) (h : ∀ t, ls[a]? ≠ some (.on t)) : jmp ls fu a = some a := by
  obtain ⟨f, rfl⟩ : ∃ f, fu = f + 1 := ⟨fu - 1, by omega⟩
  rw [jmp]
  cases hl : ls[a]? with
  | none => rfl
  | some l =>
    cases l with
    | on t => exact absurd hl (h t)
    | act w => rfl
    | ask q t => rfl
end
inductive MR where
  | at_ (a : Nat) (s : Sc) | halt (o : Oc) | bad
def mrun (fu : Nat) (ls : List Ln) : Nat → Nat → Sc → MR
  | 0, a, s => .at_ a s
  | n + 1, a, s => match jmp ls fu a with
    | none => .bad
    | some b => match ls[b]? with
      | none => .halt (.done s)
      | some (.act w) => (match doing s w with
        | none => .halt (.broken w s)
        | some s' => mrun fu ls n (b + 1) s')
      | some (.ask q t) => mrun fu ls n (if so s q then b + 1 else t) s
      | some (.on _) => .bad
section
variable {fu : Nat} {ls : List Ln}
theorem mrun_add : ∀ (n : Nat) {m a b : Nat} {s t : Sc}, mrun fu ls n a s = .at_ b t → mrun fu ls (n + m) a s = mrun fu ls m b t
  | 0, m, a, b, s, t, h => by
    simp only [mrun, MR.at_.injEq] at h
    rw [h.1, h.2, Nat.zero_add]
  | n + 1, m, a, b, s, t, h => by
    rw [show n + 1 + m = (n + m) + 1 by omega, mrun]
    rw [mrun] at h
    cases hj : jmp ls fu a with
    | none => rw [hj] at h; cases h
    | some c =>
      rw [hj] at h
      simp only at h ⊢
      cases hl : ls[c]? with
      | none => rw [hl] at h; cases h
      | some l =>
        rw [hl] at h
        cases l with
        | on u => cases h
        | ask q u => exact mrun_add n h
        | act w =>
          simp only at h ⊢
          cases hd : doing s w with
          | none => rw [hd] at h; cases h
          | some s' => rw [hd] at h; exact mrun_add n h
theorem mrun_halt : ∀ (n m : Nat) {a : Nat} {s : Sc} {o : Oc}, mrun fu ls n a s = .halt o → mrun fu ls (n + m) a s = .halt o
  | 0, m, a, s, o, h => by simp [mrun] at h
  | n + 1, m, a, s, o, h => by
    rw [show n + 1 + m = (n + m) + 1 by omega, mrun]
    rw [mrun] at h
    cases hj : jmp ls fu a with
    | none => rw [hj] at h; cases h
    | some c =>
      rw [hj] at h
      simp only at h ⊢
      cases hl : ls[c]? with
      | none => rw [hl] at h; exact h
      | some l =>
        rw [hl] at h
        cases l with
        | on u => cases h
        | ask q u => exact mrun_halt n m h
        | act w =>
          simp only at h ⊢
          cases hd : doing s w with
          | none => rw [hd] at h; exact h
          | some s' => rw [hd] at h; exact mrun_halt n m h
theorem mrun_jmp {m a a' : Nat} {s : Sc} (h : jmp ls fu a = jmp ls fu a') : mrun fu ls (m + 1) a s = mrun fu ls (m + 1) a' s := by
  rw [mrun, mrun, h]
theorem mrun_glue {m a a' c : Nat} {s t : Sc} (h : jmp ls fu a = jmp ls fu a') (e : mrun fu ls m a' s = .at_ c t) : ∃ c', mrun fu ls m a s = .at_ c' t ∧ jmp ls fu c' = jmp ls fu c := by
  cases m with
  | zero =>
    simp only [mrun, MR.at_.injEq] at e
    obtain ⟨rfl, rfl⟩ := e
    exact ⟨a, rfl, h⟩
  | succ m => exact ⟨c, by rw [mrun_jmp h]; exact e, rfl⟩
/-- from line n0 the machine runs as F does, to line n1 -/
def Sim (K fu : Nat) (ls : List Ln) (F : Nat → Sc → TR) (n0 n1 : Nat) : Prop := ∀ n s, n ≤ K →
  (F n s = .out → ∃ a t, mrun fu ls n n0 s = .at_ a t) ∧
  (∀ s' r, F n s = .fin (.done s') r → ∃ a, mrun fu ls (n - r) n0 s = .at_ a s' ∧ jmp ls fu a = jmp ls fu n1) ∧
  (∀ w s' r, F n s = .fin (.broken w s') r → r < n ∧ mrun fu ls (n - r) n0 s = .halt (.broken w s'))
theorem Sim.pos {K : Nat} {F : Nat → Sc → TR} {n0 n0' n1 n1' : Nat} (h : Sim K fu ls F n0 n1) (h0 : jmp ls fu n0' = jmp ls fu n0) (h1 : jmp ls fu n1 = jmp ls fu n1') : Sim K fu ls F n0' n1' := fun n s hK => by
  obtain ⟨a1, a2, a3⟩ := h n s hK
  refine ⟨fun e => ?_, fun s' r e => ?_, fun w s' r e => ?_⟩
  · obtain ⟨a, t, e1⟩ := a1 e
    obtain ⟨c', e2, _⟩ := mrun_glue h0 e1
    exact ⟨c', t, e2⟩
  · obtain ⟨a, e1, e2⟩ := a2 s' r e
    obtain ⟨c', e3, e4⟩ := mrun_glue h0 e1
    exact ⟨c', e3, by rw [e4, e2, h1]⟩
  · obtain ⟨l, e1⟩ := a3 w s' r e
    refine ⟨l, ?_⟩
    obtain ⟨m, hm⟩ : ∃ m, n - r = m + 1 := ⟨n - r - 1, by omega⟩
    rw [hm] at e1 ⊢
    rw [mrun_jmp h0]
    exact e1
/-- first F, then G -/
theorem Sim.seq {K : Nat} {F G : Nat → Sc → TR} {n0 n1 n2 : Nat} (hF : Sim K fu ls F n0 n1) (hG : Sim K fu ls G n1 n2) (sF : Shift F) (sG : ∀ n s o r, G n s = .fin o r → r ≤ n) :
    Sim K fu ls (fun n s => match F n s with
      | .fin (.done s') r => G r s'
      | x => x) n0 n2 := fun n s hK => by
  obtain ⟨a1, a2, a3⟩ := hF n s hK
  cases hf : F n s with
  | out =>
    simp only [hf]
    exact ⟨fun _ => a1 hf, by simp, by simp⟩
  | fin o r =>
    obtain ⟨l1, l2, l3⟩ := sF n s o r hf
    cases o with
    | forever => exact absurd rfl l2
    | broken w s' =>
      simp only [hf]
      refine ⟨by simp, by simp, fun w' t r' e => ?_⟩
      simp only [TR.fin.injEq, Oc.broken.injEq] at e
      obtain ⟨⟨rfl, rfl⟩, rfl⟩ := e
      exact a3 w s' r hf
    | done s' =>
      simp only [hf]
      obtain ⟨a, e1, e2⟩ := a2 s' r hf
      obtain ⟨b1, b2, b3⟩ := hG r s' (by omega)
      refine ⟨fun e => ?_, fun t r' e => ?_, fun w t r' e => ?_⟩
      · obtain ⟨c, t, e3⟩ := b1 e
        obtain ⟨c', e4, _⟩ := mrun_glue e2 e3
        refine ⟨c', t, ?_⟩
        have := mrun_add (m := r) _ e1
        rw [show n - r + r = n by omega] at this
        rw [this]
        exact e4
      · obtain ⟨c, e3, e4⟩ := b2 t r' e
        have k1 := sG r s' _ r' e
        obtain ⟨c', e5, e6⟩ := mrun_glue e2 e3
        refine ⟨c', ?_, by rw [e6, e4]⟩
        have := mrun_add (m := r - r') _ e1
        rw [show n - r + (r - r') = n - r' by omega] at this
        rw [this]
        exact e5
      · obtain ⟨k1, e3⟩ := b3 w t r' e
        refine ⟨by omega, ?_⟩
        have := mrun_add (m := r - r') _ e1
        rw [show n - r + (r - r') = n - r' by omega] at this
        rw [this]
        obtain ⟨m, hm⟩ : ∃ m, r - r' = m + 1 := ⟨r - r' - 1, by omega⟩
        rw [hm] at e3 ⊢
        rw [mrun_jmp e2]
        exact e3
end
/-! A program's lines do what its tree does. -/
def Blk (ls : List Ln) (n0 : Nat) (blk : List Ln) : Prop := ∀ i l, blk[i]? = some l → ls[n0 + i]? = some l
theorem Blk.left {ls x y : List Ln} {n0 : Nat} (h : Blk ls n0 (x ++ y)) : Blk ls n0 x := fun i l e => h i l (by rw [List.getElem?_append_left (List.getElem?_eq_some_iff.mp e).1]; exact e)
theorem Blk.right {ls x y : List Ln} {n0 : Nat} (h : Blk ls n0 (x ++ y)) : Blk ls (n0 + x.length) y := fun i l e => by
  rw [Nat.add_assoc]
  exact h (x.length + i) l (by rw [List.getElem?_append_right (by omega)]; rw [show x.length + i - x.length = i by omega]; exact e)
theorem Blk.one {ls : List Ln} {n0 : Nat} {l : Ln} (h : Blk ls n0 [l]) : ls[n0]? = some l := h 0 l rfl
section
variable {fu : Nat} {ls : List Ln}
theorem mrun_ask {n0 n t : Nat} {a : Ak} {s : Sc} (hfu : 1 ≤ fu) (h : ls[n0]? = some (.ask a t)) : mrun fu ls (n + 1) n0 s = mrun fu ls n (if so s a then n0 + 1 else t) s := by
  rw [mrun, jmp_self hfu (by rw [h]; simp)]
  simp only [h]
theorem sim_act {K n0 : Nat} {w : Wd} (hfu : 1 ≤ fu) (h : ls[n0]? = some (.act w)) : Sim K fu ls (tS (.act w)) n0 (n0 + 1) := fun n s hK => by
  have hj : jmp ls fu n0 = some n0 := jmp_self hfu (by rw [h]; simp)
  cases n with
  | zero => exact ⟨fun _ => ⟨n0, s, rfl⟩, by simp [tS], by simp [tS]⟩
  | succ n =>
    simp only [tS]
    cases hd : doing s w with
    | none =>
      refine ⟨by simp, by simp, fun w' s' r e => ?_⟩
      simp only [TR.fin.injEq, Oc.broken.injEq] at e
      obtain ⟨⟨rfl, rfl⟩, rfl⟩ := e
      refine ⟨by omega, ?_⟩
      rw [show n + 1 - n = 0 + 1 by omega, mrun, hj]
      simp only [h, hd]
    | some s' =>
      refine ⟨by simp, fun t r e => ?_, by simp⟩
      simp only [TR.fin.injEq, Oc.done.injEq] at e
      obtain ⟨rfl, rfl⟩ := e
      refine ⟨n0 + 1, ?_, rfl⟩
      rw [show n + 1 - n = 0 + 1 by omega, mrun, hj]
      simp only [h, hd, mrun]
/-- an ask ahead of two -/
theorem sim_ask {K n0 n2 n3 : Nat} {a : Ak} {F G : Nat → Sc → TR} (hfu : 1 ≤ fu) (h : ls[n0]? = some (.ask a n2)) (hF : Sim K fu ls F (n0 + 1) n3) (hG : Sim K fu ls G n2 n3) (sF : ∀ n s o r, F n s = .fin o r → r ≤ n) (sG : ∀ n s o r, G n s = .fin o r → r ≤ n) :
    Sim (K + 1) fu ls (fun n s => match n with
      | 0 => .out
      | n + 1 => if so s a then F n s else G n s) n0 n3 := fun n s hK => by
  cases n with
  | zero => exact ⟨fun _ => ⟨n0, s, rfl⟩, by simp, by simp⟩
  | succ n =>
    simp only
    have e0 : ∀ m, mrun fu ls (m + 1) n0 s = mrun fu ls m (if so s a then n0 + 1 else n2) s := fun m => mrun_ask hfu h
    by_cases hs : so s a = true
    · simp only [if_pos hs] at e0 ⊢
      obtain ⟨a1, a2, a3⟩ := hF n s (by omega)
      refine ⟨fun e => ?_, fun s' r e => ?_, fun w s' r e => ?_⟩
      · rw [e0]; exact a1 e
      · have := sF n s _ r e
        rw [show n + 1 - r = (n - r) + 1 by omega, e0]
        exact a2 s' r e
      · obtain ⟨l1, e1⟩ := a3 w s' r e
        rw [show n + 1 - r = (n - r) + 1 by omega, e0]
        exact ⟨by omega, e1⟩
    · simp only [if_neg hs] at e0 ⊢
      obtain ⟨a1, a2, a3⟩ := hG n s (by omega)
      refine ⟨fun e => ?_, fun s' r e => ?_, fun w s' r e => ?_⟩
      · rw [e0]; exact a1 e
      · have := sG n s _ r e
        rw [show n + 1 - r = (n - r) + 1 by omega, e0]
        exact a2 s' r e
      · obtain ⟨l1, e1⟩ := a3 w s' r e
        rw [show n + 1 - r = (n - r) + 1 by omega, e0]
        exact ⟨by omega, e1⟩
theorem sim_nil {K n0 : Nat} : Sim K fu ls (fun n s => .fin (.done s) n) n0 n0 := fun n s _ => by
  refine ⟨by simp, fun s' r e => ?_, by simp⟩
  simp only [TR.fin.injEq, Oc.done.injEq] at e
  obtain ⟨rfl, rfl⟩ := e
  exact ⟨n0, by rw [Nat.sub_self]; rfl, rfl⟩
theorem wl_le {F : Nat → Sc → TR} {a : Ak} (hF : Shift F) (f n : Nat) (s : Sc) (o : Oc) (r : Nat) (h : wl F a f n s = .fin o r) : r ≤ n := Nat.le_of_lt (wl_shift hF f n s o r h).1
theorem sim_wl {n0 n1 n2 : Nat} {a : Ak} {F : Nat → Sc → TR} (hfu : 1 ≤ fu) (h : ls[n0]? = some (.ask a n2)) (hF : ∀ K, Sim K fu ls F (n0 + 1) n1) (sF : Shift F) (hj : jmp ls fu n1 = jmp ls fu n0) : ∀ f, Sim f fu ls (wl F a f) n0 n2
  | 0 => fun n s hK => by
    have hn : n = 0 := by omega
    subst hn
    exact ⟨fun _ => ⟨n0, s, rfl⟩, by simp [wl], by simp [wl]⟩
  | f + 1 => by
    have ih := sim_wl hfu h hF sF hj f
    have ih' : Sim f fu ls (wl F a f) n1 n2 := ih.pos hj rfl
    have hs := (hF f).seq ih' sF (wl_le sF f)
    have hz := sim_ask (K := f) (n3 := n2) hfu h hs (sim_nil (n0 := n2)) (fun n s o r e => by
      cases hf : F n s with
      | out => rw [hf] at e; cases e
      | fin o1 r1 =>
        rw [hf] at e
        have l := (sF n s o1 r1 hf).1
        cases o1 with
        | done s' =>
          simp only at e
          have := wl_le sF f r1 s' o r e
          omega
        | broken w t =>
          simp only [TR.fin.injEq] at e
          omega
        | forever =>
          simp only [TR.fin.injEq] at e
          omega) (fun n s o r e => by simp only [TR.fin.injEq] at e; omega)
    intro n s hK
    have := hz n s hK
    cases n with
    | zero => exact ⟨fun _ => ⟨n0, s, rfl⟩, by simp [wl], by simp [wl]⟩
    | succ n =>
      simp only at this
      rw [wl]
      exact this
mutual
theorem sim_S (ok : onOk ls) (hfu : ls.length + 3 ≤ fu) : ∀ (st : Stp) (n0 K : Nat), Blk ls n0 (lnS st n0) → Sim K fu ls (tS st) n0 (n0 + (lnS st n0).length)
  | .act w, n0, K, hb => by
    rw [lnS] at hb ⊢
    exact sim_act (by omega) hb.one
  | .whl a x, n0, K, hb => by
    rw [lnS] at hb
    have h1 := hb.left.left.one
    have h2 := hb.left.right
    have h3 := hb.right.one
    simp only [List.length_append, List.length_singleton] at h2 h3
    have hlen : n0 + (lnS (.whl a x) n0).length = n0 + (lnB x (n0 + 1)).length + 2 := by
      simp only [lnS, List.length_append, List.length_singleton]; omega
    rw [hlen]
    have hF : ∀ K, Sim K fu ls (tB x) (n0 + 1) (n0 + 1 + (lnB x (n0 + 1)).length) := fun K => sim_B ok hfu x (n0 + 1) K h2
    have hj : jmp ls fu (n0 + 1 + (lnB x (n0 + 1)).length) = jmp ls fu n0 := jmp_on ok hfu (by rw [Nat.add_assoc]; exact h3)
    have hw := sim_wl (by omega) h1 hF (tB_shift x) hj
    intro n s hK
    have := hw n n s (Nat.le_refl _)
    rw [tS]
    exact this
  | .ifs a x y, n0, K, hb => by
    rw [lnS] at hb
    have h1 := hb.left.left.left.one
    have h2 := hb.left.left.right
    have h3 := hb.left.right.one
    have h4 := hb.right
    simp only [List.length_append, List.length_singleton] at h2 h3 h4
    have hlen : n0 + (lnS (.ifs a x y) n0).length = n0 + (lnB x (n0 + 1)).length + (lnB y (n0 + (lnB x (n0 + 1)).length + 2)).length + 2 := by
      simp only [lnS, List.length_append, List.length_singleton]; omega
    rw [hlen]
    have hF := sim_B ok hfu x (n0 + 1) K h2
    have hG := sim_B ok hfu y (n0 + (lnB x (n0 + 1)).length + 2) K (by
      rw [show n0 + (lnB x (n0 + 1)).length + 2 = n0 + (1 + (lnB x (n0 + 1)).length + 1) by omega] at h4 ⊢
      exact h4)
    have hj : jmp ls fu (n0 + 1 + (lnB x (n0 + 1)).length) = jmp ls fu (n0 + (lnB x (n0 + 1)).length + (lnB y (n0 + (lnB x (n0 + 1)).length + 2)).length + 2) := jmp_on ok hfu (by rw [Nat.add_assoc]; exact h3)
    have hF' := hF.pos rfl hj
    have he : n0 + (lnB x (n0 + 1)).length + 2 + (lnB y (n0 + (lnB x (n0 + 1)).length + 2)).length = n0 + (lnB x (n0 + 1)).length + (lnB y (n0 + (lnB x (n0 + 1)).length + 2)).length + 2 := by omega
    rw [he] at hG
    have hz := sim_ask (by omega) h1 hF' hG (fun n s o r e => (tB_shift x n s o r e).1) (fun n s o r e => (tB_shift y n s o r e).1)
    intro n s hK
    have := hz n s (by omega)
    cases n with
    | zero => exact ⟨fun _ => ⟨n0, s, rfl⟩, by simp [tS], by simp [tS]⟩
    | succ n =>
      simp only [tS]
      exact this
theorem sim_B (ok : onOk ls) (hfu : ls.length + 3 ≤ fu) : ∀ (b : Bd) (n0 K : Nat), Blk ls n0 (lnB b n0) → Sim K fu ls (tB b) n0 (n0 + (lnB b n0).length)
  | .nil, n0, K, hb => by
    intro n s hK
    rw [tB]
    exact sim_nil (K := n) n s (Nat.le_refl _)
  | .cons st b, n0, K, hb => by
    rw [lnB] at hb ⊢
    have h1 := sim_S ok hfu st n0 K hb.left
    have h2 := sim_B ok hfu b (n0 + (lnS st n0).length) K hb.right
    have h3 := h1.seq h2 (tS_shift st) (fun n s o r e => (tB_shift b n s o r e).1)
    rw [List.length_append, ← Nat.add_assoc]
    intro n s hK
    rw [tB]
    exact h3 n s hK
end
end
/-! Jumps of a program's lines; the run with its memory. -/
/-- where the jumps of a block at n0 go, in a block of len lines -/
def onB (all x : List Ln) (n0 k : Nat) : Prop := ∀ i t, x[i]? = some (.on t) → (n0 + (k + i) < t ∧ t ≤ n0 + all.length) ∨ ∃ j q u, t = n0 + j ∧ all[j]? = some (.ask q u)
theorem onB_app {all x y : List Ln} {n0 k : Nat} (hx : onB all x n0 k) (hy : onB all y n0 (k + x.length)) : onB all (x ++ y) n0 k := fun i t h => by
  by_cases hi : i < x.length
  · rw [List.getElem?_append_left hi] at h
    exact hx i t h
  · rw [List.getElem?_append_right (by omega)] at h
    have := hy (i - x.length) t h
    rw [show k + x.length + (i - x.length) = k + i by omega] at this
    exact this
theorem onB_in {all x : List Ln} {n0 k : Nat} (hb : Blk all k x) (hl : k + x.length ≤ all.length) (h : onB x x (n0 + k) 0) : onB all x n0 k := fun i t e => by
  rcases h i t e with ⟨h1, h2⟩ | ⟨j, q, u, h1, h2⟩
  · exact .inl ⟨by omega, by omega⟩
  · exact .inr ⟨k + j, q, u, by omega, hb j _ h2⟩
theorem Blk.self {x y z : List Ln} : Blk (x ++ y ++ z) x.length y := fun i l e => by
  have := (List.getElem?_eq_some_iff.mp e).1
  rw [List.getElem?_append_left (by rw [List.length_append]; omega), List.getElem?_append_right (by omega), show x.length + i - x.length = i by omega]
  exact e
mutual
theorem on_S : ∀ (st : Stp) (n0 : Nat), onB (lnS st n0) (lnS st n0) n0 0
  | .act w, n0 => fun i t h => by
    rw [lnS] at h
    cases i with
    | zero => cases h
    | succ i => cases h
  | .whl a x, n0 => by
    have h1 := on_B x (n0 + 1)
    have e : lnS (.whl a x) n0 = [Ln.ask a (n0 + (lnB x (n0 + 1)).length + 2)] ++ lnB x (n0 + 1) ++ [.on n0] := by rw [lnS]
    generalize hall : lnS (.whl a x) n0 = all at *
    have hlen : all.length = (lnB x (n0 + 1)).length + 2 := by rw [e]; simp
    have hb : Blk all 1 (lnB x (n0 + 1)) := by rw [e]; exact Blk.self (x := [Ln.ask a (n0 + (lnB x (n0 + 1)).length + 2)])
    have h0 : all[0]? = some (.ask a (n0 + (lnB x (n0 + 1)).length + 2)) := by rw [e]; rfl
    have k1 : onB all [Ln.ask a (n0 + (lnB x (n0 + 1)).length + 2)] n0 0 := fun i t h => by
      cases i with
      | zero => cases h
      | succ i => cases h
    have k2 : onB all (lnB x (n0 + 1)) n0 (0 + [Ln.ask a (n0 + (lnB x (n0 + 1)).length + 2)].length) := onB_in hb (by simp; omega) h1
    have k3 : onB all [Ln.on n0] n0 (0 + ([Ln.ask a (n0 + (lnB x (n0 + 1)).length + 2)] ++ lnB x (n0 + 1)).length) := fun i t h => by
      cases i with
      | zero =>
        simp only [List.getElem?_cons_zero, Option.some.injEq, Ln.on.injEq] at h
        exact .inr ⟨0, _, _, by omega, h0⟩
      | succ i => cases h
    have := onB_app (onB_app k1 k2) k3
    rw [← e] at this
    exact this
  | .ifs a x y, n0 => by
    have h1 := on_B x (n0 + 1)
    have h2 := on_B y (n0 + (lnB x (n0 + 1)).length + 2)
    have e : lnS (.ifs a x y) n0 = [Ln.ask a (n0 + (lnB x (n0 + 1)).length + 2)] ++ lnB x (n0 + 1) ++ [.on (n0 + (lnB x (n0 + 1)).length + (lnB y (n0 + (lnB x (n0 + 1)).length + 2)).length + 2)] ++ lnB y (n0 + (lnB x (n0 + 1)).length + 2) := by rw [lnS]
    generalize hall : lnS (.ifs a x y) n0 = all at *
    generalize hL1 : lnB x (n0 + 1) = L1 at *
    generalize hL2 : lnB y (n0 + L1.length + 2) = L2 at *
    have hlen : all.length = L1.length + L2.length + 2 := by rw [e]; simp; omega
    have hb : Blk all 1 L1 := by
      rw [e, List.append_assoc]
      exact Blk.self (x := [Ln.ask a (n0 + L1.length + 2)])
    have hb2 : Blk all (L1.length + 2) L2 := by
      have := Blk.self (x := [Ln.ask a (n0 + L1.length + 2)] ++ L1 ++ [Ln.on (n0 + L1.length + L2.length + 2)]) (y := L2) (z := [])
      rw [List.append_nil, ← e] at this
      have hl : ([Ln.ask a (n0 + L1.length + 2)] ++ L1 ++ [Ln.on (n0 + L1.length + L2.length + 2)]).length = L1.length + 2 := by simp
      rw [hl] at this
      exact this
    have k1 : onB all [Ln.ask a (n0 + L1.length + 2)] n0 0 := fun i t h => by
      cases i with
      | zero => cases h
      | succ i => cases h
    have k2 : onB all L1 n0 (0 + [Ln.ask a (n0 + L1.length + 2)].length) := onB_in hb (by simp; omega) h1
    have k3 : onB all [Ln.on (n0 + L1.length + L2.length + 2)] n0 (0 + ([Ln.ask a (n0 + L1.length + 2)] ++ L1).length) := fun i t h => by
      cases i with
      | zero =>
        simp only [List.getElem?_cons_zero, Option.some.injEq, Ln.on.injEq] at h
        refine .inl ⟨?_, by omega⟩
        simp only [List.length_append, List.length_singleton]
        omega
      | succ i => cases h
    have k4 : onB all L2 n0 (0 + ([Ln.ask a (n0 + L1.length + 2)] ++ L1 ++ [Ln.on (n0 + L1.length + L2.length + 2)]).length) := by
      have hl : 0 + ([Ln.ask a (n0 + L1.length + 2)] ++ L1 ++ [Ln.on (n0 + L1.length + L2.length + 2)]).length = L1.length + 2 := by simp
      rw [hl]
      exact onB_in hb2 (by omega) (by rw [← Nat.add_assoc]; exact h2)
    have := onB_app (onB_app (onB_app k1 k2) k3) k4
    rw [← e] at this
    exact this
theorem on_B : ∀ (b : Bd) (n0 : Nat), onB (lnB b n0) (lnB b n0) n0 0
  | .nil, n0 => fun i t h => by simp [lnB] at h
  | .cons st b, n0 => by
    have h1 := on_S st n0
    have h2 := on_B b (n0 + (lnS st n0).length)
    rw [lnB]
    have b1 : Blk (lnS st n0 ++ lnB b (n0 + (lnS st n0).length)) 0 (lnS st n0) := fun i l e => by
      rw [Nat.zero_add, List.getElem?_append_left (List.getElem?_eq_some_iff.mp e).1]; exact e
    have b2 : Blk (lnS st n0 ++ lnB b (n0 + (lnS st n0).length)) (lnS st n0).length (lnB b (n0 + (lnS st n0).length)) := by
      have := Blk.self (x := lnS st n0) (y := lnB b (n0 + (lnS st n0).length)) (z := [])
      rw [List.append_nil] at this
      exact this
    refine onB_app (onB_in b1 (by simp) h1) ?_
    rw [Nat.zero_add]
    exact onB_in b2 (by simp) h2
end
theorem on_ok (b : Bd) : onOk (lnB b 0) := fun a t h => by
  rcases on_B b 0 a t h with ⟨h1, h2⟩ | ⟨j, q, u, h1, h2⟩
  · exact .inl ⟨by omega, by omega⟩
  · exact .inr ⟨q, u, by rw [h1, Nat.zero_add]; exact h2⟩
theorem sim_all {fu K : Nat} (b : Bd) (hfu : (lnB b 0).length + 3 ≤ fu) : Sim K fu (lnB b 0) (tB b) 0 (lnB b 0).length := by
  have := sim_B (on_ok b) hfu b 0 K (fun i l e => by rw [Nat.zero_add]; exact e)
  rw [Nat.zero_add] at this
  exact this
/-! The run with its memory comes out as the machine. -/
section
variable {fu : Nat} {ls : List Ln}
/-- a machine that comes to a station again doesn't halt -/
theorem again_no_halt {a0 : Nat} {s0 : Sc} {i j a a' b : Nat} {t : Sc} (hij : j < i) (h1 : mrun fu ls j a0 s0 = .at_ a t) (h2 : mrun fu ls i a0 s0 = .at_ a' t) (e1 : jmp ls fu a = some b) (e2 : jmp ls fu a' = some b) : ∀ (N : Nat) (o : Oc), mrun fu ls N a0 s0 ≠ .halt o := by
  have hsame : ∀ m, mrun fu ls (j + (m + 1)) a0 s0 = mrun fu ls (i + (m + 1)) a0 s0 := fun m => by
    rw [mrun_add j h1, mrun_add i h2]
    exact mrun_jmp (by rw [e1, e2])
  have key : ∀ (m : Nat) (o : Oc), mrun fu ls (j + (m + 1)) a0 s0 ≠ .halt o := by
    intro m
    induction m using Nat.strongRecOn with
    | _ m ih =>
      intro o h
      by_cases hle : j + (m + 1) ≤ i
      · have := mrun_halt _ (i - (j + (m + 1))) h
        rw [show j + (m + 1) + (i - (j + (m + 1))) = i by omega, h2] at this
        cases this
      · obtain ⟨m', hm'⟩ : ∃ m', j + (m + 1) = i + (m' + 1) := ⟨j + m - i, by omega⟩
        rw [hm', ← hsame m'] at h
        exact ih m' (by omega) o h
  intro N o h
  by_cases hle : N ≤ j
  · have := mrun_halt _ (j - N) h
    rw [show N + (j - N) = j by omega, h1] at this
    cases this
  · obtain ⟨m, hm⟩ : ∃ m, N = j + (m + 1) := ⟨N - j - 1, by omega⟩
    rw [hm] at h
    exact key m o h
/-- a run of i stations -/
structure Vis (fu : Nat) (ls : List Ln) (s0 : Sc) (i : Nat) (x : RS) : Prop where
  m : mrun fu ls i 0 s0 = .at_ x.at_ x.s
  len : x.kvs.length = i
  each : ∀ e ∈ x.kvs, ∃ j a, j < i ∧ mrun fu ls j 0 s0 = .at_ a e.1.2 ∧ jmp ls fu a = some e.1.1
  nd : (x.kvs.map (·.1)).Nodup
  o : x.o = none
  ar : x.ar = none
theorem look_mem : ∀ {kvs : Met} {a : Nat} {s : Sc} {m : Nat}, look kvs a s = some m → ((a, s), m) ∈ kvs
  | ((b, t), m') :: r, a, s, m, h => by
    rw [look] at h
    split at h
    · rename_i hh
      simp only [Option.some.injEq] at h
      rw [hh.1, hh.2, h]
      exact List.mem_cons_self
    · exact List.mem_cons_of_mem _ (look_mem h)
theorem look_not : ∀ {kvs : Met} {a : Nat} {s : Sc}, look kvs a s = none → (a, s) ∉ kvs.map (·.1)
  | [], a, s, h => by simp
  | ((b, t), m') :: r, a, s, h => by
    rw [look] at h
    split at h
    · cases h
    · rename_i hh
      simp only [List.map_cons, List.mem_cons, not_or]
      refine ⟨fun e => ?_, look_not h⟩
      simp only [Prod.mk.injEq] at e
      exact hh ⟨e.1.symm, e.2.symm⟩
theorem run_vis {s0 : Sc} {M : Nat} (hM : ∀ i x, Vis fu ls s0 i x → i ≤ M) (hMl : M < lineMax) (hj : ∀ i x, Vis fu ls s0 i x → ∃ b, jmp ls fu x.at_ = some b ∧ b ≤ ls.length ∧ ∀ t, ls[b]? ≠ some (.on t)) :
    ∀ (f i : Nat) (x : RS), Vis fu ls s0 i x → M + 2 ≤ f + i → ∃ x', runR fu ls f x = some x' ∧ ((x'.o = some .forever ∧ (∀ N o, mrun fu ls N 0 s0 ≠ .halt o)) ∨ (∃ o N, x'.o = some o ∧ x'.ar = none ∧ mrun fu ls N 0 s0 = .halt o))
  | 0, i, x, v, h => by have := hM i x v; omega
  | f + 1, i, x, v, h => by
    have hi := hM i x v
    obtain ⟨f, rfl⟩ : ∃ g, f = g + 1 := ⟨f - 1, by omega⟩
    obtain ⟨b, jb, bl, bn⟩ := hj i x v
    rw [runR, v.o]
    simp only
    rw [stepR, jb]
    simp only
    cases hl : ls[b]? with
    | none =>
      have hb : b = ls.length := by have := List.getElem?_eq_none_iff.mp hl; omega
      simp only [if_pos hb]
      rw [runR]
      simp only
      refine ⟨_, rfl, .inr ⟨.done x.s, i + 1, rfl, v.ar, ?_⟩⟩
      rw [mrun_add i v.m, mrun, jb]
      simp only [hl]
    | some l =>
      simp only
      cases hk : look x.kvs b x.s with
      | some m =>
        simp only
        rw [runR]
        simp only
        refine ⟨_, rfl, .inl ⟨rfl, ?_⟩⟩
        obtain ⟨j, a, hji, h1, h2⟩ := v.each _ (look_mem hk)
        exact again_no_halt hji h1 v.m h2 jb
      | none =>
        have hnot := look_not hk
        have nd : ((x.kvs ++ [((b, x.s), x.n)]).map (·.1)).Nodup := by
          rw [List.map_append, List.nodup_append]
          refine ⟨v.nd, by simp, ?_⟩
          intro y hy z hz
          simp only [List.map_cons, List.map_nil, List.mem_singleton] at hz
          rw [hz]
          exact fun e => hnot (e ▸ hy)
        have each : ∀ e ∈ x.kvs ++ [((b, x.s), x.n)], ∃ j a, j < i + 1 ∧ mrun fu ls j 0 s0 = .at_ a e.1.2 ∧ jmp ls fu a = some e.1.1 := by
          intro e he
          rcases List.mem_append.mp he with he | he
          · obtain ⟨j, a, hji, h1, h2⟩ := v.each e he
            exact ⟨j, a, by omega, h1, h2⟩
          · rw [List.mem_singleton.mp he]
            exact ⟨i, x.at_, by omega, v.m, jb⟩
        have hlen : (x.kvs ++ [((b, x.s), x.n)]).length = i + 1 := by rw [List.length_append, v.len]; rfl
        rw [if_pos (by rw [v.len]; omega)]
        cases l with
        | on t => exact absurd hl (bn t)
        | ask q t =>
          simp only
          exact run_vis hM hMl hj (f + 1) (i + 1) _ ⟨by rw [mrun_add i v.m, mrun, jb]; simp only [hl, mrun], hlen, each, nd, v.o, v.ar⟩ (by omega)
        | act w =>
          simp only
          cases hd : doing x.s w with
          | none =>
            simp only
            rw [runR]
            simp only
            refine ⟨_, rfl, .inr ⟨.broken w x.s, i + 1, rfl, v.ar, ?_⟩⟩
            rw [mrun_add i v.m, mrun, jb]
            simp only [hl, hd]
          | some s' =>
            simp only
            exact run_vis hM hMl hj (f + 1) (i + 1) _ ⟨by rw [mrun_add i v.m, mrun, jb]; simp only [hl, hd, mrun], hlen, each, nd, v.o, v.ar⟩ (by omega)
end
/-! Counting scenes: paths of doings. -/
inductive Pth (P : Wd → Prop) : Sc → Sc → Prop where
  | refl (s : Sc) : Pth P s s
  | step {s t u : Sc} {w : Wd} : P w → doing s w = some t → Pth P t u → Pth P s u
theorem Pth.trans {P : Wd → Prop} {s t u : Sc} (h : Pth P s t) (h' : Pth P t u) : Pth P s u := by
  induction h with
  | refl s => exact h'
  | step hw hd _ ih => exact .step hw hd (ih h')
theorem Pth.mono {P Q : Wd → Prop} (hPQ : ∀ w, P w → Q w) {s t : Sc} (h : Pth P s t) : Pth Q s t := by
  induction h with
  | refl s => exact .refl s
  | step hw hd _ ih => exact .step (hPQ _ hw) hd ih
theorem Pth.fit {P : Wd → Prop} {s t : Sc} {W H : Nat} (h : Pth P s t) (hf : Fit s W H) : Fit t W H := by
  induction h with
  | refl s => exact hf
  | step hw hd _ ih => exact ih (doing_fit hf hd)
section
variable {rows : Rows} {W H i j x : Nat}
theorem flatR_len : ∀ {rows : Rows} {W : Nat}, (∀ l ∈ rows, l.length = W) → rows.flatten.length = rows.length * W
  | [], W, h => by simp
  | l :: r, W, h => by
    rw [List.flatten_cons, List.length_append, flatR_len fun l hl => h l (List.mem_cons_of_mem _ hl), h l List.mem_cons_self, List.length_cons, Nat.succ_mul]
    omega
theorem flat_get : ∀ {rows : Rows} {W i j : Nat}, (∀ l ∈ rows, l.length = W) → i < rows.length → j < W → rows.flatten[i * W + j]? = some (cellN rows i j)
  | [], W, i, j, h, hi, hj => by simp at hi
  | l :: r, W, 0, j, h, hi, hj => by
    have hl := h l List.mem_cons_self
    rw [List.flatten_cons, Nat.zero_mul, Nat.zero_add, List.getElem?_append_left (by omega), List.getElem?_eq_getElem (by omega)]
    simp [cellN, List.getD_eq_getElem?_getD, List.getElem?_eq_getElem (show j < l.length by omega)]
  | l :: r, W, i + 1, j, h, hi, hj => by
    have hl := h l List.mem_cons_self
    have ih := flat_get (rows := r) (W := W) (i := i) (j := j) (fun l hl => h l (List.mem_cons_of_mem _ hl)) (by simpa using hi) hj
    rw [List.flatten_cons, Nat.succ_mul, List.getElem?_append_right (by omega), show i * W + W + j - l.length = i * W + j by omega, ih]
    simp [cellN]
theorem flat_set : ∀ {rows : Rows} {W i j : Nat}, (∀ l ∈ rows, l.length = W) → i < rows.length → j < W → (rows.set i ((rowN rows i).set j x)).flatten = rows.flatten.set (i * W + j) x
  | [], W, i, j, h, hi, hj => by simp at hi
  | l :: r, W, 0, j, h, hi, hj => by
    have hl := h l List.mem_cons_self
    rw [List.set_cons_zero, List.flatten_cons, List.flatten_cons, Nat.zero_mul, Nat.zero_add, List.set_append_left _ _ (by omega)]
    rfl
  | l :: r, W, i + 1, j, h, hi, hj => by
    have hl := h l List.mem_cons_self
    have ih := flat_set (rows := r) (W := W) (i := i) (j := j) (fun l hl => h l (List.mem_cons_of_mem _ hl)) (by simpa using hi) hj
    have e : rowN (l :: r) (i + 1) = rowN r i := by simp [rowN]
    rw [List.set_cons_succ, List.flatten_cons, List.flatten_cons, e, ih, List.set_append_right _ _ (by rw [Nat.succ_mul]; omega), Nat.succ_mul, show i * W + W + j - l.length = i * W + j by omega]
theorem flat_inj : ∀ {rows rows' : Rows} {W : Nat}, (∀ l ∈ rows, l.length = W) → (∀ l ∈ rows', l.length = W) → rows.length = rows'.length → rows.flatten = rows'.flatten → rows = rows'
  | [], [], W, h, h', hl, e => rfl
  | [], _ :: _, W, h, h', hl, e => by simp at hl
  | _ :: _, [], W, h, h', hl, e => by simp at hl
  | l :: r, l' :: r', W, h, h', hl, e => by
    rw [List.flatten_cons, List.flatten_cons] at e
    have h1 := h l List.mem_cons_self
    have h2 := h' l' List.mem_cons_self
    obtain ⟨e1, e2⟩ := List.append_inj e (by omega)
    rw [e1, flat_inj (fun l hl => h l (List.mem_cons_of_mem _ hl)) (fun l hl => h' l (List.mem_cons_of_mem _ hl)) (by simpa using hl) e2]
end
/-! What doings leave as it was; the code of a scene. -/
def stones (rows : Rows) : Nat := rows.flatten.count 111
/-- what a doing does to rows and stones -/
structure Moved (s t : Sc) : Prop where
  sum : t.h + stones t.rows = s.h + stones s.rows
  wall : ∀ k : Nat, t.rows.flatten[k]? = some 35 ↔ s.rows.flatten[k]? = some 35
theorem doing_rows {s t : Sc} {w : Wd} (hd : doing s w = some t) (h1 : w ≠ .take) (h2 : w ≠ .put) : t.rows = s.rows ∧ t.h = s.h := by
  cases w with
  | take => exact absurd rfl h1
  | put => exact absurd rfl h2
  | turn => cases hd; exact ⟨rfl, rfl⟩
  | go =>
    simp only [doing, Option.map_eq_some_iff] at hd
    obtain ⟨p, _, rfl⟩ := hd
    exact ⟨rfl, rfl⟩
theorem doing_take {s t : Sc} (hd : doing s .take = some t) : t.h = s.h + 1 := by
  simp only [doing] at hd
  split at hd
  · cases hd; rfl
  · cases hd
theorem doing_put {s t : Sc} (hd : doing s .put = some t) : t.h + 1 = s.h := by
  simp only [doing] at hd
  split at hd
  · cases hd
  · rename_i h
    cases hd
    simp only
    omega
theorem set_moved {s : Sc} {W H x : Nat} (hf : Fit s W H) (hx : x ≠ 35) : (∀ k : Nat, (setCell s.rows s.r s.c x).flatten[k]? = some 35 ↔ s.rows.flatten[k]? = some 35) ∧ stones (setCell s.rows s.r s.c x) + (if cellN s.rows s.r s.c = 111 then 1 else 0) = stones s.rows + (if x = 111 then 1 else 0) := by
  have hr : s.r < s.rows.length := by rw [hf.g.len]; exact hf.r
  have e : (setCell s.rows s.r s.c x).flatten = s.rows.flatten.set (s.r * W + s.c) x := flat_set hf.g.each hr hf.c
  have eg := flat_get hf.g.each hr hf.c
  obtain ⟨hlt, hget⟩ := List.getElem?_eq_some_iff.mp eg
  rw [stones, stones, e]
  constructor
  · intro k
    by_cases hk : s.r * W + s.c = k
    · rw [← hk, List.getElem?_set_self hlt, eg]
      simp [hx, hf.free]
    · rw [List.getElem?_set_ne hk]
  · rw [List.count_set hlt, hget]
    have hc : cellN s.rows s.r s.c = 111 → 1 ≤ s.rows.flatten.count 111 := fun h => by
      rw [Nat.succ_le_iff, List.count_pos_iff]
      rw [← h, ← hget]
      exact List.getElem_mem hlt
    by_cases h1 : cellN s.rows s.r s.c = 111
    · have := hc h1
      by_cases h2 : x = 111
      · simp [h1, h2]; omega
      · simp [h1, h2]; omega
    · by_cases h2 : x = 111
      · simp [h1, h2]
      · simp [h1, h2]
theorem doing_moved {s t : Sc} {w : Wd} {W H : Nat} (hf : Fit s W H) (hd : doing s w = some t) : Moved s t := by
  by_cases h1 : w = .take
  · subst h1
    have hh := doing_take hd
    simp only [doing] at hd
    split at hd
    · rename_i hc
      cases hd
      obtain ⟨m1, m2⟩ := set_moved (x := 46) hf (by decide)
      refine ⟨?_, m1⟩
      simp only
      rw [if_pos hc] at m2
      simp at m2
      omega
    · cases hd
  · by_cases h2 : w = .put
    · subst h2
      have hh := doing_put hd
      simp only [doing] at hd
      split at hd
      · cases hd
      · rename_i hc
        cases hd
        obtain ⟨m1, m2⟩ := set_moved (x := 111) hf (by decide)
        refine ⟨?_, m1⟩
        simp only at hh ⊢
        rw [if_neg (fun h => hc (.inl h))] at m2
        simp at m2
        omega
    · obtain ⟨e1, e2⟩ := doing_rows hd h1 h2
      exact ⟨by rw [e1, e2], fun k => by rw [e1]⟩
theorem Pth.moved {P : Wd → Prop} {s t : Sc} {W H : Nat} (h : Pth P s t) (hf : Fit s W H) : Moved s t := by
  induction h with
  | refl s => exact ⟨rfl, fun _ => Iff.rfl⟩
  | step hw hd _ ih =>
    have h1 := doing_moved hf hd
    have h2 := ih (doing_fit hf hd)
    exact ⟨h2.sum.trans h1.sum, fun k => (h2.wall k).trans (h1.wall k)⟩
theorem Pth.up {P : Wd → Prop} {s t : Sc} (hP : ¬ P .put) (h : Pth P s t) : s.h ≤ t.h ∧ (s.h = t.h → s.rows = t.rows) := by
  induction h with
  | refl s => exact ⟨Nat.le_refl _, fun _ => rfl⟩
  | @step s u v w hw hd _ ih =>
    have h2 : w ≠ .put := fun e => hP (e ▸ hw)
    by_cases h1 : w = .take
    · subst h1
      have := doing_take hd
      exact ⟨by omega, fun e => by omega⟩
    · obtain ⟨e1, e2⟩ := doing_rows hd h1 h2
      exact ⟨by omega, fun e => by rw [← e1]; exact ih.2 (by omega)⟩
theorem Pth.down {P : Wd → Prop} {s t : Sc} (hP : ¬ P .take) (h : Pth P s t) : t.h ≤ s.h ∧ (s.h = t.h → s.rows = t.rows) := by
  induction h with
  | refl s => exact ⟨Nat.le_refl _, fun _ => rfl⟩
  | @step s u v w hw hd _ ih =>
    have h2 : w ≠ .take := fun e => hP (e ▸ hw)
    by_cases h1 : w = .put
    · subst h1
      have := doing_put hd
      exact ⟨by omega, fun e => by omega⟩
    · obtain ⟨e1, e2⟩ := doing_rows hd h2 h1
      exact ⟨by omega, fun e => by rw [← e1]; exact ih.2 (by omega)⟩
/-! The code of a scene; how many stations a run comes to. -/
def codeA (t : Sc) : Nat := ((t.h * 6 + t.r) * 6 + t.c) * 4 + t.w
def bits : List Nat → Nat
  | [] => 0
  | x :: l => 2 * bits l + (if x = 111 then 1 else 0)
theorem bits_lt : ∀ l : List Nat, bits l < 2 ^ l.length
  | [] => by simp [bits]
  | x :: l => by
    have := bits_lt l
    rw [bits, List.length_cons, Nat.pow_succ]
    split <;> omega
theorem bits_inj : ∀ (l l' : List Nat), l.length = l'.length → bits l = bits l' → ∀ k : Nat, l[k]? = some 111 ↔ l'[k]? = some 111
  | [], [], _, _, k => Iff.rfl
  | [], _ :: _, h, _, _ => by simp at h
  | _ :: _, [], h, _, _ => by simp at h
  | x :: l, y :: l', h, e, k => by
    rw [bits, bits] at e
    have e1 : (x = 111 ↔ y = 111) ∧ bits l = bits l' := by
      by_cases hx : x = 111 <;> by_cases hy : y = 111 <;> simp only [hx, hy, if_true, if_false] at e ⊢
      all_goals first | (constructor <;> omega) | omega | simp_all <;> omega
    cases k with
    | zero => simp [e1.1]
    | succ k => simpa using bits_inj l l' (by simpa using h) e1.2 k
def codeB (W : Nat) (t : Sc) : Nat := (bits t.rows.flatten * 9 + (t.r * W + t.c)) * 4 + t.w
theorem fit_flat {t : Sc} {W H : Nat} (hf : Fit t W H) : t.rows.flatten.length = H * W := by rw [flatR_len hf.g.each, hf.g.len]
theorem fit_sign {t : Sc} {W H : Nat} (hf : Fit t W H) {k x : Nat} (h : t.rows.flatten[k]? = some x) : x = 35 ∨ x = 111 ∨ x = 46 := by
  obtain ⟨l, hl, hx⟩ := List.mem_flatten.mp (List.mem_of_getElem? h)
  exact hf.g.sign l hl x hx
theorem code_ex {P : Wd → Prop} {s0 : Sc} {W H : Nat} (hf : Fit s0 W H) (hh : s0.h ≤ 36) (hP : ¬ P .put ∨ ¬ P .take ∨ W * H ≤ 9) :
    ∃ code : Sc → Nat, (∀ t, Pth P s0 t → code t < 20000) ∧ (∀ t t', Pth P s0 t → Pth P t t' → code t = code t' → t = t') := by
  by_cases hA : ¬ P .put ∨ ¬ P .take
  · refine ⟨codeA, fun t ht => ?_, fun t t' ht htt e => ?_⟩
    · have hft := ht.fit hf
      have hm := (ht.moved hf).sum
      have h1 : stones s0.rows ≤ 36 := by
        refine Nat.le_trans List.count_le_length ?_
        rw [fit_flat hf]
        exact Nat.mul_le_mul hf.g.h6 hf.g.w6
      have := hft.r
      have := hft.c
      have := hft.w
      have := hft.g.h6
      have := hft.g.w6
      unfold codeA
      omega
    · have hft := ht.fit hf
      have hft' := htt.fit hft
      have := hft.r; have := hft.c; have := hft.w; have := hft.g.h6; have := hft.g.w6
      have := hft'.r; have := hft'.c; have := hft'.w
      unfold codeA at e
      have eh : t.h = t'.h := by omega
      have er : t.rows = t'.rows := by
        rcases hA with h | h
        · exact (htt.up h).2 eh
        · exact (htt.down h).2 eh
      exact (Sc.eq_iff t t').mp ⟨er, by omega, by omega, by omega, eh⟩
  · have hB : W * H ≤ 9 := by
      rcases hP with h | h | h
      · exact absurd (.inl h) hA
      · exact absurd (.inr h) hA
      · exact h
    have place : ∀ {t : Sc}, Fit t W H → t.r * W + t.c < 9 := fun {t} hft => by
      have h1 : t.r * W + t.c < (t.r + 1) * W := by rw [Nat.succ_mul]; have := hft.c; omega
      have h2 : (t.r + 1) * W ≤ H * W := Nat.mul_le_mul_right W hft.r
      rw [Nat.mul_comm] at hB
      omega
    have bl : ∀ {t : Sc}, Fit t W H → bits t.rows.flatten < 512 := fun {t} hft => by
      refine Nat.lt_of_lt_of_le (bits_lt _) ?_
      rw [fit_flat hft, Nat.mul_comm]
      exact Nat.le_trans (Nat.pow_le_pow_right (by decide) hB) (by decide)
    refine ⟨codeB W, fun t ht => ?_, fun t t' ht htt e => ?_⟩
    · have hft := ht.fit hf
      have := place hft
      have := bl hft
      have := hft.w
      unfold codeB
      omega
    · have hft := ht.fit hf
      have hft' := htt.fit hft
      have p1 := place hft; have p2 := place hft'
      have := hft.w; have := hft'.w
      unfold codeB at e
      have eb : bits t.rows.flatten = bits t'.rows.flatten := by omega
      have ep : t.r * W + t.c = t'.r * W + t'.c := by omega
      have ew : t.w = t'.w := by omega
      have hm := htt.moved hft
      have ef : t.rows.flatten = t'.rows.flatten := by
        have hl : t.rows.flatten.length = t'.rows.flatten.length := by rw [fit_flat hft, fit_flat hft']
        have hb := bits_inj _ _ hl eb
        refine List.ext_getElem? fun k => ?_
        cases h1 : t.rows.flatten[k]? with
        | none =>
          have := List.getElem?_eq_none_iff.mp h1
          rw [List.getElem?_eq_none (by omega)]
        | some x =>
          have hk : k < t'.rows.flatten.length := by rw [← hl]; exact (List.getElem?_eq_some_iff.mp h1).1
          cases h2 : t'.rows.flatten[k]? with
          | none => rw [List.getElem?_eq_none_iff] at h2; omega
          | some y =>
            have sx := fit_sign hft h1
            have sy := fit_sign hft' h2
            have w1 := hm.wall k
            have b1 := hb k
            rw [h1, h2] at w1 b1
            simp only [Option.some.injEq] at w1 b1 ⊢
            omega
      have er := flat_inj hft.g.each hft'.g.each (by rw [hft.g.len, hft'.g.len]) ef
      have es : stones t.rows = stones t'.rows := by rw [er]
      have hs := hm.sum
      have hc1 := hft.c; have hc2 := hft'.c
      have hr : t.r = t'.r := by
        have e1 : (t.r * W + t.c) / W = t.r := by
          rw [Nat.mul_comm, Nat.mul_add_div (by omega), Nat.div_eq_of_lt hc1]; rfl
        have e2 : (t'.r * W + t'.c) / W = t'.r := by
          rw [Nat.mul_comm, Nat.mul_add_div (by omega), Nat.div_eq_of_lt hc2]; rfl
        rw [← e1, ← e2, ep]
      have hc : t.c = t'.c := by rw [hr] at ep; omega
      exact (Sc.eq_iff t t').mp ⟨er, hr, hc, ew, by omega⟩
/-! How a tree's run ends; the run of lines ends so too. -/
def Ends (F : Nat → Sc → TR) (s : Sc) (o : Oc) : Prop := (o = .forever ∧ ∀ n, F n s = .out) ∨ (o ≠ .forever ∧ ∃ n r, F n s = .fin o r)
theorem Shift.one {F : Nat → Sc → TR} (hF : Shift F) {n n' r r' : Nat} {s : Sc} {o o' : Oc} (h : F n s = .fin o r) (h' : F n' s = .fin o' r') : o = o' := by
  have e1 := (hF n s o r h).2.2 n'
  have e2 := (hF n' s o' r' h').2.2 n
  rw [Nat.add_comm n' n, e1] at e2
  simp only [TR.fin.injEq] at e2
  exact e2.1
theorem Ends.one {F : Nat → Sc → TR} (hF : Shift F) {s : Sc} {o o' : Oc} (h : Ends F s o) (h' : Ends F s o') : o = o' := by
  rcases h with ⟨rfl, a⟩ | ⟨h1, n, r, a⟩
  · rcases h' with ⟨rfl, _⟩ | ⟨_, n, r, b⟩
    · rfl
    · rw [a n] at b; cases b
  · rcases h' with ⟨rfl, b⟩ | ⟨_, n', r', b⟩
    · rw [b n] at a; cases a
    · exact hF.one a b
theorem ends_nil (s : Sc) : Ends (tB .nil) s (.done s) := .inr ⟨by simp, 0, 0, by simp [tB]⟩
theorem ends_act_some {w : Wd} {s t : Sc} (h : doing s w = some t) : Ends (tS (.act w)) s (.done t) := .inr ⟨by simp, 1, 0, by simp only [tS, h]⟩
theorem ends_act_none {w : Wd} {s : Sc} (h : doing s w = none) : Ends (tS (.act w)) s (.broken w s) := .inr ⟨by simp, 1, 0, by simp only [tS, h]⟩
theorem ends_if {a : Ak} {x y : Bd} {s : Sc} {o : Oc} (h : Ends (tB (if so s a then x else y)) s o) : Ends (tS (.ifs a x y)) s o := by
  have e : ∀ n, tS (.ifs a x y) (n + 1) s = tB (if so s a then x else y) n s := fun n => by
    simp only [tS]
    split <;> rfl
  rcases h with ⟨rfl, h⟩ | ⟨h1, n, r, h⟩
  · refine .inl ⟨rfl, fun n => ?_⟩
    cases n with
    | zero => simp [tS]
    | succ n => rw [e]; exact h n
  · exact .inr ⟨h1, n + 1, r, by rw [e]; exact h⟩
theorem ends_cons {st : Stp} {b : Bd} {s t : Sc} {o : Oc} (h1 : Ends (tS st) s (.done t)) (h2 : Ends (tB b) t o) : Ends (tB (.cons st b)) s o := by
  rcases h1 with ⟨h, _⟩ | ⟨_, n1, r1, e1⟩
  · cases h
  · rcases h2 with ⟨rfl, h2⟩ | ⟨ho, n2, r2, e2⟩
    · refine .inl ⟨rfl, fun n => ?_⟩
      simp only [tB]
      cases hf : tS st n s with
      | out => rfl
      | fin o' r' =>
        have := (tS_shift st).one hf e1
        subst this
        exact h2 r'
    · refine .inr ⟨ho, n1 + n2, r2 + r1, ?_⟩
      simp only [tB]
      rw [((tS_shift st) n1 s _ r1 e1).2.2 n2]
      simp only
      rw [Nat.add_comm r1 n2, ((tB_shift b) n2 t o r2 e2).2.2 r1]
theorem ends_stop {st : Stp} {b : Bd} {s : Sc} {o : Oc} (h1 : Ends (tS st) s o) (hn : ∀ t, o ≠ .done t) : Ends (tB (.cons st b)) s o := by
  rcases h1 with ⟨rfl, h⟩ | ⟨ho, n1, r1, e1⟩
  · refine .inl ⟨rfl, fun n => ?_⟩
    simp only [tB]
    rw [h n]
  · refine .inr ⟨ho, n1, r1, ?_⟩
    simp only [tB]
    rw [e1]
    cases o with
    | done t => exact absurd rfl (hn t)
    | broken w t => rfl
    | forever => rfl
section
variable {F : Nat → Sc → TR} {a : Ak}
theorem wl_fuel (hF : Shift F) : ∀ (f f' n : Nat) (s : Sc), n ≤ f → n ≤ f' → wl F a f n s = wl F a f' n s
  | f, f', 0, s, _, _ => by cases f <;> cases f' <;> rfl
  | 0, f', n + 1, s, h, _ => by omega
  | f + 1, 0, n + 1, s, _, h => by omega
  | f + 1, f' + 1, n + 1, s, h, h' => by
    rw [wl, wl]
    split
    · cases hf : F n s with
      | out => rfl
      | fin o r =>
        have := (hF n s o r hf).1
        cases o with
        | done s' => exact wl_fuel hF f f' r s' (by omega) (by omega)
        | broken w t => rfl
        | forever => rfl
    · rfl
/-- once round -/
def Rnd (F : Nat → Sc → TR) (a : Ak) (c c' : Sc) : Prop := so c a = true ∧ Ends F c (.done c')
theorem Rnd.cases (hF : Shift F) {c c' : Sc} (h : Rnd F a c c') (n : Nat) : F n c = .out ∨ ∃ r, r ≤ n ∧ F n c = .fin (.done c') r := by
  rcases h.2 with ⟨h, _⟩ | ⟨_, n1, r1, e1⟩
  · cases h
  · cases hf : F n c with
    | out => exact .inl rfl
    | fin o r =>
      have := hF.one hf e1
      subst this
      exact .inr ⟨r, (hF n c _ r hf).1, rfl⟩
theorem wl_round (hF : Shift F) {ms : List Sc} (h : ∀ c ∈ ms, ∃ c', Rnd F a c c' ∧ c' ∈ ms) : ∀ (n f : Nat) (c : Sc), c ∈ ms → wl F a f n c = .out := by
  intro n
  induction n using Nat.strongRecOn with
  | _ n ih =>
    intro f c hc
    cases n with
    | zero => cases f <;> rfl
    | succ n =>
      cases f with
      | zero => rfl
      | succ f =>
        obtain ⟨c', hr, hm⟩ := h c hc
        rw [wl, if_pos hr.1]
        rcases hr.cases hF n with e | ⟨r, hl, e⟩
        · rw [e]
        · rw [e]
          exact ih r (by omega) f c' hm
def wlE (F : Nat → Sc → TR) (a : Ak) (n : Nat) (s : Sc) : TR := wl F a n n s
theorem ends_round (hF : Shift F) {c c' : Sc} {o : Oc} (h : Rnd F a c c') (h' : Ends (wlE F a) c' o) : Ends (wlE F a) c o := by
  rcases h' with ⟨rfl, h'⟩ | ⟨ho, n2, r2, e2⟩
  · refine .inl ⟨rfl, fun n => ?_⟩
    unfold wlE at h' ⊢
    cases n with
    | zero => rfl
    | succ n =>
      rw [wl, if_pos h.1]
      rcases h.cases hF n with e | ⟨r, hl, e⟩
      · rw [e]
      · rw [e]
        simp only
        rw [wl_fuel hF n r r c' hl (Nat.le_refl _)]
        exact h' r
  · rcases h.2 with ⟨h2, _⟩ | ⟨_, n1, r1, e1⟩
    · cases h2
    · unfold wlE at e2
      refine .inr ⟨ho, n1 + n2 + 1, r2 + r1, ?_⟩
      unfold wlE
      rw [wl, if_pos h.1, (hF n1 c _ r1 e1).2.2 n2]
      simp only
      have hl := (hF n1 c _ r1 e1).1
      rw [Nat.add_comm r1 n2]
      exact (wl_shift hF n2 n2 c' o r2 e2).2.2 r1 (n1 + n2) (by omega)
theorem ends_no {c : Sc} (h : so c a = false) : Ends (wlE F a) c (.done c) := .inr ⟨by simp, 1, 0, by unfold wlE; simp [wl, h]⟩
theorem ends_in (hF : Shift F) {c : Sc} {o : Oc} (h : so c a = true) (hn : ∀ t, o ≠ .done t) (h' : Ends F c o) : Ends (wlE F a) c o := by
  rcases h' with ⟨rfl, h'⟩ | ⟨ho, n1, r1, e1⟩
  · refine .inl ⟨rfl, fun n => ?_⟩
    unfold wlE
    cases n with
    | zero => rfl
    | succ n => rw [wl, if_pos h, h' n]
  · refine .inr ⟨ho, n1 + 1, r1, ?_⟩
    unfold wlE
    rw [wl, if_pos h, e1]
    cases o with
    | done t => exact absurd rfl (hn t)
    | broken w t => rfl
    | forever => rfl
theorem ends_met (hF : Shift F) {ms : List Sc} {c : Sc} (h : ∀ x ∈ ms, ∃ x', Rnd F a x x' ∧ (x' ∈ ms ∨ x' = c)) (hc : c ∈ ms) : Ends (wlE F a) c .forever :=
  .inl ⟨rfl, fun n => wl_round hF (ms := ms) (fun x hx => by
    obtain ⟨x', h1, h2⟩ := h x hx
    refine ⟨x', h1, ?_⟩
    rcases h2 with h2 | rfl
    · exact h2
    · exact hc) n n c hc⟩
end
theorem tS_whl (a : Ak) (x : Bd) : tS (.whl a x) = wlE (tB x) a := by
  funext n s
  simp only [tS, wlE]
/-! Words in a program; lines and where they lead. -/
mutual
def haS : Stp → Wd → Bool
  | .act v, w => decide (v = w)
  | .ifs _ x y, w => haB x w || haB y w
  | .whl _ x, w => haB x w
def haB : Bd → Wd → Bool
  | .nil, _ => false
  | .cons s b, w => haS s w || haB b w
end
mutual
theorem lm_S : ∀ (st : Stp) (n : Nat) (l : Ln), l ∈ lnS st n → (∀ w, l = .act w → haS st w = true) ∧ (∀ q t, l = .ask q t → t ≤ n + (lnS st n).length)
  | .act v, n, l, h => by
    simp only [lnS, List.mem_singleton] at h
    subst h
    exact ⟨fun w e => (by cases e; simp [haS]), fun q t e => by cases e⟩
  | .whl a x, n, l, h => by
    simp only [lnS, List.mem_append, List.mem_singleton] at h
    have hlen : (lnS (.whl a x) n).length = (lnB x (n + 1)).length + 2 := by simp [lnS]
    rw [hlen]
    rcases h with (rfl | h) | rfl
    · exact ⟨fun w e => (by cases e), fun q t e => by cases e; omega⟩
    · have := lm_B x (n + 1) l h
      exact ⟨fun w e => by simp only [haS]; exact this.1 w e, fun q t e => by have := this.2 q t e; omega⟩
    · exact ⟨fun w e => (by cases e), fun q t e => by cases e⟩
  | .ifs a x y, n, l, h => by
    simp only [lnS, List.mem_append, List.mem_singleton] at h
    have hlen : (lnS (.ifs a x y) n).length = (lnB x (n + 1)).length + (lnB y (n + (lnB x (n + 1)).length + 2)).length + 2 := by simp [lnS]; omega
    rw [hlen]
    rcases h with ((rfl | h) | rfl) | h
    · exact ⟨fun w e => (by cases e), fun q t e => by cases e; omega⟩
    · have := lm_B x (n + 1) l h
      exact ⟨fun w e => by simp only [haS, this.1 w e, Bool.true_or], fun q t e => by have := this.2 q t e; omega⟩
    · exact ⟨fun w e => (by cases e), fun q t e => by cases e⟩
    · have := lm_B y _ l h
      exact ⟨fun w e => by simp only [haS, this.1 w e, Bool.or_true], fun q t e => by have := this.2 q t e; omega⟩
theorem lm_B : ∀ (b : Bd) (n : Nat) (l : Ln), l ∈ lnB b n → (∀ w, l = .act w → haB b w = true) ∧ (∀ q t, l = .ask q t → t ≤ n + (lnB b n).length)
  | .nil, n, l, h => by simp [lnB] at h
  | .cons s b, n, l, h => by
    simp only [lnB, List.mem_append] at h
    have hlen : (lnB (.cons s b) n).length = (lnS s n).length + (lnB b (n + (lnS s n).length)).length := by simp [lnB]
    rw [hlen]
    rcases h with h | h
    · have := lm_S s n l h
      exact ⟨fun w e => by simp only [haB, this.1 w e, Bool.true_or], fun q t e => by have := this.2 q t e; omega⟩
    · have := lm_B b _ l h
      exact ⟨fun w e => by simp only [haB, this.1 w e, Bool.or_true], fun q t e => by have := this.2 q t e; omega⟩
end
section
variable {fu : Nat} {ls : List Ln} {P : Wd → Prop}
theorem mrun_path (ok : onOk ls) (hfu : ls.length + 3 ≤ fu) (hP : ∀ l ∈ ls, ∀ w, l = .act w → P w) (hq : ∀ l ∈ ls, ∀ q t, l = .ask q t → t ≤ ls.length) : ∀ (n a : Nat) (s : Sc) (b : Nat) (t : Sc), a ≤ ls.length → mrun fu ls n a s = .at_ b t → Pth P s t ∧ b ≤ ls.length
  | 0, a, s, b, t, ha, h => by
    simp only [mrun, MR.at_.injEq] at h
    obtain ⟨rfl, rfl⟩ := h
    exact ⟨.refl _, ha⟩
  | n + 1, a, s, b, t, ha, h => by
    rw [mrun] at h
    obtain ⟨c, jc, cl, cn⟩ := jmp_total ok fu a ha (by omega)
    rw [jc] at h
    simp only at h
    cases hl : ls[c]? with
    | none => rw [hl] at h; cases h
    | some l =>
      rw [hl] at h
      have hm := List.mem_of_getElem? hl
      have hlt := (List.getElem?_eq_some_iff.mp hl).1
      cases l with
      | on u => cases h
      | ask q u =>
        simp only at h
        refine mrun_path ok hfu hP hq n _ s b t ?_ h
        have := hq _ hm q u rfl
        split <;> omega
      | act w =>
        simp only at h
        cases hd : doing s w with
        | none => rw [hd] at h; cases h
        | some s' =>
          rw [hd] at h
          have := mrun_path ok hfu hP hq n (c + 1) s' b t (by omega) h
          exact ⟨.step (hP _ hm w rfl) hd this.1, this.2⟩
theorem nodup_len : ∀ (N : Nat) (l : List Nat), l.Nodup → (∀ x ∈ l, x < N) → l.length ≤ N
  | 0, l, _, h => by
    cases l with
    | nil => simp
    | cons x r => have := h x List.mem_cons_self; omega
  | N + 1, l, nd, h => by
    have h1 := nodup_len N (l.erase N) (nd.erase N) (fun x hx => by
      have hm := (nd.mem_erase_iff).mp hx
      have := h x hm.2
      have := hm.1
      omega)
    rw [List.length_erase] at h1
    split at h1 <;> omega
theorem vis_bound {s0 : Sc} {code : Sc → Nat} (ok : onOk ls) (hfu : ls.length + 3 ≤ fu) (hP : ∀ l ∈ ls, ∀ w, l = .act w → P w) (hq : ∀ l ∈ ls, ∀ q t, l = .ask q t → t ≤ ls.length)
    (h1 : ∀ t, Pth P s0 t → code t < 20000) (h2 : ∀ t t', Pth P s0 t → Pth P t t' → code t = code t' → t = t') : ∀ i x, Vis fu ls s0 i x → i ≤ (ls.length + 1) * 20000 := by
  intro i x v
  have at_ : ∀ e ∈ x.kvs, e.1.1 ≤ ls.length ∧ Pth P s0 e.1.2 := fun e he => by
    obtain ⟨j, a, hj, m1, m2⟩ := v.each e he
    obtain ⟨p1, p2⟩ := mrun_path ok hfu hP hq j 0 s0 a e.1.2 (by omega) m1
    obtain ⟨c, jc, cl, _⟩ := jmp_total ok fu a p2 (by omega)
    rw [jc] at m2
    cases m2
    exact ⟨cl, p1⟩
  have two : ∀ e ∈ x.kvs, ∀ e' ∈ x.kvs, code e.1.2 = code e'.1.2 → e.1.2 = e'.1.2 := by
    have half : ∀ e ∈ x.kvs, ∀ e' ∈ x.kvs, ∀ j a j' a', j ≤ j' → mrun fu ls j 0 s0 = .at_ a e.1.2 → mrun fu ls j' 0 s0 = .at_ a' e'.1.2 → code e.1.2 = code e'.1.2 → e.1.2 = e'.1.2 := by
      intro e he e' he' j a j' a' hjj m m' hc
      have hm := mrun_add (m := j' - j) j m
      rw [show j + (j' - j) = j' by omega, m'] at hm
      have pa := (mrun_path ok hfu hP hq j 0 s0 a e.1.2 (by omega) m).2
      exact h2 _ _ (at_ e he).2 (mrun_path ok hfu hP hq (j' - j) a e.1.2 a' e'.1.2 pa hm.symm).1 hc
    intro e he e' he' hc
    obtain ⟨j, a, _, m1, _⟩ := v.each e he
    obtain ⟨j', a', _, m1', _⟩ := v.each e' he'
    by_cases hjj : j ≤ j'
    · exact half e he e' he' j a j' a' hjj m1 m1' hc
    · exact (half e' he' e he j' a' j a (by omega) m1' m1 hc.symm).symm
  have nd : (x.kvs.map fun e => e.1.1 * 20000 + code e.1.2).Nodup := by
    have := v.nd
    unfold List.Nodup at this ⊢
    rw [List.pairwise_map] at this ⊢
    refine this.imp_of_mem fun {e e'} he he' hne hc => hne ?_
    have c1 := h1 _ (at_ e he).2
    have c2 := h1 _ (at_ e' he').2
    have e1 : e.1.1 = e'.1.1 := by omega
    have e2 := two e he e' he' (by omega)
    exact Prod.ext e1 e2
  have := nodup_len ((ls.length + 1) * 20000) _ nd (fun y hy => by
    obtain ⟨e, he, rfl⟩ := List.mem_map.mp hy
    have c1 := h1 _ (at_ e he).2
    have c2 := (at_ e he).1
    have : e.1.1 * 20000 ≤ ls.length * 20000 := Nat.mul_le_mul_right _ c2
    omega)
  rw [List.length_map, v.len] at this
  exact this
end
/-- which scenes a program may be run on -/
def Few (b : Bd) (W H : Nat) : Prop := haB b .put = false ∨ haB b .take = false ∨ W * H ≤ 9
section
variable {fu W H : Nat} {b : Bd} {s : Sc}
theorem few_code (hf : Fit s W H) (hh : s.h ≤ 36) (hw : Few b W H) : ∃ code : Sc → Nat, (∀ t, Pth (fun w => haB b w = true) s t → code t < 20000) ∧ (∀ t t', Pth (fun w => haB b w = true) s t → Pth (fun w => haB b w = true) t t' → code t = code t' → t = t') :=
  code_ex hf hh (by
    rcases hw with h | h | h
    · exact .inl (by rw [h]; simp)
    · exact .inr (.inl (by rw [h]; simp))
    · exact .inr (.inr h))
theorem run_ends (hc : cnB b ≤ 30) (hf : Fit s W H) (hh : s.h ≤ 36) (hw : Few b W H) (hfu : 2000000 ≤ fu) :
    ∃ x' o, runR fu (lnB b 0) fu (rs0 s) = some x' ∧ x'.o = some o ∧ Ends (tB b) s o ∧ (o ≠ .forever → x'.ar = none) := by
  obtain ⟨code, c1, c2⟩ := few_code hf hh hw
  have hlen := lnB_len b 0
  have ok := on_ok b
  have hl : (lnB b 0).length + 3 ≤ fu := by omega
  have hP : ∀ l ∈ lnB b 0, ∀ w, l = .act w → haB b w = true := fun l h w e => (lm_B b 0 l h).1 w e
  have hq : ∀ l ∈ lnB b 0, ∀ q t, l = .ask q t → t ≤ (lnB b 0).length := fun l h q t e => by have := (lm_B b 0 l h).2 q t e; omega
  have hM := vis_bound (s0 := s) ok hl hP hq c1 c2
  have hM2 : ((lnB b 0).length + 1) * 20000 ≤ 1220000 := by
    have : (lnB b 0).length + 1 ≤ 61 := by omega
    exact Nat.le_trans (Nat.mul_le_mul_right 20000 this) (by decide)
  have hj : ∀ i x, Vis fu (lnB b 0) s i x → ∃ c, jmp (lnB b 0) fu x.at_ = some c ∧ c ≤ (lnB b 0).length ∧ ∀ t, (lnB b 0)[c]? ≠ some (.on t) := fun i x v =>
    jmp_total ok fu x.at_ (mrun_path ok hl hP hq i 0 s x.at_ x.s (by omega) v.m).2 (by omega)
  have v0 : Vis fu (lnB b 0) s 0 (rs0 s) := ⟨rfl, rfl, by simp, by simp, rfl, rfl⟩
  obtain ⟨x', e, h⟩ := run_vis (M := 1220000) (fun i x v => Nat.le_trans (hM i x v) hM2) (by rw [lineMax_eq]; omega) hj fu 0 (rs0 s) v0 (by omega)
  have sim := fun K => sim_all (fu := fu) (K := K) b hl
  have hend : ∀ n o r, tB b n s = .fin o r → ∃ N, mrun fu (lnB b 0) N 0 s = .halt o := fun n o r h => by
    obtain ⟨_, a2, a3⟩ := sim n n s (Nat.le_refl _)
    cases o with
    | done t =>
      obtain ⟨a, e1, e2⟩ := a2 t r h
      refine ⟨n - r + 1, ?_⟩
      have hz : (lnB b 0)[(lnB b 0).length]? = none := List.getElem?_eq_none (Nat.le_refl _)
      rw [mrun_add _ e1, mrun, e2, jmp_end (by omega) hz]
      simp only [hz]
    | broken w t => exact ⟨n - r, (a3 w t r h).2⟩
    | forever => exact absurd rfl ((tB_shift b) n s _ r h).2.1
  rcases h with ⟨ho, hn⟩ | ⟨o, N, ho, har, hN⟩
  · refine ⟨x', .forever, e, ho, .inl ⟨rfl, fun n => ?_⟩, fun h => absurd rfl h⟩
    cases ht : tB b n s with
    | out => rfl
    | fin o r =>
      obtain ⟨N, hN⟩ := hend n o r ht
      exact absurd hN (hn N o)
  · refine ⟨x', o, e, ho, .inr ?_, fun _ => har⟩
    cases ht : tB b N s with
    | out =>
      obtain ⟨a, t, e1⟩ := (sim N N s (Nat.le_refl _)).1 ht
      rw [e1] at hN
      cases hN
    | fin o' r =>
      obtain ⟨N', hN'⟩ := hend N o' r ht
      have e1 := mrun_halt _ N' hN
      have e2 := mrun_halt _ N hN'
      rw [Nat.add_comm N' N, e1] at e2
      simp only [MR.halt.injEq] at e2
      subst e2
      exact ⟨((tB_shift b) N s _ r ht).2.1, N, r, ht⟩
end
/-! The law's own walk through the tree. -/
theorem Kp.le {b b' : Nat} {μ μ' : Store} (h : Kp b μ μ') (hb : b' ≤ b) : Kp b' μ μ' := ⟨h.1, fun q hq => h.2 q (by omega)⟩
theorem Kp.tr {μ μ' μ'' : Store} (h : Kp μ.length μ μ') (h' : Kp μ'.length μ' μ'') : Kp μ.length μ μ'' := h.trans (h'.le h.1)
def OcP (P : Wd → Prop) (s : Sc) (o : Oc) : Prop := (∃ t, o = .done t ∧ Pth P s t) ∨ (∃ w t, o = .broken w t ∧ Pth P s t) ∨ o = .forever
theorem OcP.trans {P : Wd → Prop} {s t : Sc} {o : Oc} (h : Pth P s t) (h' : OcP P t o) : OcP P s o := by
  rcases h' with ⟨u, rfl, h1⟩ | ⟨w, u, rfl, h1⟩ | rfl
  · exact .inl ⟨u, rfl, h.trans h1⟩
  · exact .inr (.inl ⟨w, u, rfl, h.trans h1⟩)
  · exact .inr (.inr rfl)
theorem OcP.fit {P : Wd → Prop} {s : Sc} {o : Oc} {W H : Nat} (h : OcP P s o) (hf : Fit s W H) : (∃ t, o = .done t ∧ Fit t W H) ∨ (∃ w t, o = .broken w t ∧ Fit t W H) ∨ o = .forever := by
  rcases h with ⟨u, rfl, h1⟩ | ⟨w, u, rfl, h1⟩ | rfl
  · exact .inl ⟨u, rfl, h1.fit hf⟩
  · exact .inr (.inl ⟨w, u, rfl, h1.fit hf⟩)
  · exact .inr (.inr rfl)
/-- how a call tells what comes out -/
def Tells (P : Wd → Prop) (F : Nat → Sc → TR) (s : Sc) (μ : Store) (r : Res D) : Prop := ∃ o μ', r = .ok (ocD (some o)) μ' ∧ Kp μ.length μ μ' ∧ Ends F s o ∧ OcP P s o
def kvT (ms : List Sc) : List (D × D) := ms.map fun s => (scD s, .bl true)
theorem dkey_T : ∀ (ms : List Sc) (s : Sc), dkey (kvT ms) (nkS s) = if s ∈ ms then some (.bl true) else none
  | [], s => rfl
  | t :: ms, s => by
    have ih := dkey_T ms s
    rw [kvT, List.map_cons, dkey, keyD_sc]
    by_cases h : t = s
    · subst h
      rw [if_pos rfl, if_pos List.mem_cons_self]
    · rw [if_neg (fun e => h (nkS_inj (Option.some.inj e)))]
      have : (s ∈ t :: ms) ↔ s ∈ ms := by
        rw [List.mem_cons]
        exact ⟨fun e => e.resolve_left (fun e => h e.symm), .inr⟩
      simp only [this]
      exact ih
theorem setK_T : ∀ (ms : List Sc) (s : Sc), s ∉ ms → setK (kvT ms) (nkS s) (scD s) (.bl true) = kvT (ms ++ [s])
  | [], s, _ => rfl
  | t :: ms, s, h => by
    rw [List.mem_cons, not_or] at h
    have ih := setK_T ms s h.2
    rw [kvT, List.map_cons, setK, keyD_sc, if_neg (fun e => h.1 (nkS_inj (Option.some.inj e)).symm)]
    show _ :: setK (kvT ms) _ _ _ = _
    rw [ih]
    rfl
theorem kvT_len (ms : List Sc) : (kvT ms).length = ms.length := List.length_map ..
abbrev dnC : List Nat := [100, 111, 110, 101]
theorem ne_done {μ : Store} : eqD μ (.str [100, 111, 110, 101]) (.str [100, 111, 110, 101]) = some true := by rw [eqL _ _ _ (by decide)]; rfl
theorem ne_broken {μ : Store} : eqD μ (.str [98, 114, 111, 107, 101, 110]) (.str [100, 111, 110, 101]) = some false := by rw [eqL _ _ _ (by decide)]; rfl
theorem ne_forever {μ : Store} : eqD μ (.str [102, 111, 114, 101, 118, 101, 114]) (.str [100, 111, 110, 101]) = some false := by rw [eqL _ _ _ (by decide)]; rfl
section
variable {fu : Nat} {P : Wd → Prop} {s0 : Sc} {W H : Nat} {code : Sc → Nat}
abbrev wkBody : Ss := (.cons (.asg 3 (.call .law_stepped_k04 (.cons (.var 2) (.cons (.var 1) .nil))))
  (.cons (.ifs (.cmp .NotEq (.idx (.var 3) (.con (.int 0))) (.con (.str [100, 111, 110, 101]))) (.cons (.ret (.var 3))
  .nil) .nil)
  (.cons (.asg 1 (.idx (.var 3) (.con (.int 1))))
  .nil)))
abbrev wkCond : E := (.call .law_so (.cons (.var 1) (.cons (.idx (.var 0) (.con (.int 1))) .nil)))
abbrev wkLoop : Ss := (.cons (.ifs (.cmp .In (.var 1) (.var 3)) (.cons (.ret (.tup (.cons (.con (.str [102, 111, 114, 101, 118, 101, 114])) .nil)))
  .nil) .nil)
  (.cons (.setI (.var 3) (.var 1) (.con (.bl true)))
  (.cons (.asg 4 (.call .law_walked_k04 (.cons (.idx (.var 0) (.con (.int 2))) (.cons (.var 1) .nil))))
  (.cons (.ifs (.cmp .NotEq (.idx (.var 4) (.con (.int 0))) (.con (.str [100, 111, 110, 101]))) (.cons (.ret (.var 4))
  .nil) .nil)
  (.cons (.asg 1 (.idx (.var 4) (.con (.int 1))))
  .nil)))))
theorem whl_loop {a : Ak} {x : Bd} {k q : Nat} {d0 : D} {a2 : Option D} (hf0 : Fit s0 W H) (c1 : ∀ t, Pth P s0 t → code t < 20000) (c2 : ∀ t t', Pth P s0 t → Pth P t t' → code t = code t' → t = t')
    (ih : ∀ (c : Sc) (μ : Store), Pth P s0 c → Tells P (tB x) c μ (callK Gam fu (k + 2) .law_walked_k04 [prD x, scD c] μ)) :
    ∀ (f : Nat) (c : Sc) (ms : List Sc) (μ : Store) (a4 : Option D), Pth P s0 c → (∀ m ∈ ms, Pth P s0 m ∧ Pth P m c) → (ms.map code).Nodup → (∀ m ∈ ms, ∃ m', Rnd (tB x) a m m' ∧ (m' ∈ ms ∨ m' = c)) → 20002 ≤ f + ms.length → μ[q]? = some (.dic (kvT ms)) →
      ∃ o μ', Ends (wlE (tB x) a) c o ∧ OcP P c o ∧ Kp q μ μ' ∧ (match o with
        | .done t => ∃ b4, gWhl2 (callK Gam fu (k + 2)) fu none wkCond wkLoop f [some (stD (.whl a x)), some (scD c), a2, some (.ptr q), a4] μ = .nx [some (stD (.whl a x)), some (scD t), a2, some (.ptr q), b4] μ'
        | o => gWhl2 (callK Gam fu (k + 2)) fu none wkCond wkLoop f [some (stD (.whl a x)), some (scD c), a2, some (.ptr q), a4] μ = .rt (ocD (some o)) μ')
  | f, c, ms, μ, a4, hc, hm, hnd, hr, hlen, hq => by
    have hml : ms.length ≤ 20000 := by
      have := nodup_len 20000 _ hnd (fun y hy => by
        obtain ⟨m, hmm, rfl⟩ := List.mem_map.mp hy
        exact c1 m (hm m hmm).1)
      rwa [List.length_map] at this
    obtain ⟨f, rfl⟩ : ∃ g, f = g + 1 := ⟨f - 1, by omega⟩
    have hfit := hc.fit hf0
    have es := law_so_ok (μ := μ) (fu := fu) (k := k) hfit a
    have hst : stD (.whl a x) = .tup [.str [119, 104, 105, 108, 101], .str a.c, prD x] := rfl
    cases hso : so c a with
    | false =>
      refine ⟨.done c, μ, ends_no hso, .inl ⟨c, rfl, .refl _⟩, Kp.refl .., a4, ?_⟩
      rw [hso] at es
      rw [hst]
      clear hlen hq hr hnd hm hc ih c1 c2 hfit hso hst
      walk_at "fhs"
    | true =>
      rw [hso] at es
      by_cases hin : c ∈ ms
      · refine ⟨.forever, μ, ends_met (tB_shift x) hr hin, .inr (.inr rfl), Kp.refl .., ?_⟩
        simp only
        have i1 : inD μ (scD c) (.ptr q) = some true := by
          simp only [inD, hq, keyD_sc, Option.map_some, dkey_T, if_pos hin]
          rfl
        rw [hst]
        clear hlen hq hr hnd hm hc ih c1 c2 hfit hso hst hin
        walk_at "fhs"
        rfl
      · have i1 : inD μ (scD c) (.ptr q) = some false := by
          simp only [inD, hq, keyD_sc, Option.map_some, dkey_T, if_neg hin]
          rfl
        obtain ⟨S, hS⟩ : ∃ S, S = μ.set q (.dic (kvT (ms ++ [c]))) := ⟨_, rfl⟩
        have i2 : setIx (.ptr q) (scD c) (.bl true) μ = some S := by
          simp only [setIx, hq, keyD_sc, Option.bind_some]
          rw [if_pos (by rw [kvT_len, lineMax_eq]; omega), setK_T _ _ hin, hS]
        have hql : q < μ.length := (List.getElem?_eq_some_iff.mp hq).1
        have hSq : S[q]? = some (.dic (kvT (ms ++ [c]))) := by rw [hS]; exact get_set hql
        have hSl : S.length = μ.length := by rw [hS, List.length_set]
        have kS : Kp q μ S := by rw [hS]; exact Kp.set (Nat.le_refl _)
        obtain ⟨o1, μ1, e1, k1, n1, p1⟩ := ih c S hc
        have k1' : Kp q μ μ1 := kS.trans (k1.le (by omega))
        rcases p1 with ⟨c', rfl, hp⟩ | ⟨w, t, rfl, hp⟩ | rfl
        · have hcc : Rnd (tB x) a c c' := ⟨hso, n1⟩
          have hq1 : μ1[q]? = some (.dic (kvT (ms ++ [c]))) := by rw [k1.2 q (by omega)]; exact hSq
          obtain ⟨o, μ2, n2, p2, k2, r2⟩ := whl_loop (a2 := a2) (d0 := d0) hf0 c1 c2 ih f c' (ms ++ [c]) μ1 (some (ocD (some (.done c')))) (hc.trans hp) (fun m hmm => by
              rcases List.mem_append.mp hmm with h | h
              · exact ⟨(hm m h).1, (hm m h).2.trans hp⟩
              · rw [List.mem_singleton.mp h]; exact ⟨hc, hp⟩) (by
              rw [List.map_append, List.nodup_append]
              refine ⟨hnd, by simp, ?_⟩
              intro y hy z hz
              simp only [List.map_cons, List.map_nil, List.mem_singleton] at hz
              obtain ⟨m, hmm, rfl⟩ := List.mem_map.mp hy
              intro e
              rw [hz] at e
              have := c2 m c (hm m hmm).1 (hm m hmm).2 e
              exact hin (this ▸ hmm)) (fun m hmm => by
              rcases List.mem_append.mp hmm with h | h
              · obtain ⟨m', h1, h2⟩ := hr m h
                refine ⟨m', h1, .inl ?_⟩
                rcases h2 with h2 | rfl
                · exact List.mem_append_left _ h2
                · exact List.mem_append_right _ List.mem_cons_self
              · rw [List.mem_singleton.mp h]
                exact ⟨c', hcc, .inr rfl⟩) (by rw [List.length_append, List.length_singleton]; omega) hq1
          refine ⟨o, μ2, ends_round (tB_shift x) hcc n2, OcP.trans hp p2, k1'.trans k2, ?_⟩
          have key : gWhl2 (callK Gam fu (k + 2)) fu none wkCond wkLoop (f + 1) [some (stD (.whl a x)), some (scD c), a2, some (.ptr q), a4] μ = gWhl2 (callK Gam fu (k + 2)) fu none wkCond wkLoop f [some (stD (.whl a x)), some (scD c'), a2, some (.ptr q), some (ocD (some (.done c')))] μ1 := by
            have q1 := ne_done (μ := μ1)
            rw [ocD] at e1 ⊢
            rw [hst]
            clear hlen hq hr hnd hm hc ih c1 c2 hfit hso hst hin n2 p2 k2 r2 n1 hp hcc hq1 hS hSq hSl kS k1 k1' hml
            walk_at "fhs"
          rw [key]
          exact r2
        · refine ⟨.broken w t, μ1, ends_in (tB_shift x) hso (by simp) n1, .inr (.inl ⟨w, t, rfl, hp⟩), k1', ?_⟩
          simp only
          have q1 := ne_broken (μ := μ1)
          rw [ocD] at e1 ⊢
          rw [hst]
          clear hlen hq hr hnd hm hc ih c1 c2 hfit hso hst hin n1 hp hS hSq hSl kS k1 k1' hml
          walk_at "fhs"
        · refine ⟨.forever, μ1, ends_in (tB_shift x) hso (by simp) n1, .inr (.inr rfl), k1', ?_⟩
          simp only
          have q1 := ne_forever (μ := μ1)
          rw [ocD] at e1 ⊢
          rw [hst]
          clear hlen hq hr hnd hm hc ih c1 c2 hfit hso hst hin n1 hS hSq hSl kS k1 k1' hml
          walk_at "fhs"
theorem walked_of {b : Bd} {k : Nat} {s : Sc} {μ : Store} (h : ∀ D0, ∃ o μ', Ends (tB b) s o ∧ OcP P s o ∧ Kp μ.length μ μ' ∧ (match o with
        | .done t => ∃ b2 b3, forV (gBody (callK Gam fu k) fu none 2 wkBody) (bdL b) [some D0, some (scD s), none, none] μ = .nx [some D0, some (scD t), b2, b3] μ'
        | o => forV (gBody (callK Gam fu k) fu none 2 wkBody) (bdL b) [some D0, some (scD s), none, none] μ = .rt (ocD (some o)) μ')) :
    Tells P (tB b) s μ (callK Gam fu (k + 1) .law_walked_k04 [prD b, scD s] μ) := by
  obtain ⟨o, μ', n, p, kp, r⟩ := h (prD b)
  refine ⟨o, μ', ?_, kp, n, p⟩
  rw [c_law_walked_k04]
  unfold B_law_walked_k04
  have hsr : srcD μ (prD b) = some (.vals (bdL b)) := rfl
  clear n p kp
  cases o with
  | done t =>
    obtain ⟨b2, b3, r⟩ := r
    walk_at "fh"
    repeat (first | (simp only [hsr, for_vals, r]) | walk_at "fh")
    rw [ocD]
  | broken w t =>
    simp only at r
    walk_at "fh"
    repeat (first | (simp only [hsr, for_vals, r]) | walk_at "fh")
  | forever =>
    simp only at r
    walk_at "fh"
    repeat (first | (simp only [hsr, for_vals, r]) | walk_at "fh")
theorem walk_turn {k : Nat} {st : Stp} {s : Sc} {μ μ1 : Store} {D0 : D} {a2 a3 : Option D} {o : Oc} (e : callK Gam fu k .law_stepped_k04 [stD st, scD s] μ = .ok (ocD (some o)) μ1) :
    gBody (callK Gam fu k) fu none 2 wkBody (stD st) [some D0, some (scD s), a2, a3] μ = (match o with
      | .done t => .nx [some D0, some (scD t), some (stD st), some (ocD (some (.done t)))] μ1
      | o => .rt (ocD (some o)) μ1) := by
  have q1 := ne_done (μ := μ1)
  have q2 := ne_broken (μ := μ1)
  have q3 := ne_forever (μ := μ1)
  cases o with
  | done t =>
    simp only [ocD] at e ⊢
    walk_at "fhs"
  | broken w t =>
    simp only [ocD] at e ⊢
    walk_at "fhs"
  | forever =>
    simp only [ocD] at e ⊢
    walk_at "fhs"
mutual
theorem walk_B (hf0 : Fit s0 W H) (c1 : ∀ t, Pth P s0 t → code t < 20000) (c2 : ∀ t t', Pth P s0 t → Pth P t t' → code t = code t' → t = t') (hfu : 20002 ≤ fu) :
    ∀ (b : Bd) (k : Nat) (s : Sc) (μ : Store) (D0 : D) (a2 a3 : Option D), (∀ w, haB b w = true → P w) → Pth P s0 s → 2 * lvB b + 1 ≤ k →
      ∃ o μ', Ends (tB b) s o ∧ OcP P s o ∧ Kp μ.length μ μ' ∧ (match o with
        | .done t => ∃ b2 b3, forV (gBody (callK Gam fu k) fu none 2 wkBody) (bdL b) [some D0, some (scD s), a2, a3] μ = .nx [some D0, some (scD t), b2, b3] μ'
        | o => forV (gBody (callK Gam fu k) fu none 2 wkBody) (bdL b) [some D0, some (scD s), a2, a3] μ = .rt (ocD (some o)) μ')
  | .nil, k, s, μ, D0, a2, a3, hw, hp, hk => ⟨.done s, μ, ends_nil s, .inl ⟨s, rfl, .refl _⟩, Kp.refl .., a2, a3, rfl⟩
  | .cons st b, k, s, μ, D0, a2, a3, hw, hp, hk => by
    rw [lvB] at hk
    obtain ⟨o1, μ1, e1, k1, n1, p1⟩ := walk_S hf0 c1 c2 hfu st k s μ (fun w h => hw w (by simp only [haB, h, Bool.true_or])) hp (by omega)
    have tr := walk_turn (D0 := D0) (a2 := a2) (a3 := a3) e1
    rcases p1 with ⟨t, rfl, hpt⟩ | ⟨w, t, rfl, hpt⟩ | rfl
    · obtain ⟨o, μ2, n2, p2, k2, r2⟩ := walk_B hf0 c1 c2 hfu b k t μ1 D0 (some (stD st)) (some (ocD (some (.done t)))) (fun w h => hw w (by simp only [haB, h, Bool.or_true])) (hp.trans hpt) (by omega)
      refine ⟨o, μ2, ends_cons n1 n2, OcP.trans hpt p2, k1.tr k2, ?_⟩
      have key : forV (gBody (callK Gam fu k) fu none 2 wkBody) (bdL (.cons st b)) [some D0, some (scD s), a2, a3] μ = forV (gBody (callK Gam fu k) fu none 2 wkBody) (bdL b) [some D0, some (scD t), some (stD st), some (ocD (some (.done t)))] μ1 := by
        rw [bdL, forV, tr]
        rfl
      rw [key]
      exact r2
    · refine ⟨.broken w t, μ1, ends_stop n1 (by simp), .inr (.inl ⟨w, t, rfl, hpt⟩), k1, ?_⟩
      simp only
      rw [bdL, forV, tr]
      rfl
    · refine ⟨.forever, μ1, ends_stop n1 (by simp), .inr (.inr rfl), k1, ?_⟩
      simp only
      rw [bdL, forV, tr]
      rfl
theorem walk_S (hf0 : Fit s0 W H) (c1 : ∀ t, Pth P s0 t → code t < 20000) (c2 : ∀ t t', Pth P s0 t → Pth P t t' → code t = code t' → t = t') (hfu : 20002 ≤ fu) :
    ∀ (st : Stp) (k : Nat) (s : Sc) (μ : Store), (∀ w, haS st w = true → P w) → Pth P s0 s → 2 * lvS st + 1 ≤ k → Tells P (tS st) s μ (callK Gam fu k .law_stepped_k04 [stD st, scD s] μ)
  | .act w, k, s, μ, hw, hp, hk => by
    rw [lvS] at hk
    obtain ⟨k, rfl⟩ : ∃ g, k = g + 3 := ⟨k - 3, by omega⟩
    have hfit := hp.fit hf0
    have e := law_done_ok (μ := μ) (fu := fu) (k := k) hfit w
    have q1 : eqD μ (.str w.c) (.str [105, 102]) = some false := by rw [eqL _ _ _ (by cases w <;> decide)]; cases w <;> rfl
    have q2 : eqD μ (.str w.c) (.str [119, 104, 105, 108, 101]) = some false := by rw [eqL _ _ _ (by cases w <;> decide)]; cases w <;> rfl
    have hst : stD (.act w) = .tup [.str w.c] := by rw [stD]
    cases hd : doing s w with
    | none =>
      refine ⟨.broken w s, μ, ?_, Kp.refl .., ends_act_none hd, .inr (.inl ⟨w, s, rfl, .refl _⟩)⟩
      rw [hd, optD] at e
      rw [c_law_stepped_k04]
      unfold B_law_stepped_k04
      rw [ocD, hst]
      clear hw hp hk hfit hd hst
      walk_at "fhs"
    | some t =>
      refine ⟨.done t, μ, ?_, Kp.refl .., ends_act_some hd, .inl ⟨t, rfl, .step (hw w (by simp [haS])) hd (.refl _)⟩⟩
      rw [hd, optD] at e
      have hsc : scD t = .tup [rowsD t.rows, .int t.r, .int t.c, .int t.w, .int t.h] := rfl
      rw [c_law_stepped_k04]
      unfold B_law_stepped_k04
      rw [ocD, hst]
      rw [hsc] at e ⊢
      clear hw hp hk hfit hd hst hsc
      walk_at "fhs"
  | .ifs a x y, k, s, μ, hw, hp, hk => by
    rw [lvS] at hk
    obtain ⟨k, rfl⟩ : ∃ g, k = g + 3 := ⟨k - 3, by omega⟩
    have hfit := hp.fit hf0
    have es := law_so_ok (μ := μ) (fu := fu) (k := k) hfit a
    have q1 : eqD μ (.str [105, 102]) (.str [105, 102]) = some true := by rw [eqL _ _ _ (by decide)]; rfl
    have hst : stD (.ifs a x y) = .tup [.str [105, 102], .str a.c, prD x, prD y] := rfl
    cases hso : so s a with
    | true =>
      obtain ⟨o, μ1, e1, k1, n1, p1⟩ := walked_of (fu := fu) (P := P) (b := x) (k := k + 1) (s := s) (μ := μ) fun D0 => walk_B hf0 c1 c2 hfu x (k + 1) s μ D0 none none (fun w h => hw w (by simp only [haS, h, Bool.true_or])) hp (by omega)
      refine ⟨o, μ1, ?_, k1, ends_if (by rw [hso]; exact n1), p1⟩
      rw [hso] at es
      have hx : atI [D.str [105, 102], D.str a.c, prD x, prD y] (3 - (if true = true then 1 else 0)) = some (prD x) := rfl
      rw [if_pos rfl] at hx
      rw [c_law_stepped_k04]
      unfold B_law_stepped_k04
      rw [hst]
      clear hw hp hk hfit hso hst k1 n1 p1
      walk_at "fhs"
    | false =>
      obtain ⟨o, μ1, e1, k1, n1, p1⟩ := walked_of (fu := fu) (P := P) (b := y) (k := k + 1) (s := s) (μ := μ) fun D0 => walk_B hf0 c1 c2 hfu y (k + 1) s μ D0 none none (fun w h => hw w (by simp only [haS, h, Bool.or_true])) hp (by omega)
      refine ⟨o, μ1, ?_, k1, ends_if (by rw [hso]; exact n1), p1⟩
      rw [hso] at es
      have hx : atI [D.str [105, 102], D.str a.c, prD x, prD y] (3 - 0) = some (prD y) := rfl
      rw [c_law_stepped_k04]
      unfold B_law_stepped_k04
      rw [hst]
      clear hw hp hk hfit hso hst k1 n1 p1
      walk_at "fhs"
  | .whl a x, k, s, μ, hw, hp, hk => by
    rw [lvS] at hk
    obtain ⟨k, rfl⟩ : ∃ g, k = g + 3 := ⟨k - 3, by omega⟩
    have ih : ∀ (c : Sc) (μ : Store), Pth P s0 c → Tells P (tB x) c μ (callK Gam fu (k + 2) .law_walked_k04 [prD x, scD c] μ) := fun c μ hc =>
      walked_of (fu := fu) (P := P) (b := x) (k := k + 1) (s := c) (μ := μ) fun D0 => walk_B hf0 c1 c2 hfu x (k + 1) c μ D0 none none (fun w h => hw w (by simp only [haS, h])) hc (by omega)
    obtain ⟨o, μ1, n1, p1, k1, r1⟩ := whl_loop (a := a) (a2 := none) (d0 := .non) (q := μ.length) hf0 c1 c2 ih fu s [] (μ ++ [O.dic []]) none hp (by simp) (by simp) (by simp) (by simpa using hfu) (by rw [get_app]; rfl)
    have kk : Kp μ.length μ μ1 := (Kp.app (Nat.le_refl _)).trans k1
    have q1 : eqD μ (.str [119, 104, 105, 108, 101]) (.str [105, 102]) = some false := by rw [eqL _ _ _ (by decide)]; rfl
    have q2 : eqD μ (.str [119, 104, 105, 108, 101]) (.str [119, 104, 105, 108, 101]) = some true := by rw [eqL _ _ _ (by decide)]; rfl
    refine ⟨o, μ1, ?_, kk, by rw [tS_whl]; exact n1, p1⟩
    have hst : stD (.whl a x) = .tup [.str [119, 104, 105, 108, 101], .str a.c, prD x] := rfl
    rw [c_law_stepped_k04]
    unfold B_law_stepped_k04
    clear hw hp hk n1 p1 k1 kk ih
    cases o with
    | done t =>
      obtain ⟨b4, r1⟩ := r1
      rw [ocD]
      rw [hst] at *
      clear hst
      walk_at "fhs"
    | broken w t =>
      simp only at r1
      rw [ocD] at *
      rw [hst] at *
      clear hst
      walk_at "fhs"
    | forever =>
      simp only at r1
      rw [ocD] at *
      rw [hst] at *
      clear hst
      walk_at "fhs"
end
theorem walked_ok {b : Bd} {k : Nat} {s : Sc} {μ : Store} (hl : lvB b ≤ 5) (hf : Fit s W H) (hh : s.h ≤ 36) (hw : Few b W H) (hfu : 20002 ≤ fu) :
    Tells (fun w => haB b w = true) (tB b) s μ (callK Gam fu (k + 12) .law_walked_k04 [prD b, scD s] μ) := by
  obtain ⟨code, c1, c2⟩ := few_code hf hh hw
  exact walked_of (fu := fu) fun D0 => walk_B hf c1 c2 hfu b (k + 11) s μ D0 none none (fun w h => h) (.refl _) (by omega)
end
/-! Programs as data; whether a word stands in one. -/
mutual
theorem pd_S : ∀ st : Stp, pd (stD st) = true
  | .act w => by rw [stD]; cases w <;> rfl
  | .ifs a x y => by
    have h1 := pd_B x
    have h2 := pd_B y
    have h3 : a.c.all (· < 0x110000) = true := by cases a <;> decide
    rw [stD]
    simp only [pd, pds, h1, h2, h3]
    rfl
  | .whl a x => by
    have h1 := pd_B x
    have h3 : a.c.all (· < 0x110000) = true := by cases a <;> decide
    rw [stD]
    simp only [pd, pds, h1, h3]
    rfl
theorem pd_B : ∀ b : Bd, pds (bdL b) = true
  | .nil => by rw [bdL]; rfl
  | .cons s b => by rw [bdL, pds, pd_S s, pd_B b]; rfl
end
mutual
theorem dd_S : ∀ st : Stp, dd (stD st) ≤ 2 * lvS st
  | .act w => by rw [stD]; simp [dd, dds, lvS]
  | .ifs a x y => by
    have h1 := dd_B x
    have h2 := dd_B y
    rw [stD]
    simp only [dd, dds, lvS]
    omega
  | .whl a x => by
    have h1 := dd_B x
    rw [stD]
    simp only [dd, dds, lvS]
    omega
theorem dd_B : ∀ b : Bd, dds (bdL b) ≤ 2 * lvB b
  | .nil => by simp [bdL, dds]
  | .cons s b => by
    have h1 := dd_S s
    have h2 := dd_B b
    rw [bdL, dds, lvB]
    omega
end
theorem pd_pr (b : Bd) : pd (prD b) = true := by rw [prD, pd]; exact pd_B b
theorem dd_pr (b : Bd) : dd (prD b) ≤ 2 * lvB b + 1 := by rw [prD, dd]; have := dd_B b; omega
theorem eq_ne {μ : Store} {L : List D} (h1 : pds L = true) (h2 : dds L ≤ 60) : eqD μ (.lst L) (.lst []) = some L.isEmpty := by
  rw [eqD_of (a := .lst L) (b := .lst []) (by simpa [nf, pd] using h1) rfl (by simp only [nf, dd]; omega) (by simp [nf, dd, dds])]
  cases L <;> rfl
section
variable {fu : Nat}
abbrev hasBody : Ss := (.cons (.ifs (.or (.cmp .Eq (.idx (.var 2) (.con (.int 0))) (.var 1)) (.cmp .NotEq (.comp1 3 (.seq (.slc (.var 2) (.con (.int 2)) (.con .non))) (.call .law_has (.cons (.var 3) (.cons (.var 1) .nil))) (.var 3)) (.lst .nil))) (.cons (.ret (.con (.bl true)))
  .nil) .nil)
  .nil)
theorem has_of {b : Bd} {k : Nat} {w : Wd} {μ : Store} (h : ∀ D0, ∃ a2, forV (gBody (callK Gam fu k) fu none 2 hasBody) (bdL b) [some D0, some (.str w.c), none, none] μ = (if haB b w then .rt (.bl true) μ else .nx [some D0, some (.str w.c), a2, none] μ)) :
    callK Gam fu (k + 1) .law_has [prD b, .str w.c] μ = .ok (.bl (haB b w)) μ := by
  obtain ⟨a2, r⟩ := h (prD b)
  have hsr : srcD μ (prD b) = some (.vals (bdL b)) := rfl
  rw [c_law_has]
  unfold B_law_has
  cases hh : haB b w with
  | true =>
    rw [hh, if_pos rfl] at r
    walk_at "fh"
    repeat (first | (simp only [hsr, for_vals, r]) | walk_at "fh")
  | false =>
    rw [hh, if_neg (by decide)] at r
    walk_at "fh"
    repeat (first | (simp only [hsr, for_vals, r]) | walk_at "fh")
mutual
theorem has_B : ∀ (b : Bd) (w : Wd) (k : Nat) (μ : Store) (D0 : D) (a2 : Option D), lvB b ≤ k → lvB b ≤ 10 →
    ∃ a2', forV (gBody (callK Gam fu k) fu none 2 hasBody) (bdL b) [some D0, some (.str w.c), a2, none] μ = (if haB b w then .rt (.bl true) μ else .nx [some D0, some (.str w.c), a2', none] μ)
  | .nil, w, k, μ, D0, a2, h1, h2 => ⟨a2, by simp [bdL, forV, haB]⟩
  | .cons s b, w, k, μ, D0, a2, h1, h2 => by
    rw [lvB] at h1 h2
    have e := has_S s w k μ D0 a2 (by omega) (by omega)
    obtain ⟨a2', r⟩ := has_B b w k μ D0 (some (stD s)) (by omega) (by omega)
    refine ⟨a2', ?_⟩
    rw [bdL, forV, e, haB]
    cases hs : haS s w with
    | true => rfl
    | false =>
      rw [if_neg (by decide)]
      simp only [Out.seq_nx, Bool.false_or]
      exact r
theorem has_S : ∀ (s : Stp) (w : Wd) (k : Nat) (μ : Store) (D0 : D) (a2 : Option D), lvS s ≤ k → lvS s ≤ 10 →
    gBody (callK Gam fu k) fu none 2 hasBody (stD s) [some D0, some (.str w.c), a2, none] μ = (if haS s w then .rt (.bl true) μ else .nx [some D0, some (.str w.c), some (stD s), none] μ)
  | .act v, w, k, μ, D0, a2, h1, h2 => by
    have q := eqW μ v w
    have hc : cut [D.str v.c] (some 2) none = [] := rfl
    have qe := eqE (μ := μ)
    rw [stD, haS]
    by_cases hvw : v = w
    · rw [decide_eq_true hvw] at q ⊢
      clear hvw h1 h2
      walk_at "fh"
      repeat (first | (simp only [q]) | walk_at "fh")
    · rw [decide_eq_false hvw] at q ⊢
      clear hvw h1 h2
      walk_at "fh"
      repeat (first | (simp only [q, hc, lcV, qe]) | walk_at "fh")
  | .ifs a x y, w, k, μ, D0, a2, h1, h2 => by
    rw [lvS] at h1 h2
    obtain ⟨k', rfl⟩ : ∃ k', k = k' + 1 := ⟨k - 1, by omega⟩
    have e1 := has_of (fu := fu) (b := x) (k := k') (w := w) (μ := μ) fun D0 => has_B x w k' μ D0 none (by omega) (by omega)
    have e2 := has_of (fu := fu) (b := y) (k := k') (w := w) (μ := μ) fun D0 => has_B y w k' μ D0 none (by omega) (by omega)
    have q : eqD μ (.str [105, 102]) (.str w.c) = some false := by rw [eqL _ _ _ (by cases w <;> decide)]; cases w <;> rfl
    have hst : stD (.ifs a x y) = .tup [.str [105, 102], .str a.c, prD x, prD y] := rfl
    have hc : cut [D.str [105, 102], D.str a.c, prD x, prD y] (some 2) none = [prD x, prD y] := rfl
    have px := pd_pr x
    have py := pd_pr y
    have dx := dd_pr x
    have dy := dd_pr y
    have qe := eqE (μ := μ)
    have q1 : eqD μ (.lst [prD x]) (.lst []) = some false := eq_ne (by simp [pds, px]) (by simp only [dds]; omega)
    have q2 : eqD μ (.lst [prD y]) (.lst []) = some false := eq_ne (by simp [pds, py]) (by simp only [dds]; omega)
    have q3 : eqD μ (.lst [prD x, prD y]) (.lst []) = some false := eq_ne (by simp [pds, px, py]) (by simp only [dds]; omega)
    have l1 : 0 < lineMax := by decide
    have l2 : 1 < lineMax := by decide
    rw [hst, haS]
    clear h1 h2 hst px py dx dy
    cases hx : haB x w <;> cases hy : haB y w
    all_goals
      rw [hx] at e1
      rw [hy] at e2
      clear hx hy
      walk_at "fh"
      repeat (first | (simp only [q, hc, lcV, e1, e2, l1, l2, List.nil_append, List.cons_append, qe, q1, q2, q3]) | walk_at "fh")
  | .whl a x, w, k, μ, D0, a2, h1, h2 => by
    rw [lvS] at h1 h2
    obtain ⟨k', rfl⟩ : ∃ k', k = k' + 1 := ⟨k - 1, by omega⟩
    have e1 := has_of (fu := fu) (b := x) (k := k') (w := w) (μ := μ) fun D0 => has_B x w k' μ D0 none (by omega) (by omega)
    have q : eqD μ (.str [119, 104, 105, 108, 101]) (.str w.c) = some false := by rw [eqL _ _ _ (by cases w <;> decide)]; cases w <;> rfl
    have hst : stD (.whl a x) = .tup [.str [119, 104, 105, 108, 101], .str a.c, prD x] := rfl
    have hc : cut [D.str [119, 104, 105, 108, 101], D.str a.c, prD x] (some 2) none = [prD x] := rfl
    have px := pd_pr x
    have dx := dd_pr x
    have qe := eqE (μ := μ)
    have q1 : eqD μ (.lst [prD x]) (.lst []) = some false := eq_ne (by simp [pds, px]) (by simp only [dds]; omega)
    have l1 : 0 < lineMax := by decide
    rw [hst, haS]
    clear h1 h2 hst px dx
    cases hx : haB x w
    all_goals
      rw [hx] at e1
      clear hx
      walk_at "fh"
      repeat (first | (simp only [q, hc, lcV, e1, l1, List.nil_append, List.cons_append, qe, q1]) | walk_at "fh")
end
theorem has_ok {b : Bd} {w : Wd} {k : Nat} {μ : Store} (h : lvB b ≤ 5) : callK Gam fu (k + 6) .law_has [prD b, .str w.c] μ = .ok (.bl (haB b w)) μ :=
  has_of fun D0 => has_B b w (k + 5) μ D0 none (by omega) (by omega)
/-- how many cells -/
def cells (b : Bd) : Nat := if haB b .take && haB b .put then 9 else 36
theorem cells_few {b : Bd} {W H : Nat} (h : W * H ≤ cells b) : Few b W H := by
  unfold Few
  cases h1 : haB b .put with
  | false => exact .inl rfl
  | true =>
    cases h2 : haB b .take with
    | false => exact .inr (.inl rfl)
    | true =>
      rw [cells, h1, h2] at h
      exact .inr (.inr h)
theorem cells_ok {b : Bd} {k : Nat} {μ : Store} (h : lvB b ≤ 5) : callK Gam fu (k + 7) .law_cells [prD b] μ = .ok (.int (cells b : Nat)) μ := by
  have e1 : callK Gam fu (k + 6) .law_has [prD b, .str [116, 97, 107, 101]] μ = .ok (.bl (haB b .take)) μ := has_ok (fu := fu) (b := b) (w := .take) (k := k) (μ := μ) h
  have e2 : callK Gam fu (k + 6) .law_has [prD b, .str [112, 117, 116]] μ = .ok (.bl (haB b .put)) μ := has_ok (fu := fu) (b := b) (w := .put) (k := k) (μ := μ) h
  rw [c_law_cells]
  unfold B_law_cells cells
  clear h
  cases h1 : haB b .take with
  | false =>
    rw [h1] at e1
    clear h1 e2
    walk_at "fhs"
    rfl
  | true =>
    rw [h1] at e1
    cases h2 : haB b .put with
    | false =>
      rw [h2] at e2
      clear h1 h2
      walk_at "fhs"
      rfl
    | true =>
      rw [h2] at e2
      clear h1 h2
      walk_at "fhs"
      rfl
end
/-! Drawn programs. -/
def ofL : List Stp → Bd
  | [] => .nil
  | s :: l => .cons s (ofL l)
theorem bdL_ofL : ∀ l, bdL (ofL l) = l.map stD
  | [] => by rw [ofL, bdL]; rfl
  | s :: l => by rw [ofL, bdL, bdL_ofL l]; rfl
theorem cn_ofL : ∀ l s, cnB (ofL (l ++ [s])) = cnB (ofL l) + cnS s
  | [], s => by simp [ofL, cnB]
  | t :: l, s => by rw [List.cons_append, ofL, cnB, cn_ofL l s, ofL, cnB]; omega
theorem lv_ofL : ∀ l s, lvB (ofL (l ++ [s])) = max (lvB (ofL l)) (lvS s)
  | [], s => by simp [ofL, lvB]
  | t :: l, s => by rw [List.cons_append, ofL, lvB, lv_ofL l s, ofL, lvB]; omega
/-- all but two things are as they were -/
def Kq (p q : Nat) (μ μ' : Store) : Prop := μ.length ≤ μ'.length ∧ ∀ r, r < μ.length → r ≠ p → r ≠ q → μ'[r]? = μ[r]?
theorem Kq.refl (p q : Nat) (μ : Store) : Kq p q μ μ := ⟨Nat.le_refl _, fun _ _ _ _ => rfl⟩
theorem Kq.trans {p q : Nat} {μ μ' μ'' : Store} (h : Kq p q μ μ') (h' : Kq p q μ' μ'') : Kq p q μ μ'' := ⟨Nat.le_trans h.1 h'.1, fun r a b c => (h'.2 r (Nat.lt_of_lt_of_le a h.1) b c).trans (h.2 r a b c)⟩
theorem Kr.kq {p q : Nat} {μ μ' : Store} (h : Kr p μ μ') : Kq p q μ μ' := ⟨h.1, fun r a b _ => h.2 r a b⟩
theorem Kq.app {p q : Nat} {μ ν : Store} : Kq p q μ (μ ++ ν) := ⟨by simp, fun r a _ _ => List.getElem?_append_left a⟩
theorem Kq.set {p q r : Nat} {μ μ' : Store} {o : O} (h : Kq p q μ μ') (hr : μ.length ≤ r ∨ r = p ∨ r = q) : Kq p q μ (μ'.set r o) := ⟨by rw [List.length_set]; exact h.1, fun x a b c => by rw [get_set_ne (by omega)]; exact h.2 x a b c⟩
def LeftAt (q n : Nat) (μ : Store) : Prop := μ[q]? = some (.lst [.int (n : Nat)])
section
variable {fu p q : Nat} {ns : List Int}
/-- a drawn body, a drawn step: no more steps than were left, no deeper than told -/
def DrB (fu p q : Nat) (ns : List Int) (k n : Nat) : Prop := ∀ (L : Nat) (μ : Store), RowAt ns p μ → LeftAt q L μ →
  ∃ (b : Bd) (L' : Nat) (μ' : Store), callK Gam fu k .law_body [.ptr p, .ptr q, .int (n : Nat)] μ = .ok (prD b) μ' ∧ RowAt ns p μ' ∧ LeftAt q L' μ' ∧ cnB b + L' ≤ L ∧ lvB b ≤ n + 1 ∧ Kq p q μ μ'
def DrS (fu p q : Nat) (ns : List Int) (k n : Nat) : Prop := ∀ (L : Nat) (μ : Store), RowAt ns p μ → LeftAt q L μ →
  ∃ (s : Stp) (L' : Nat) (μ' : Store), callK Gam fu k .law_step [.ptr p, .ptr q, .int (n : Nat)] μ = .ok (stD s) μ' ∧ RowAt ns p μ' ∧ LeftAt q L' μ' ∧ cnS s + L' ≤ L + 1 ∧ lvS s ≤ n + 1 ∧ Kq p q μ μ'
abbrev genBody : Ss := (.cons (.ifs (.cmp .Gt (.idx (.var 1) (.con (.int 0))) (.con (.int 0))) (.cons (.setI (.var 1) (.con (.int 0)) (.bin .Sub (.idx (.var 1) (.con (.int 0))) (.con (.int 1))))
  (.cons (.ex (.mth .append (.var 3) (.cons (.call .law_step (.cons (.var 0) (.cons (.var 1) (.cons (.var 2) .nil)))) .nil)))
  .nil)) .nil)
  .nil)
theorem body_of_step {k n : Nat} (hpq : p ≠ q) (hs : DrS fu p q ns (k + 1) n) : DrB fu p q ns (k + 2) n := by
  intro L μ hr hL
  obtain ⟨v, μ1, e1, u1, r1, k1⟩ := draw (fu := fu) (k := k) (m := 5) (M := 5) rfl hr (by decide) (by decide)
  obtain ⟨q3, hq3⟩ : ∃ q3, q3 = μ.length := ⟨_, rfl⟩
  have hql : q < μ.length := (List.getElem?_eq_some_iff.mp hL).1
  have hpl : p < μ.length := RowAt.lt hr
  obtain ⟨v, μ1, e1, u1, r1, k1⟩ := draw (fu := fu) (k := k) (m := 5) (M := 5) (μ := μ ++ [O.lst []]) rfl (RowAt.app hr) (by decide) (by decide)
  have g1 : μ1[q3]? = some (.lst []) := by rw [hq3, k1.2 _ (by simp) (by omega)]; exact get_app
  have L1 : LeftAt q L μ1 := by
    unfold LeftAt
    rw [k1.2 q (by simp; omega) (by omega), get_app_lt hql]
    exact hL
  have kk1 : Kq p q μ μ1 := Kq.app.trans k1.kq
  obtain ⟨σ', μ', f1, a4, sts, L', j1, j2, j3, j4, j5, j6, j7, j8⟩ := for_vals_inv (xs := rangeFrom 0 1 v) (σ := [some (.ptr p), some (.ptr q), some (.int (n : Nat)), some (.ptr q3), none]) (μ := μ1)
    (f := gBody (callK Gam fu (k + 1)) fu none 4 genBody)
    (fun i σ' μ' => ∃ a4, ∃ sts : List Stp, ∃ L' : Nat, σ' = [some (.ptr p), some (.ptr q), some (.int (n : Nat)), some (.ptr q3), a4] ∧ sts.length ≤ i ∧ μ'[q3]? = some (.lst (sts.map stD)) ∧ RowAt ns p μ' ∧ LeftAt q L' μ' ∧ cnB (ofL sts) + L' ≤ L ∧ lvB (ofL sts) ≤ n + 1 ∧ Kq p q μ μ')
    (fun i σ' μ' hi ⟨a4, sts, L', h1, h2, h3, h4, h5, h6, h7, h8⟩ => by
      subst h1
      rw [range_len] at hi
      unfold LeftAt at h5
      have hq3l : q3 < μ'.length := (List.getElem?_eq_some_iff.mp h3).1
      have hql' : q < μ'.length := (List.getElem?_eq_some_iff.mp h5).1
      have hpl' : p < μ'.length := RowAt.lt h4
      cases L' with
      | zero =>
        refine ⟨_, μ', ?_, some (rangeFrom 0 1 v)[i], sts, 0, rfl, by omega, h3, h4, h5, h6, h7, h8⟩
        have c : ¬ (0 : Int) < ((0 : Nat) : Int) := by decide
        clear hs h8 h7 h6 h4 hq3l hql' hpl' k1 r1 hr
        walk_at "fh"
        repeat (first | (simp only [h5, c]) | walk_at "fh")
      | succ L' =>
        obtain ⟨S, hS⟩ : ∃ S, S = μ'.set q (.lst [.int (L' : Nat)]) := ⟨_, rfl⟩
        have LS : LeftAt q L' S := by rw [hS]; exact get_set hql'
        have rS : RowAt ns p S := by rw [hS]; exact RowAt.set h4 hpq.symm
        obtain ⟨s, L2, μ2, e2, r2, l2, c2, v2, kq2⟩ := hs L' S rS LS
        have gS : S[q3]? = some (.lst (sts.map stD)) := by rw [hS, get_set_ne (by omega)]; exact h3
        have hq3S : q3 < S.length := by rw [hS, List.length_set]; exact hq3l
        have g2 : μ2[q3]? = some (.lst (sts.map stD)) := by rw [kq2.2 q3 hq3S (by omega) (by omega)]; exact gS
        have hq32 : q3 < μ2.length := (List.getElem?_eq_some_iff.mp g2).1
        have kqS : Kq p q μ S := by rw [hS]; exact h8.set (.inr (.inr rfl))
        refine ⟨_, μ2.set q3 (.lst (sts.map stD ++ [stD s])), ?_, some (rangeFrom 0 1 v)[i], sts ++ [s], L2, rfl, by rw [List.length_append, List.length_singleton]; omega, ?_, RowAt.set r2 (by omega), ?_, by rw [cn_ofL]; omega, by rw [lv_ofL]; omega, (kqS.trans kq2).set (.inl (by omega))⟩
        · have c : (0 : Int) < ((L' + 1 : Nat) : Int) := by omega
          have cs : ((L' + 1 : Nat) : Int) - 1 = (L' : Nat) := by omega
          have hc : (sts.map stD).length < lineMax := by rw [List.length_map, lineMax_eq]; omega
          have hS' := hS.symm
          clear hs h8 h7 h6 h4 hq3l hql' hpl' k1 r1 hr LS rS r2 l2 c2 v2 kq2 kqS hq3S hq32 hS
          walk_at "fh"
          repeat (first | (simp only [h5, c, cs, hS', gS, e2, g2, hc]) | walk_at "fh")
        · rw [get_set hq32]; simp
        · unfold LeftAt at l2 ⊢
          rw [get_set_ne (by omega)]; exact l2)
    ⟨none, [], L, rfl, by simp, g1, r1, L1, by simp [ofL, cnB], by simp [ofL, lvB], kk1⟩
  subst j1
  refine ⟨ofL sts, L', μ', ?_, j4, j5, j6, j7, j8⟩
  have bv := big_nat (n := v) (by omega)
  have hpr : prD (ofL sts) = .tup (sts.map stD) := by rw [prD, bdL_ofL]
  rw [c_law_body]
  unfold B_law_body
  rw [hpr]
  have hlen : μ.length = q3 := hq3.symm
  clear hs j4 j5 j6 j7 j8 kk1 L1 k1 r1 hr u1 hpl hql hq3 hpr
  walk_at "fh"
  repeat (first | (simp only [hlen, e1, bv, f1, j3]) | walk_at "fh")
theorem gen_word (ν : Store) : ∀ {v : Nat}, v < 6 → ∃ w : Wd, idxD ν (.lst [.str [103, 111], .str [103, 111], .str [103, 111], .str [116, 117, 114, 110], .str [116, 97, 107, 101], .str [112, 117, 116]]) (.int v) = some (.str w.c)
  | 0, _ => ⟨.go, rfl⟩
  | 1, _ => ⟨.go, rfl⟩
  | 2, _ => ⟨.go, rfl⟩
  | 3, _ => ⟨.turn, rfl⟩
  | 4, _ => ⟨.take, rfl⟩
  | 5, _ => ⟨.put, rfl⟩
  | v + 6, h => by omega
theorem gen_ask (ν : Store) : ∀ {v : Nat}, v < 3 → ∃ a : Ak, idxD ν (.lst [.str [111, 112, 101, 110], .str [115, 116, 111, 110, 101], .str [104, 101, 108, 100]]) (.int v) = some (.str a.c)
  | 0, _ => ⟨.opn, rfl⟩
  | 1, _ => ⟨.stone, rfl⟩
  | 2, _ => ⟨.held, rfl⟩
  | v + 3, h => by omega
theorem step_zero {k : Nat} : DrS fu p q ns (k + 2) 0 := by
  intro L μ hr hL
  obtain ⟨v, μ1, e1, u1, r1, k1⟩ := draw (fu := fu) (k := k) (m := 6) (M := 6) rfl hr (by decide) (by decide)
  obtain ⟨w, ew⟩ := gen_word μ1 u1
  rw [idx_lst] at ew
  have hql : q < μ.length := (List.getElem?_eq_some_iff.mp hL).1
  by_cases hpq : q = p
  · subst hpq
    obtain ⟨a, b, c, _, hp⟩ := hr
    unfold LeftAt at hL
    rw [hp] at hL
    cases hL
  refine ⟨.act w, L, μ1, ?_, r1, ?_, by rw [cnS]; omega, by rw [lvS]; omega, k1.kq⟩
  · have hst : stD (.act w) = .tup [.str w.c] := by rw [stD]
    have c0 : ¬ (0 : Int) < ((0 : Nat) : Int) := by decide
    have c1 : (v : Int) < 6 := by omega
    rw [c_law_step]
    unfold B_law_step
    rw [hst]
    clear r1 k1 u1 hr hst hL
    walk_at "fh"
    repeat (first | (simp only [c0, e1, c1, ew]) | walk_at "fh")
  · unfold LeftAt
    rw [k1.2 q hql hpq]
    exact hL
theorem step_of_body {k n : Nat} (hpq : p ≠ q) (hb : DrB fu p q ns (k + 1) n) : DrS fu p q ns (k + 2) (n + 1) := by
  intro L μ hr hL
  have hql : q < μ.length := (List.getElem?_eq_some_iff.mp hL).1
  obtain ⟨v, μ1, e1, u1, r1, k1⟩ := draw (fu := fu) (k := k) (m := 12) (M := 12) rfl hr (by decide) (by decide)
  have L1 : LeftAt q L μ1 := by
    unfold LeftAt
    rw [k1.2 q hql hpq.symm]
    exact hL
  have hql1 : q < μ1.length := (List.getElem?_eq_some_iff.mp L1).1
  have c0 : (0 : Int) < ((n + 1 : Nat) : Int) := by omega
  have cs : ((n + 1 : Nat) : Int) - 1 = (n : Nat) := by omega
  by_cases h6 : v < 6
  · obtain ⟨w, ew⟩ := gen_word μ1 h6
    rw [idx_lst] at ew
    refine ⟨.act w, L, μ1, ?_, r1, L1, by rw [cnS]; omega, by rw [lvS]; omega, k1.kq⟩
    have hst : stD (.act w) = .tup [.str w.c] := by rw [stD]
    have c1 : (v : Int) < 6 := by omega
    rw [c_law_step]
    unfold B_law_step
    rw [hst]
    clear r1 k1 u1 hr hst hL L1 hb h6
    walk_at "fh"
    repeat (first | (simp only [c0, e1, c1, ew]) | walk_at "fh")
  · have c1 : ¬ (v : Int) < 6 := by omega
    obtain ⟨v2, μ2, e2, u2, r2, k2⟩ := draw (fu := fu) (k := k) (m := 3) (M := 3) rfl r1 (by decide) (by decide)
    obtain ⟨a, ea⟩ := gen_ask μ2 u2
    rw [idx_lst] at ea
    have L2 : LeftAt q L μ2 := by
      unfold LeftAt
      rw [k2.2 q hql1 hpq.symm]
      exact L1
    obtain ⟨x, L3, μ3, e3, r3, l3, c3, v3, k3⟩ := hb L μ2 r2 L2
    by_cases h9 : v < 9
    · refine ⟨.whl a x, L3, μ3, ?_, r3, l3, by rw [cnS]; omega, by rw [lvS]; omega, (k1.kq.trans k2.kq).trans k3⟩
      have hst : stD (.whl a x) = .tup [.str [119, 104, 105, 108, 101], .str a.c, prD x] := rfl
      have c2 : (v : Int) < 9 := by omega
      rw [c_law_step]
      unfold B_law_step
      rw [hst]
      clear r1 k1 u1 hr hst hL L1 hb h6 h9 r2 k2 L2 r3 l3 c3 v3 k3
      walk_at "fh"
      repeat (first | (simp only [c0, cs, e1, c1, e2, ea, c2, e3]) | walk_at "fh")
    · obtain ⟨y, L4, μ4, e4, r4, l4, c4, v4, k4⟩ := hb L3 μ3 r3 l3
      refine ⟨.ifs a x y, L4, μ4, ?_, r4, l4, by rw [cnS]; omega, by rw [lvS]; omega, ((k1.kq.trans k2.kq).trans k3).trans k4⟩
      have hst : stD (.ifs a x y) = .tup [.str [105, 102], .str a.c, prD x, prD y] := rfl
      have c2 : ¬ (v : Int) < 9 := by omega
      rw [c_law_step]
      unfold B_law_step
      rw [hst]
      clear r1 k1 u1 hr hst hL L1 hb h6 h9 r2 k2 L2 r3 l3 c3 v3 k3 r4 l4 c4 v4 k4
      walk_at "fh"
      repeat (first | (simp only [c0, cs, e1, c1, e2, ea, c2, e3, e4]) | walk_at "fh")
theorem draw_body (hpq : p ≠ q) : ∀ (n k : Nat), DrB fu p q ns (k + 2 * n + 3) n
  | 0, k => body_of_step (k := k + 1) hpq step_zero
  | n + 1, k => body_of_step (k := k + 2 * n + 3) hpq (step_of_body (k := k + 2 * n + 2) hpq (draw_body hpq n k))
end
section
variable {μ : Store} {fu k p : Nat} {ns : List Int}
abbrev someD : List D := [stD (.whl .stone (.cons (.act .take) .nil)), stD (.whl .opn (.cons (.act .go) .nil)), stD (.ifs .opn (.cons (.act .go) .nil) (.cons (.act .turn) .nil)), stD (.ifs .stone (.cons (.act .take) .nil) .nil), stD (.ifs .held (.cons (.act .put) .nil) .nil), stD (.whl .held (.cons (.act .go) .nil))]
theorem some_at : ∀ {v : Nat}, v < 6 → ∃ s : Stp, atI someD (v : Nat) = some (stD s) ∧ cnS s ≤ 3 ∧ lvS s ≤ 2
  | 0, _ => ⟨_, rfl, by decide, by decide⟩
  | 1, _ => ⟨_, rfl, by decide, by decide⟩
  | 2, _ => ⟨_, rfl, by decide, by decide⟩
  | 3, _ => ⟨_, rfl, by decide, by decide⟩
  | 4, _ => ⟨_, rfl, by decide, by decide⟩
  | 5, _ => ⟨_, rfl, by decide, by decide⟩
  | v + 6, h => by omega
abbrev someLoop : Ss := (.cons (.ex (.mth .append (.var 4) (.cons (.idx (.var 2) (.call .law_taken (.cons (.var 0) (.cons (.con (.int 6)) .nil)))) .nil)))
  .nil)
theorem some_loop {n q3 q4 : Nat} {m : D} (hr : RowAt ns p μ) (h4 : μ[q4]? = some (.lst [])) (hp4 : p ≠ q4) (hn : n ≤ 4) :
    ∃ (sts : List Stp) (a5 : Option D) (μ' : Store), gFor (gBody (callK Gam fu (k + 1)) fu none 5 someLoop) [some (.ptr p), some m, some (.lst someD), some (.ptr q3), some (.ptr q4), none, none] (.vals (rangeFrom 0 1 n)) μ = .nx [some (.ptr p), some m, some (.lst someD), some (.ptr q3), some (.ptr q4), a5, none] μ'
      ∧ sts.length = n ∧ cnB (ofL sts) ≤ 3 * n ∧ lvB (ofL sts) ≤ 2 ∧ μ'[q4]? = some (.lst (sts.map stD)) ∧ RowAt ns p μ' ∧ Kq p q4 μ μ' := by
  obtain ⟨σ', μ', f1, a5, sts, j1, j2, j3, j4, j5, j6, j7⟩ := for_vals_inv (xs := rangeFrom 0 1 n) (σ := [some (.ptr p), some m, some (.lst someD), some (.ptr q3), some (.ptr q4), none, none]) (μ := μ)
    (f := gBody (callK Gam fu (k + 1)) fu none 5 someLoop)
    (fun i σ' μ' => ∃ a5, ∃ sts : List Stp, σ' = [some (.ptr p), some m, some (.lst someD), some (.ptr q3), some (.ptr q4), a5, none] ∧ sts.length = i ∧ cnB (ofL sts) ≤ 3 * i ∧ lvB (ofL sts) ≤ 2 ∧ μ'[q4]? = some (.lst (sts.map stD)) ∧ RowAt ns p μ' ∧ Kq p q4 μ μ')
    (fun i σ' μ' hi ⟨a5, sts, h1, h2, h3, h4, h5, h6, h7⟩ => by
      subst h1
      rw [range_len] at hi
      obtain ⟨v, μ2, e2, u2, r2, k2⟩ := draw (fu := fu) (k := k) (m := 6) (M := 6) rfl h6 (by decide) (by decide)
      obtain ⟨s, es, cs, ls⟩ := some_at u2
      have hql : q4 < μ'.length := (List.getElem?_eq_some_iff.mp h5).1
      have g2 : μ2[q4]? = some (.lst (sts.map stD)) := by rw [k2.2 q4 hql hp4.symm]; exact h5
      have hql2 : q4 < μ2.length := (List.getElem?_eq_some_iff.mp g2).1
      refine ⟨_, μ2.set q4 (.lst (sts.map stD ++ [stD s])), ?_, some (rangeFrom 0 1 n)[i], sts ++ [s], rfl, by rw [List.length_append, List.length_singleton, h2], by rw [cn_ofL]; omega, by rw [lv_ofL]; omega, by rw [get_set hql2]; simp, RowAt.set r2 hp4.symm, (h7.trans k2.kq).set (.inr (.inr rfl))⟩
      have hc : (sts.map stD).length < lineMax := by rw [List.length_map, lineMax_eq]; omega
      clear r2 k2 u2 h6 h7 cs ls h3 h4
      generalize someD = SD at *
      walk_at "fh"
      repeat (first | (simp only [h5, e2, es, g2, hc]) | walk_at "fh"))
    ⟨none, [], rfl, rfl, by simp [ofL, cnB], by simp [ofL, lvB], h4, hr, Kq.refl ..⟩
  subst j1
  rw [range_len] at j2 j3
  exact ⟨sts, a5, μ', f1, j2, j3, j4, j5, j6, j7⟩
theorem law_program_ok {m : Nat} (hm : m ≤ 30) (hr : RowAt ns p μ) :
    ∃ (b : Bd) (μ' : Store), callK Gam fu (k + 12) .law_program_k04 [.ptr p, .int (m : Nat)] μ = .ok (prD b) μ' ∧ RowAt ns p μ' ∧ Kr p μ μ' ∧ lvB b ≤ 5 ∧ cnB b ≤ max m 13 ∧ (m ≤ 8 → cnB b ≤ m) := by
  obtain ⟨q3, hq3⟩ : ∃ q3, q3 = μ.length := ⟨_, rfl⟩
  have hpl : p < μ.length := RowAt.lt hr
  have rest : ∀ μ1, RowAt ns p μ1 → LeftAt q3 m μ1 → Kr p μ μ1 → ∃ (b : Bd) (μ' : Store), RowAt ns p μ' ∧ Kr p μ μ' ∧ lvB b ≤ 5 ∧ cnB b ≤ m ∧ ∀ (a2 a4 a5 a6 : Option D), exs (callK Gam fu (k + 11)) fu (.cons (.ret (.call .law_body (.cons (.var 0) (.cons (.var 3) (.cons (.idx (.lst (.cons (.con (.int 1)) (.cons (.con (.int 2)) (.cons (.con (.int 4)) .nil)))) (.call .law_taken (.cons (.var 0) (.cons (.con (.int 3)) .nil)))) .nil)))))
  .nil) none [some (.ptr p), some (.int (m : Nat)), a2, some (.ptr q3), a4, a5, a6] μ1 = .rt (prD b) μ' := by
    intro μ1 r1 l1 k1
    obtain ⟨v, μ2, e2, u2, r2, k2⟩ := draw (fu := fu) (k := k + 10) (m := 3) (M := 3) rfl r1 (by decide) (by decide)
    have hl1 : q3 < μ1.length := (List.getElem?_eq_some_iff.mp l1).1
    have l2 : LeftAt q3 m μ2 := by
      unfold LeftAt
      rw [k2.2 q3 hl1 (by omega)]
      exact l1
    obtain ⟨n, hn, en⟩ : ∃ n : Nat, n ≤ 4 ∧ atI [D.int 1, D.int 2, D.int 4] (v : Int) = some (.int (n : Nat)) := by
      match v, u2 with
      | 0, _ => exact ⟨1, by omega, rfl⟩
      | 1, _ => exact ⟨2, by omega, rfl⟩
      | 2, _ => exact ⟨4, by omega, rfl⟩
      | v + 3, h => exact absurd h (by omega)
    obtain ⟨b, L', μ3, e3, r3, l3, c3, v3, k3⟩ := draw_body (fu := fu) (p := p) (q := q3) (ns := ns) (by omega) n (k + 8 - 2 * n) m μ2 r2 l2
    rw [show k + 8 - 2 * n + 2 * n + 3 = k + 11 by omega] at e3
    have kk : Kr p μ μ3 := ⟨Nat.le_trans (k1.trans k2).1 k3.1, fun r a b => by
      have hl := (k1.trans k2).1
      rw [k3.2 r (by omega) b (by omega)]
      exact (k1.trans k2).2 r a b⟩
    refine ⟨b, μ3, r3, kk, by omega, by omega, fun a2 a4 a5 a6 => ?_⟩
    clear r3 l3 c3 v3 k3 kk r2 l2 k2 r1 l1 k1 hn u2 hr hq3 hpl hm hl1
    walk_at "fhs"
  have hsome : D.lst someD = .lst ([stD (.whl .stone (.cons (.act .take) .nil)), stD (.whl .opn (.cons (.act .go) .nil)), stD (.ifs .opn (.cons (.act .go) .nil) (.cons (.act .turn) .nil))] ++ [stD (.ifs .stone (.cons (.act .take) .nil) .nil), stD (.ifs .held (.cons (.act .put) .nil) .nil), stD (.whl .held (.cons (.act .go) .nil))]) := rfl
  have l0 : LeftAt q3 m (μ ++ [O.lst [.int (m : Nat)]]) := by unfold LeftAt; rw [hq3]; exact get_app
  have r0 : RowAt ns p (μ ++ [O.lst [.int (m : Nat)]]) := RowAt.app hr
  have hle : 3 + 3 ≤ lineMax := by decide
  have hlen : μ.length = q3 := hq3.symm
  have exs_some : ∀ (rest : Ss), exs (callK Gam fu (k + 11)) fu B_law_program_k04 none [some (.ptr p), some (.int (m : Nat)), none, none, none, none, none] μ = exs (callK Gam fu (k + 11)) fu (match B_law_program_k04 with | .cons _ (.cons _ (.cons _ r)) => r | _ => .nil) none [some (.ptr p), some (.int (m : Nat)), some (.lst someD), some (.ptr q3), none, none, none] (μ ++ [O.lst [.int (m : Nat)]]) := by
    intro _
    rw [hsome]
    unfold B_law_program_k04
    simp only
    simp only [s_cons, s_asg, v_lst, v_tup, v_cons, v_nil, v_con, fCons1, fCons2, fTup, fLst, Res.bind_ok, Res.out_ok, gAsg, List.set_cons_zero, List.set_cons_succ, Out.seq_nx, gSeq, v_bin, v_var, fBin1, fBin2, List.getElem?_cons_zero, List.getElem?_cons_succ, Option.bind_some, id_eq, Res.of_some, add_lst, List.length_cons, List.length_nil, Nat.reduceAdd, if_pos hle, v_ref, fRef, hlen]
    rfl
  rw [c_law_program_k04, exs_some .nil]
  unfold B_law_program_k04
  simp only
  by_cases h8 : m ≤ 8
  · have c8 : ¬ (8 : Int) < (m : Int) := by omega
    obtain ⟨b, μ', r1, k1, v1, c1, e1⟩ := rest _ r0 l0 Kr.app
    refine ⟨b, μ', ?_, r1, k1, v1, by omega, fun _ => c1⟩
    generalize someD = SD at *
    clear rest r1 k1 v1 c1 r0 l0 hr hsome h8 hq3 hpl hm exs_some
    walk_at "fhs"
  · have c8 : (8 : Int) < (m : Int) := by omega
    obtain ⟨v, μ1, e1, u1, r1, k1⟩ := draw (fu := fu) (k := k + 10) (m := 2) (M := 2) rfl r0 (by decide) (by decide)
    have l1 : LeftAt q3 m μ1 := by
      unfold LeftAt
      rw [k1.2 q3 (by rw [hq3]; simp) (by omega)]
      exact l0
    have kk1 : Kr p μ μ1 := Kr.app.trans k1
    have q1 := eqD_int μ1 (v : Int) 1
    by_cases hv : v = 1
    · have hv' : ((v : Int) == 1) = true := by simp [hv]
      rw [hv'] at q1
      obtain ⟨q4, hq4⟩ : ∃ q4, q4 = μ1.length := ⟨_, rfl⟩
      have hp1 : p < μ1.length := RowAt.lt r1
      have hq31 : q3 < μ1.length := (List.getElem?_eq_some_iff.mp l1).1
      obtain ⟨n, μ2, e2, u2, r2, k2⟩ := draw (fu := fu) (k := k + 10) (m := 4) (M := 4) (μ := μ1 ++ [O.lst []]) rfl (RowAt.app r1) (by decide) (by decide)
      have g2 : μ2[q4]? = some (.lst []) := by rw [hq4, k2.2 _ (by simp) (by omega)]; exact get_app
      obtain ⟨sts, a5, μ3, f3, s1, s2, s3, g3, r3, k3⟩ := some_loop (fu := fu) (k := k + 10) (n := 1 + n) (q3 := q3) (q4 := q4) (m := .int (m : Nat)) r2 g2 (by omega) (by omega)
      obtain ⟨va, μ4, e4, u4, r4, k4⟩ := draw (fu := fu) (k := k + 10) (m := 2) (M := 2) rfl r3 (by decide) (by decide)
      obtain ⟨vb, μ5, e5, u5, r5, k5⟩ := draw (fu := fu) (k := k + 10) (m := 2) (M := 2) rfl r4 (by decide) (by decide)
      have hpr : prD (ofL sts) = .tup (sts.map stD) := by rw [prD, bdL_ofL]
      obtain ⟨a, ea⟩ : ∃ a : Ak, atI [D.tup [.str [119, 104, 105, 108, 101], .str [111, 112, 101, 110], .tup (sts.map stD)], D.tup [.str [119, 104, 105, 108, 101], .str [115, 116, 111, 110, 101], .tup (sts.map stD)]] (va : Int) = some (stD (.whl a (ofL sts))) := by
        match va, u4 with
        | 0, _ => exact ⟨.opn, by rw [← hpr]; rfl⟩
        | 1, _ => exact ⟨.stone, by rw [← hpr]; rfl⟩
        | v + 2, h => exact absurd h (by omega)
      obtain ⟨b, eb, b1, b2⟩ : ∃ b : Bd, atI [D.tup (sts.map stD), D.tup [stD (.whl a (ofL sts))]] (vb : Int) = some (prD b) ∧ lvB b ≤ 5 ∧ cnB b ≤ 13 := by
        match vb, u5 with
        | 0, _ => exact ⟨ofL sts, by rw [hpr]; rfl, by omega, by omega⟩
        | 1, _ => exact ⟨.cons (.whl a (ofL sts)) .nil, rfl, by simp only [lvB, lvS]; omega, by simp only [cnB, cnS]; omega⟩
        | v + 2, h => exact absurd h (by omega)
      have kk : Kr p μ μ5 := by
        have k12 : Kr p μ μ2 := kk1.trans (Kr.app.trans k2)
        refine ⟨Nat.le_trans (Nat.le_trans k12.1 k3.1) (k4.trans k5).1, fun r a b => ?_⟩
        have hl := k12.1
        have hl3 := k3.1
        have hl1 := kk1.1
        rw [(k4.trans k5).2 r (by omega) b, k3.2 r (by omega) b (by omega)]
        exact k12.2 r a b
      refine ⟨b, μ5, ?_, r5, kk, b1, by omega, fun h => absurd h h8⟩
      have bn := big_nat (n := 1 + n) (by omega)
      rw [Int.natCast_add] at bn
      have hnn : ((1 : Nat) : Int) = 1 := rfl
      rw [hnn] at bn
      have htn : ((1 : Int) + (n : Int)).toNat = 1 + n := by omega
      have hlen4 : μ1.length = q4 := hq4.symm
      generalize someD = SD at *
      generalize stD (.whl a (ofL sts)) = WD at *
      generalize sts.map stD = SL at *
      clear rest r1 k1 r0 l0 hr hsome h8 l1 kk1 u1 hv hv' hp1 hq31 r2 k2 s1 s2 s3 r3 k3 r4 k4 r5 k5 b1 b2 kk hq4 hq3 u2 u4 u5 hnn exs_some g2 hpr
      walk_at "fh"
      repeat (first | (simp only [c8, e1, q1, e2, bn, htn, f3, hlen4, g3, e4, ea, e5, eb]) | walk_at "fh")
    · have hv' : ((v : Int) == 1) = false := by
        rw [beq_eq_false_iff_ne]; omega
      rw [hv'] at q1
      obtain ⟨b, μ', r2, k2, v2, c2, e2⟩ := rest _ r1 l1 kk1
      refine ⟨b, μ', ?_, r2, k2, v2, by omega, fun _ => c2⟩
      generalize someD = SD at *
      clear rest r1 k1 r0 l0 hr hsome h8 r2 k2 v2 c2 l1 kk1 u1 hv hv' hq3 hpl hm exs_some
      walk_at "fhs"
end
section
variable {fu k p : Nat} {ns : List Int}
/-- a scene for a program is drawn -/
theorem draw_scene {b : Bd} {μ : Store} (hl : lvB b ≤ 5) (hr : RowAt ns p μ) :
    ∃ (s : Sc) (w h : Nat) (μ1 μ2 : Store), callK Gam fu (k + 12) .law_cells [prD b] μ = .ok (.int (cells b : Nat)) μ ∧ callK Gam fu (k + 12) .law_size [.ptr p, .int (cells b : Nat)] μ = .ok (.tup [.int w, .int h]) μ1 ∧ callK Gam fu (k + 12) .law_scene [.ptr p, .tup [.int w, .int h]] μ1 = .ok (scD s) μ2 ∧ Fit s w h ∧ s.h ≤ 36 ∧ Few b w h ∧ RowAt ns p μ2 ∧ Kr p μ μ2 := by
  have e0 := cells_ok (fu := fu) (b := b) (k := k + 5) (μ := μ) hl
  have hc : 1 ≤ cells b ∧ cells b ≤ 36 := by unfold cells; split <;> omega
  obtain ⟨w, h, μ1, e1, w1, w6, h1, h6, hwh, r1, k1⟩ := law_size_ok (fu := fu) (k := k + 10) (m := cells b) hc.1 hc.2 hr
  obtain ⟨s, μ2, e2, hf, hh, r2, k2⟩ := law_scene_ok (fu := fu) (k := k + 8) w1 w6 h1 h6 r1
  exact ⟨s, w, h, μ1, μ2, e0, e1, e2, hf, hh, cells_few hwh, r2, k1.trans k2⟩
end
/-! The words of a program. -/
mutual
def wdS : Stp → List (List Nat)
  | .act w => [w.c]
  | .ifs a x y => [105, 102] :: a.c :: [40] :: (wdB x ++ [41] :: [40] :: (wdB y ++ [[41]]))
  | .whl a x => [119, 104, 105, 108, 101] :: a.c :: [40] :: (wdB x ++ [[41]])
def wdB : Bd → List (List Nat)
  | .nil => []
  | .cons s b => wdS s ++ wdB b
end
mutual
theorem wdS_len : ∀ s : Stp, (wdS s).length ≤ 6 * cnS s
  | .act w => by simp [wdS, cnS]
  | .ifs a x y => by
    have := wdB_len x
    have := wdB_len y
    simp only [wdS, cnS, List.length_cons, List.length_append, List.length_nil]
    omega
  | .whl a x => by
    have := wdB_len x
    simp only [wdS, cnS, List.length_cons, List.length_append, List.length_nil]
    omega
theorem wdB_len : ∀ b : Bd, (wdB b).length ≤ 6 * cnB b
  | .nil => by simp [wdB]
  | .cons s b => by
    have := wdS_len s
    have := wdB_len b
    simp only [wdB, cnB, List.length_append]
    omega
end
/-- a word of a program -/
def Wok (w : List Nat) : Prop := w ≠ [] ∧ w.length ≤ 5 ∧ ∀ c ∈ w, c ≠ 32 ∧ c < 128
theorem wok_w (w : Wd) : Wok w.c := by cases w <;> exact ⟨by decide, by decide, by decide⟩
theorem wok_a (a : Ak) : Wok a.c := by cases a <;> exact ⟨by decide, by decide, by decide⟩
theorem wok_o : Wok [40] := ⟨by decide, by decide, by decide⟩
theorem wok_c : Wok [41] := ⟨by decide, by decide, by decide⟩
theorem wok_i : Wok [105, 102] := ⟨by decide, by decide, by decide⟩
theorem wok_h : Wok [119, 104, 105, 108, 101] := ⟨by decide, by decide, by decide⟩
mutual
theorem wdS_ok : ∀ s : Stp, ∀ w ∈ wdS s, Wok w
  | .act v, w, h => by
    rw [wdS, List.mem_singleton] at h
    exact h ▸ wok_w v
  | .ifs a x y, w, h => by
    have hx := wdB_ok x w
    have hy := wdB_ok y w
    simp only [wdS, List.mem_cons, List.mem_append, List.not_mem_nil, or_false] at h
    rcases h with rfl | rfl | rfl | h | rfl | rfl | h | rfl
    · exact wok_i
    · exact wok_a a
    · exact wok_o
    · exact hx h
    · exact wok_c
    · exact wok_o
    · exact hy h
    · exact wok_c
  | .whl a x, w, h => by
    have hx := wdB_ok x w
    simp only [wdS, List.mem_cons, List.mem_append, List.not_mem_nil, or_false] at h
    rcases h with rfl | rfl | rfl | h | rfl
    · exact wok_h
    · exact wok_a a
    · exact wok_o
    · exact hx h
    · exact wok_c
theorem wdB_ok : ∀ b : Bd, ∀ w ∈ wdB b, Wok w
  | .nil, w, h => by rw [wdB] at h; cases h
  | .cons s b, w, h => by
    rw [wdB, List.mem_append] at h
    rcases h with h | h
    · exact wdS_ok s w h
    · exact wdB_ok b w h
end
def WD (l : List (List Nat)) : List D := l.map .str
theorem WD_app (a b : List (List Nat)) : WD (a ++ b) = WD a ++ WD b := List.map_append
theorem WD_cons (a : List Nat) (b : List (List Nat)) : WD (a :: b) = .str a :: WD b := rfl
theorem WD_nil : WD [] = [] := rfl
theorem WD_len (a : List (List Nat)) : (WD a).length = a.length := List.length_map ..
theorem WD_strs : ∀ a : List (List Nat), strsOf (WD a) = some a
  | [] => rfl
  | x :: a => by rw [WD_cons, strsOf, WD_strs a]; rfl
theorem for_one {f : D → Env → Store → Out} {a : D} {σ σ' : Env} {μ μ' : Store} (h : f a σ μ = .nx σ' μ') : forV f [a] σ μ = .nx σ' μ' := by rw [forV, h]; rfl
theorem for_two {f : D → Env → Store → Out} {a b : D} {σ σ' σ'' : Env} {μ μ' μ'' : Store} (h : f a σ μ = .nx σ' μ') (h' : f b σ' μ' = .nx σ'' μ'') : forV f [a, b] σ μ = .nx σ'' μ'' := by rw [forV, h, Out.seq_nx, forV, h']; rfl
section
variable {fu : Nat}
abbrev lwIn : Ss := (.cons (.asg 1 (.bin .Add (.bin .Add (.bin .Add (.var 1) (.lst (.cons (.con (.str [40])) .nil))) (.call .law_words_k12 (.cons (.var 3) .nil))) (.lst (.cons (.con (.str [41])) .nil))))
  .nil)
abbrev lwBodyOf (IN : Ss) : Ss := (.cons (.asg 1 (.bin .Add (.var 1) (.blt .list (.cons (.slc (.var 2) (.con .non) (.con (.int 2))) .nil))))
  (.cons (.for_ 3 (.seq (.slc (.var 2) (.con (.int 2)) (.con .non))) IN)
  .nil))
abbrev lwBody : Ss := lwBodyOf lwIn
theorem lw_of {b : Bd} {k : Nat} {μ : Store} (h : ∀ D0 : D, ∃ b2 b3, forV (gBody (callK Gam fu k) fu none 2 lwBody) (bdL b) [some D0, some (.lst []), none, none] μ = .nx [some D0, some (.lst ([] ++ WD (wdB b))), b2, b3] μ) :
    callK Gam fu (k + 1) .law_words_k12 [prD b] μ = .ok (.lst (WD (wdB b))) μ := by
  obtain ⟨b2, b3, e⟩ := h (prD b)
  rw [List.nil_append] at e
  have hsr : srcD μ (prD b) = some (.vals (bdL b)) := rfl
  rw [c_law_words_k12]
  unfold B_law_words_k12
  walk_at "fh"
  repeat (first | (simp only [hsr, for_vals, e]) | walk_at "fh")
theorem lw_in {k : Nat} {μ : Store} {x : Bd} {D0 : D} {acc : List D} {a2 a3 : Option D} (e : callK Gam fu k .law_words_k12 [prD x] μ = .ok (.lst (WD (wdB x))) μ) (h : acc.length + 2 + (wdB x).length ≤ 1000) :
    gBody (callK Gam fu k) fu none 3 lwIn (prD x) [some D0, some (.lst acc), a2, a3] μ = .nx [some D0, some (.lst (acc ++ [.str [40]] ++ WD (wdB x) ++ [.str [41]])), a2, some (prD x)] μ := by
  have l := WD_len (wdB x)
  have c1 : acc.length + 1 ≤ lineMax := by rw [lineMax_eq]; omega
  have c2 : (acc ++ [D.str [40]]).length + (WD (wdB x)).length ≤ lineMax := by rw [List.length_append, List.length_singleton, lineMax_eq]; omega
  have c3 : (acc ++ [D.str [40]] ++ WD (wdB x)).length + 1 ≤ lineMax := by rw [List.length_append, List.length_append, List.length_singleton, lineMax_eq]; omega
  generalize prD x = PD at *
  generalize WD (wdB x) = L at *
  clear h l
  walk_at "fh"
  repeat (first | (simp only [e, c1, c2, c3]) | walk_at "fh")
mutual
theorem lw_B : ∀ (b : Bd) (k : Nat) (μ : Store) (D0 : D) (acc : List D) (a2 a3 : Option D), lvB b ≤ k → acc.length + 6 * cnB b ≤ 1000 →
    ∃ b2 b3, forV (gBody (callK Gam fu k) fu none 2 lwBody) (bdL b) [some D0, some (.lst acc), a2, a3] μ = .nx [some D0, some (.lst (acc ++ WD (wdB b))), b2, b3] μ
  | .nil, k, μ, D0, acc, a2, a3, h1, h2 => ⟨a2, a3, by simp [bdL, forV, wdB, WD]⟩
  | .cons s b, k, μ, D0, acc, a2, a3, h1, h2 => by
    rw [lvB] at h1
    rw [cnB] at h2
    obtain ⟨c3, e⟩ := lw_S s k μ D0 acc a2 a3 (by omega) (by omega)
    have hl := wdS_len s
    obtain ⟨b2, b3, r⟩ := lw_B b k μ D0 (acc ++ WD (wdS s)) (some (stD s)) c3 (by omega) (by rw [List.length_append, WD_len]; omega)
    refine ⟨b2, b3, ?_⟩
    rw [bdL, forV, e, Out.seq_nx, r, wdB, WD_app, List.append_assoc]
theorem lw_S : ∀ (s : Stp) (k : Nat) (μ : Store) (D0 : D) (acc : List D) (a2 a3 : Option D), lvS s ≤ k → acc.length + 6 * cnS s ≤ 1000 →
    ∃ b3, gBody (callK Gam fu k) fu none 2 lwBody (stD s) [some D0, some (.lst acc), a2, a3] μ = .nx [some D0, some (.lst (acc ++ WD (wdS s))), some (stD s), b3] μ
  | .act w, k, μ, D0, acc, a2, a3, h1, h2 => by
    refine ⟨a3, ?_⟩
    rw [cnS] at h2
    have c1 : acc.length + 1 ≤ lineMax := by rw [lineMax_eq]; omega
    have hc : cut [D.str w.c] (some 2) none = [] := rfl
    have hd : cut [D.str w.c] none (some 2) = [D.str w.c] := rfl
    rw [stD, wdS, WD_cons, WD_nil]
    clear h1 h2
    walk_at "fh"
    repeat (first | (simp only [hc, hd, c1, for_vals, forV]) | walk_at "fh")
  | .ifs a x y, k, μ, D0, acc, a2, a3, h1, h2 => by
    rw [lvS] at h1
    rw [cnS] at h2
    obtain ⟨k', rfl⟩ : ∃ k', k = k' + 1 := ⟨k - 1, by omega⟩
    have e1 := lw_of (fu := fu) (b := x) (k := k') (μ := μ) fun D0 => lw_B x k' μ D0 [] none none (by omega) (by simp; omega)
    have e2 := lw_of (fu := fu) (b := y) (k := k') (μ := μ) fun D0 => lw_B y k' μ D0 [] none none (by omega) (by simp; omega)
    have hx := wdB_len x
    have hy := wdB_len y
    have lx := WD_len (wdB x)
    obtain ⟨st, hst⟩ : ∃ st, st = D.tup [.str [105, 102], .str a.c, prD x, prD y] := ⟨_, rfl⟩
    have hst' : stD (.ifs a x y) = st := by rw [hst]; rfl
    have f1 := lw_in (fu := fu) (D0 := D0) (acc := acc ++ [.str [105, 102], .str a.c]) (a2 := some st) (a3 := a3) e1 (by rw [List.length_append]; simp; omega)
    have f2 := lw_in (fu := fu) (D0 := D0) (acc := acc ++ [.str [105, 102], .str a.c] ++ [.str [40]] ++ WD (wdB x) ++ [.str [41]]) (a2 := some st) (a3 := some (prD x)) e2 (by simp only [List.length_append, List.length_cons, List.length_nil]; omega)
    have c1 : acc.length + 2 ≤ lineMax := by rw [lineMax_eq]; omega
    have hc : cut [D.str [105, 102], D.str a.c, prD x, prD y] (some 2) none = [prD x, prD y] := rfl
    have hd : cut [D.str [105, 102], D.str a.c, prD x, prD y] none (some 2) = [.str [105, 102], .str a.c] := rfl
    refine ⟨some (prD y), ?_⟩
    rw [hst']
    have fin : acc ++ WD (wdS (.ifs a x y)) = acc ++ [.str [105, 102], .str a.c] ++ [.str [40]] ++ WD (wdB x) ++ [.str [41]] ++ [.str [40]] ++ WD (wdB y) ++ [.str [41]] := by
      simp [wdS, WD_cons, WD_app, WD_nil]
    rw [fin]
    subst hst
    show gBody (callK Gam fu (k' + 1)) fu none 2 (lwBodyOf lwIn) _ _ μ = _
    generalize lwIn = IN at *
    generalize prD x = PX at *
    generalize prD y = PY at *
    clear h1 h2 e1 e2 hx hy lx hst' fin
    have F := for_two f1 f2
    walk_at "fh"
    repeat (first | (simp only [hc, hd, c1, for_vals, F]) | walk_at "fh")
  | .whl a x, k, μ, D0, acc, a2, a3, h1, h2 => by
    rw [lvS] at h1
    rw [cnS] at h2
    obtain ⟨k', rfl⟩ : ∃ k', k = k' + 1 := ⟨k - 1, by omega⟩
    have e1 := lw_of (fu := fu) (b := x) (k := k') (μ := μ) fun D0 => lw_B x k' μ D0 [] none none (by omega) (by simp; omega)
    have hx := wdB_len x
    have lx := WD_len (wdB x)
    obtain ⟨st, hst⟩ : ∃ st, st = D.tup [.str [119, 104, 105, 108, 101], .str a.c, prD x] := ⟨_, rfl⟩
    have hst' : stD (.whl a x) = st := by rw [hst]; rfl
    have f1 := lw_in (fu := fu) (D0 := D0) (acc := acc ++ [.str [119, 104, 105, 108, 101], .str a.c]) (a2 := some st) (a3 := a3) e1 (by rw [List.length_append]; simp; omega)
    have c1 : acc.length + 2 ≤ lineMax := by rw [lineMax_eq]; omega
    have hc : cut [D.str [119, 104, 105, 108, 101], D.str a.c, prD x] (some 2) none = [prD x] := rfl
    have hd : cut [D.str [119, 104, 105, 108, 101], D.str a.c, prD x] none (some 2) = [.str [119, 104, 105, 108, 101], .str a.c] := rfl
    refine ⟨some (prD x), ?_⟩
    rw [hst']
    have fin : acc ++ WD (wdS (.whl a x)) = acc ++ [.str [119, 104, 105, 108, 101], .str a.c] ++ [.str [40]] ++ WD (wdB x) ++ [.str [41]] := by
      simp [wdS, WD_cons, WD_app, WD_nil]
    rw [fin]
    subst hst
    show gBody (callK Gam fu (k' + 1)) fu none 2 (lwBodyOf lwIn) _ _ μ = _
    generalize lwIn = IN at *
    generalize prD x = PX at *
    clear h1 h2 e1 hx lx hst' fin
    have F := for_one f1
    walk_at "fh"
    repeat (first | (simp only [hc, hd, c1, for_vals, F]) | walk_at "fh")
end
theorem law_words_ok {b : Bd} {k : Nat} {μ : Store} (h1 : lvB b ≤ 5) (h2 : cnB b ≤ 30) : callK Gam fu (k + 6) .law_words_k12 [prD b] μ = .ok (.lst (WD (wdB b))) μ :=
  lw_of fun D0 => lw_B b (k + 5) μ D0 [] none none (by omega) (by simp; omega)
/-! words_of: the same, in the store -/
abbrev woIn : Ss := (.cons (.ex (.mth .extend (.var 1) (.cons (.bin .Add (.bin .Add (.lst (.cons (.con (.str [40])) .nil)) (.call .words_of (.cons (.var 3) .nil))) (.lst (.cons (.con (.str [41])) .nil))) .nil)))
  .nil)
abbrev woBodyOf (IN : Ss) : Ss := (.cons (.ex (.mth .extend (.var 1) (.cons (.blt .list (.cons (.slc (.var 2) (.con .non) (.con (.int 2))) .nil)) .nil)))
  (.cons (.for_ 3 (.seq (.slc (.var 2) (.con (.int 2)) (.con .non))) IN)
  .nil))
abbrev woBody : Ss := woBodyOf woIn
/-- the turns of words_of -/
def WoB (fu : Nat) (b : Bd) (k : Nat) : Prop := ∀ (μ : Store) (q : Nat) (D0 : D) (acc : List D) (a2 a3 : Option D), μ[q]? = some (.lst acc) → acc.length + 6 * cnB b ≤ 1000 →
    ∃ (μ' : Store) (b2 b3 : Option D), forV (gBody (callK Gam fu k) fu none 2 woBody) (bdL b) [some D0, some (.ptr q), a2, a3] μ = .nx [some D0, some (.ptr q), b2, b3] μ' ∧ μ'[q]? = some (.lst (acc ++ WD (wdB b))) ∧ Kr q μ μ'
theorem wo_of {b : Bd} {k : Nat} {μ : Store} (h : WoB fu b k) (hc : cnB b ≤ 166) :
    ∃ μ', callK Gam fu (k + 1) .words_of [prD b] μ = .ok (.ptr μ.length) μ' ∧ μ'[μ.length]? = some (.lst (WD (wdB b))) ∧ Kp μ.length μ μ' := by
  obtain ⟨μ', b2, b3, e, g, kr⟩ := h (μ ++ [.lst []]) μ.length (prD b) [] none none (by simp) (by simp; omega)
  rw [List.nil_append] at g
  have hsr : srcD (μ ++ [.lst []]) (prD b) = some (.vals (bdL b)) := rfl
  refine ⟨μ', ?_, g, ?_⟩
  · rw [c_words_of]
    unfold B_words_of
    clear g kr
    walk_at "fh"
    repeat (first | (simp only [hsr, for_vals, e]) | walk_at "fh")
  · have h1 := kr.1
    rw [List.length_append, List.length_singleton] at h1
    refine ⟨by omega, fun r hr => ?_⟩
    rw [kr.2 r (by rw [List.length_append, List.length_singleton]; omega) (by omega), List.getElem?_append_left hr]
theorem wo_in {k : Nat} {μ : Store} {q : Nat} {x : Bd} {D0 : D} {acc : List D} {a2 a3 : Option D} (h : ∀ μ : Store, ∃ μ', callK Gam fu k .words_of [prD x] μ = .ok (.ptr μ.length) μ' ∧ μ'[μ.length]? = some (.lst (WD (wdB x))) ∧ Kp μ.length μ μ') (hq : μ[q]? = some (.lst acc)) (hl : acc.length + 2 + (wdB x).length ≤ 1000) :
    ∃ μ', gBody (callK Gam fu k) fu none 3 woIn (prD x) [some D0, some (.ptr q), a2, a3] μ = .nx [some D0, some (.ptr q), a2, some (prD x)] μ' ∧ μ'[q]? = some (.lst (acc ++ [.str [40]] ++ WD (wdB x) ++ [.str [41]])) ∧ Kr q μ μ' := by
  obtain ⟨μ1, e1, g1, k1⟩ := h μ
  have l := WD_len (wdB x)
  have hql : q < μ.length := (List.getElem?_eq_some_iff.mp hq).1
  have g2 : μ1[q]? = some (.lst acc) := by rw [k1.2 q hql]; exact hq
  have hk := k1.1
  refine ⟨μ1.set q (.lst (acc ++ [.str [40]] ++ WD (wdB x) ++ [.str [41]])), ?_, ?_, ?_⟩
  · have c1 : 1 + (WD (wdB x)).length ≤ lineMax := by rw [lineMax_eq]; omega
    have c2 : ([D.str [40]] ++ WD (wdB x)).length + 1 ≤ lineMax := by rw [List.length_append, List.length_singleton, lineMax_eq]; omega
    have c3 : acc.length + ([D.str [40]] ++ WD (wdB x) ++ [D.str [41]]).length ≤ lineMax := by rw [List.length_append, List.length_append, List.length_singleton, List.length_singleton, lineMax_eq]; omega
    have hap : acc ++ [D.str [40]] ++ WD (wdB x) ++ [.str [41]] = acc ++ ([D.str [40]] ++ WD (wdB x) ++ [.str [41]]) := by simp
    rw [hap]
    generalize prD x = PD at *
    generalize WD (wdB x) = L at *
    generalize hn : μ.length = n at *
    clear h l hl k1 hk hql hap
    walk_at "fh"
    repeat (first | (simp only [hq, e1, g1, g2, c1, c2, c3]) | walk_at "fh")
  · rw [List.getElem?_set_self (by omega)]
  · exact ⟨by rw [List.length_set]; exact hk, fun r hr hne => by rw [get_set_ne (by omega)]; exact k1.2 r hr⟩
mutual
theorem wo_B : ∀ (b : Bd) (k : Nat), lvB b ≤ k → WoB fu b k
  | .nil, k, h1 => fun μ q D0 acc a2 a3 hq h2 => ⟨μ, a2, a3, by simp [bdL, forV], by simpa [wdB, WD] using hq, Kr.refl ..⟩
  | .cons s b, k, h1 => fun μ q D0 acc a2 a3 hq h2 => by
    rw [lvB] at h1
    rw [cnB] at h2
    obtain ⟨μ1, c3, e, g1, k1⟩ := wo_S s k (by omega) μ q D0 acc a2 a3 hq (by omega)
    have hl := wdS_len s
    obtain ⟨μ2, b2, b3, r, g2, k2⟩ := wo_B b k (by omega) μ1 q D0 (acc ++ WD (wdS s)) (some (stD s)) c3 g1 (by rw [List.length_append, WD_len]; omega)
    refine ⟨μ2, b2, b3, ?_, ?_, k1.trans k2⟩
    · rw [bdL, forV, e, Out.seq_nx, r]
    · rw [g2, wdB, WD_app, List.append_assoc]
theorem wo_S : ∀ (s : Stp) (k : Nat), lvS s ≤ k → ∀ (μ : Store) (q : Nat) (D0 : D) (acc : List D) (a2 a3 : Option D), μ[q]? = some (.lst acc) → acc.length + 6 * cnS s ≤ 1000 →
    ∃ (μ' : Store) (b3 : Option D), gBody (callK Gam fu k) fu none 2 woBody (stD s) [some D0, some (.ptr q), a2, a3] μ = .nx [some D0, some (.ptr q), some (stD s), b3] μ' ∧ μ'[q]? = some (.lst (acc ++ WD (wdS s))) ∧ Kr q μ μ'
  | .act w, k, h1, μ, q, D0, acc, a2, a3, hq, h2 => by
    have hql : q < μ.length := (List.getElem?_eq_some_iff.mp hq).1
    refine ⟨μ.set q (.lst (acc ++ [.str w.c])), a3, ?_, ?_, ?_⟩
    · rw [cnS] at h2
      have c1 : acc.length + 1 ≤ lineMax := by rw [lineMax_eq]; omega
      have hc : cut [D.str w.c] (some 2) none = [] := rfl
      have hd : cut [D.str w.c] none (some 2) = [D.str w.c] := rfl
      rw [stD]
      clear h1 h2
      walk_at "fh"
      repeat (first | (simp only [hq, hc, hd, c1, for_vals, forV]) | walk_at "fh")
    · rw [List.getElem?_set_self hql]; rfl
    · exact ⟨by rw [List.length_set]; exact Nat.le_refl _, fun r hr hne => get_set_ne (by omega)⟩
  | .ifs a x y, k, h1, μ, q, D0, acc, a2, a3, hq, h2 => by
    rw [lvS] at h1
    rw [cnS] at h2
    obtain ⟨k', rfl⟩ : ∃ k', k = k' + 1 := ⟨k - 1, by omega⟩
    have hx := wdB_len x
    have hy := wdB_len y
    have lx := WD_len (wdB x)
    have hql : q < μ.length := (List.getElem?_eq_some_iff.mp hq).1
    have w1 := wo_B x k' (by omega)
    have w2 := wo_B y k' (by omega)
    obtain ⟨st, hst⟩ : ∃ st, st = D.tup [.str [105, 102], .str a.c, prD x, prD y] := ⟨_, rfl⟩
    have hst' : stD (.ifs a x y) = st := by rw [hst]; rfl
    obtain ⟨μ1, f1, g1, k1⟩ := wo_in (fu := fu) (k := k' + 1) (x := x) (μ := μ.set q (.lst (acc ++ [.str [105, 102], .str a.c]))) (q := q) (D0 := D0) (acc := acc ++ [.str [105, 102], .str a.c]) (a2 := some st) (a3 := a3) (fun μ => wo_of w1 (by omega)) (by rw [List.getElem?_set_self hql]) (by rw [List.length_append]; simp; omega)
    obtain ⟨μ2, f2, g2, k2⟩ := wo_in (fu := fu) (k := k' + 1) (x := y) (μ := μ1) (q := q) (D0 := D0) (acc := acc ++ [.str [105, 102], .str a.c] ++ [.str [40]] ++ WD (wdB x) ++ [.str [41]]) (a2 := some st) (a3 := some (prD x)) (fun μ => wo_of w2 (by omega)) g1 (by simp only [List.length_append, List.length_cons, List.length_nil]; omega)
    have c1 : acc.length + 2 ≤ lineMax := by rw [lineMax_eq]; omega
    have hc : cut [D.str [105, 102], D.str a.c, prD x, prD y] (some 2) none = [prD x, prD y] := rfl
    have hd : cut [D.str [105, 102], D.str a.c, prD x, prD y] none (some 2) = [.str [105, 102], .str a.c] := rfl
    have fin : acc ++ WD (wdS (.ifs a x y)) = acc ++ [.str [105, 102], .str a.c] ++ [.str [40]] ++ WD (wdB x) ++ [.str [41]] ++ [.str [40]] ++ WD (wdB y) ++ [.str [41]] := by
      simp [wdS, WD_cons, WD_app, WD_nil]
    refine ⟨μ2, some (prD y), ?_, ?_, ?_⟩
    · rw [hst']
      subst hst
      show gBody (callK Gam fu (k' + 1)) fu none 2 (woBodyOf woIn) _ _ μ = _
      generalize woIn = IN at *
      generalize prD x = PX at *
      generalize prD y = PY at *
      clear h1 h2 hx hy lx hst' fin w1 w2 g1 g2 k1 k2 hql
      have F := for_two f1 f2
      walk_at "fh"
      repeat (first | (simp only [hq, hc, hd, c1, for_vals, F]) | walk_at "fh")
    · rw [g2, fin]
    · have k0 : Kr q μ (μ.set q (.lst (acc ++ [.str [105, 102], .str a.c]))) := ⟨by rw [List.length_set]; exact Nat.le_refl _, fun r hr hne => get_set_ne (by omega)⟩
      exact (k0.trans k1).trans k2
  | .whl a x, k, h1, μ, q, D0, acc, a2, a3, hq, h2 => by
    rw [lvS] at h1
    rw [cnS] at h2
    obtain ⟨k', rfl⟩ : ∃ k', k = k' + 1 := ⟨k - 1, by omega⟩
    have hx := wdB_len x
    have hql : q < μ.length := (List.getElem?_eq_some_iff.mp hq).1
    have w1 := wo_B x k' (by omega)
    obtain ⟨st, hst⟩ : ∃ st, st = D.tup [.str [119, 104, 105, 108, 101], .str a.c, prD x] := ⟨_, rfl⟩
    have hst' : stD (.whl a x) = st := by rw [hst]; rfl
    obtain ⟨μ1, f1, g1, k1⟩ := wo_in (fu := fu) (k := k' + 1) (x := x) (μ := μ.set q (.lst (acc ++ [.str [119, 104, 105, 108, 101], .str a.c]))) (q := q) (D0 := D0) (acc := acc ++ [.str [119, 104, 105, 108, 101], .str a.c]) (a2 := some st) (a3 := a3) (fun μ => wo_of w1 (by omega)) (by rw [List.getElem?_set_self hql]) (by rw [List.length_append]; simp; omega)
    have c1 : acc.length + 2 ≤ lineMax := by rw [lineMax_eq]; omega
    have hc : cut [D.str [119, 104, 105, 108, 101], D.str a.c, prD x] (some 2) none = [prD x] := rfl
    have hd : cut [D.str [119, 104, 105, 108, 101], D.str a.c, prD x] none (some 2) = [.str [119, 104, 105, 108, 101], .str a.c] := rfl
    have fin : acc ++ WD (wdS (.whl a x)) = acc ++ [.str [119, 104, 105, 108, 101], .str a.c] ++ [.str [40]] ++ WD (wdB x) ++ [.str [41]] := by
      simp [wdS, WD_cons, WD_app, WD_nil]
    refine ⟨μ1, some (prD x), ?_, ?_, ?_⟩
    · rw [hst']
      subst hst
      show gBody (callK Gam fu (k' + 1)) fu none 2 (woBodyOf woIn) _ _ μ = _
      generalize woIn = IN at *
      generalize prD x = PX at *
      clear h1 h2 hx hst' fin w1 g1 k1 hql
      have F := for_one f1
      walk_at "fh"
      repeat (first | (simp only [hq, hc, hd, c1, for_vals, F]) | walk_at "fh")
    · rw [g1, fin]
    · have k0 : Kr q μ (μ.set q (.lst (acc ++ [.str [119, 104, 105, 108, 101], .str a.c]))) := ⟨by rw [List.length_set]; exact Nat.le_refl _, fun r hr hne => get_set_ne (by omega)⟩
      exact k0.trans k1
end
theorem words_of_ok {b : Bd} {k : Nat} {μ : Store} (h1 : lvB b ≤ 5) (h2 : cnB b ≤ 30) :
    ∃ μ', callK Gam fu (k + 6) .words_of [prD b] μ = .ok (.ptr μ.length) μ' ∧ μ'[μ.length]? = some (.lst (WD (wdB b))) ∧ Kp μ.length μ μ' :=
  wo_of (wo_B b (k + 5) (by omega)) (by omega)
end
/-! Texts: join and split; the reader. -/
theorem split_no : ∀ (p r : List Nat), (∀ c ∈ p, c ≠ 32) → splitC 32 (p ++ 32 :: r) = p :: splitC 32 r
  | [], r, _ => by rw [List.nil_append, splitC, if_pos rfl]
  | x :: p, r, h => by
    have h1 := split_no p r fun c hc => h c (List.mem_cons_of_mem _ hc)
    rw [List.cons_append, splitC, if_neg (h x List.mem_cons_self), h1]
theorem split_one : ∀ (p : List Nat), (∀ c ∈ p, c ≠ 32) → splitC 32 p = [p]
  | [], _ => rfl
  | x :: p, h => by
    have h1 := split_one p fun c hc => h c (List.mem_cons_of_mem _ hc)
    rw [splitC, if_neg (h x List.mem_cons_self), h1]
theorem split_join : ∀ (w : List Nat) (ws : List (List Nat)), (∀ v ∈ w :: ws, Wok v) → splitC 32 (joinC [32] (w :: ws)) = w :: ws
  | w, [], h => split_one w fun c hc => ((h w List.mem_cons_self).2.2 c hc).1
  | w, v :: ws, h => by
    rw [joinC, List.singleton_append, split_no w _ fun c hc => ((h w List.mem_cons_self).2.2 c hc).1, split_join v ws fun u hu => h u (List.mem_cons_of_mem _ hu)]
theorem join_len : ∀ ws : List (List Nat), (∀ v ∈ ws, Wok v) → (joinC [32] ws).length ≤ 6 * ws.length
  | [], _ => Nat.zero_le _
  | [w], h => by
    have := (h w List.mem_cons_self).2.1
    rw [joinC, List.length_singleton]
    omega
  | w :: v :: ws, h => by
    have h1 := join_len (v :: ws) fun u hu => h u (List.mem_cons_of_mem _ hu)
    have := (h w List.mem_cons_self).2.1
    rw [joinC, List.length_append, List.length_append, List.length_singleton, List.length_cons]
    omega
theorem join_chars : ∀ ws : List (List Nat), (∀ v ∈ ws, Wok v) → ∀ c ∈ joinC [32] ws, c < 128
  | [], _, c, hc => by rw [joinC] at hc; cases hc
  | [w], h, c, hc => ((h w List.mem_cons_self).2.2 c hc).2
  | w :: v :: ws, h, c, hc => by
    rw [joinC, List.mem_append, List.mem_append, List.mem_singleton] at hc
    rcases hc with hc | hc | hc
    · exact ((h w List.mem_cons_self).2.2 c hc).2
    · omega
    · exact join_chars (v :: ws) (fun u hu => h u (List.mem_cons_of_mem _ hu)) c hc
theorem join_nil {ws : List (List Nat)} (h : ∀ v ∈ ws, Wok v) : joinC [32] ws = [] ↔ ws = [] := by
  constructor
  · intro e
    cases ws with
    | nil => rfl
    | cons w ws =>
      have hw := (h w List.mem_cons_self).1
      cases ws with
      | nil => exact absurd e hw
      | cons v ws =>
        rw [joinC] at e
        exact absurd (List.append_eq_nil_iff.mp e).1 hw
  · rintro rfl; rfl
theorem lens_sum : ∀ ws : List (List Nat), (∀ v ∈ ws, Wok v) → (ws.map List.length).sum ≤ 5 * ws.length
  | [], _ => Nat.le_refl _
  | w :: ws, h => by
    have := lens_sum ws fun u hu => h u (List.mem_cons_of_mem _ hu)
    have := (h w List.mem_cons_self).2.1
    rw [List.map_cons, List.sum_cons, List.length_cons]
    omega
def txt (b : Bd) : List Nat := joinC [32] (wdB b)
theorem txt_len {b : Bd} (h : cnB b ≤ 30) : (txt b).length ≤ 1080 := by
  have h1 := join_len (wdB b) (wdB_ok b)
  have h2 := wdB_len b
  unfold txt
  omega
theorem txt_all (b : Bd) : (txt b).all (· < 0x110000) = true := by
  rw [List.all_eq_true]
  intro c hc
  have := join_chars (wdB b) (wdB_ok b) c hc
  exact decide_eq_true (by omega)
section
variable {fu : Nat} {μ : Store}
theorem join_max {b : Bd} (h : cnB b ≤ 30) : ((wdB b).map List.length).sum + (wdB b).length * 1 ≤ 16777216 := by
  have h1 := lens_sum (wdB b) (wdB_ok b)
  have h2 := wdB_len b
  omega
theorem join_words {b : Bd} {d : D} (hd : itemsOf μ d = some (WD (wdB b))) (h : cnB b ≤ 30) : mthD .join (.str [32]) [d] μ = .ok (.str (txt b)) μ := by
  have h1 := lens_sum (wdB b) (wdB_ok b)
  have h2 := wdB_len b
  rw [mt_join', hd]
  show (match strsOf (WD (wdB b)) with | some ss => _ | none => _) = _
  rw [WD_strs]
  show (if _ then _ else _) = _
  rw [if_pos (by rw [List.length_singleton]; omega)]
  rfl
theorem split_words {b : Bd} (h : cnB b ≤ 30) (hne : wdB b ≠ []) : mthD .split (.str (txt b)) [.str [32]] μ = .ok (.lst (WD (wdB b))) μ := by
  have hl := txt_len h
  have hs : splitC 32 (txt b) = wdB b := by
    have h2 := wdB_ok b
    unfold txt
    cases hw : wdB b with
    | nil => exact absurd hw hne
    | cons w ws => exact split_join w ws (hw ▸ h2)
  show (if (txt b).length + 2 ≤ lineMax ∧ 32 < 128 then Res.ok (D.lst ((splitC 32 (txt b)).map .str)) μ else .bad) = _
  rw [if_pos ⟨by rw [lineMax_eq]; omega, by decide⟩, hs]
  rfl
theorem text_of_ok {b : Bd} {k : Nat} (h1 : lvB b ≤ 5) (h2 : cnB b ≤ 30) : ∃ μ', callK Gam fu (k + 7) .text_of [prD b] μ = .ok (.str (txt b)) μ' ∧ Kp μ.length μ μ' := by
  obtain ⟨μ', e, g, kp⟩ := words_of_ok (fu := fu) (k := k) (μ := μ) h1 h2
  have hd : itemsOf μ' (.ptr μ.length) = some (WD (wdB b)) := by rw [its_ptr, g]
  have c := join_max (b := b) h2
  have w := WD_strs (wdB b)
  refine ⟨μ', ?_, kp⟩
  rw [c_text_of]
  unfold B_text_of txt
  generalize hn : μ.length = n at *
  clear h1 h2 hd kp
  walk_at "fh"
  repeat (first | (simp only [e, g, w, c]) | walk_at "fh")
theorem written_ok {b : Bd} {k : Nat} (h1 : lvB b ≤ 5) (h2 : cnB b ≤ 30) : ∃ μ', callK Gam fu (k + 8) .written [prD b] μ = .ok (.str (txt b)) μ' ∧ Kp μ.length μ μ' := by
  obtain ⟨μ', e, kp⟩ := text_of_ok (fu := fu) (k := k) (μ := μ) h1 h2
  have n := need_program_ok (fu := fu) (k := k) (μ := μ) h1 h2
  refine ⟨μ', ?_, kp⟩
  rw [c_written]
  unfold B_written
  generalize prD b = PD at *
  clear h1 h2 kp
  walk_at "fh"
  repeat (first | (simp only [e, n]) | walk_at "fh")
theorem must_ok {k : Nat} {W xs : List D} {i : Int} {x : D} (h1 : atI W i = some x) (h2 : i < (W.length : Nat)) (h3 : inD μ x (.tup xs) = some true) : callK Gam fu (k + 1) .must [.lst W, .int i, .tup xs] μ = .ok .non μ := by
  have c : ¬ ((W.length : Nat) : Int) ≤ i := by omega
  rw [c_must]
  unfold B_must
  clear h2
  walk_at "fh"
  repeat (first | (simp only [h1, h3, c]) | walk_at "fh")
end
theorem drop_at {W : List D} {n : Nat} {x : D} {r : List D} (h : W.drop n = x :: r) : atI W (n : Int) = some x ∧ (n : Int) < (W.length : Nat) ∧ W.drop (n + 1) = r := by
  have hn : n < W.length := by
    rcases Nat.lt_or_ge n W.length with hh | hh
    · exact hh
    · rw [List.drop_of_length_le hh] at h; cases h
  rw [List.drop_eq_getElem_cons hn] at h
  simp only [List.cons.injEq] at h
  refine ⟨?_, by omega, h.2⟩
  unfold atI ixN
  rw [if_pos (by omega), if_pos (by omega), Option.bind_some, Int.toNat_natCast, List.getElem?_eq_getElem hn, h.1]
/-! The reader reads what was written. -/
section
variable {fu : Nat}
abbrev baIn : Ss := (.cons (.ex (.call .must (.cons (.var 0) (.cons (.var 1) (.cons (.tup (.cons (.con (.str [40])) .nil)) .nil)))))
  (.cons (.unp [6, 1] (.call .body_at (.cons (.var 0) (.cons (.bin .Add (.var 1) (.con (.int 1))) .nil))))
  (.cons (.ex (.call .must (.cons (.var 0) (.cons (.var 1) (.cons (.tup (.cons (.con (.str [41])) .nil)) .nil)))))
  (.cons (.ex (.mth .append (.var 4) (.cons (.var 6) .nil)))
  (.cons (.asg 1 (.bin .Add (.var 1) (.con (.int 1))))
  .nil)))))
abbrev baBodyOf (IN : Ss) : Ss := (.cons (.asg 3 (.idx (.var 0) (.var 1)))
  (.cons (.asg 1 (.bin .Add (.var 1) (.con (.int 1))))
  (.cons (.ifs (.cmp .In (.var 3) (.glo .DOINGS)) (.cons (.ex (.mth .append (.var 2) (.cons (.tup (.cons (.var 3) .nil)) .nil)))
  .nil) (.cons (.ex (.call .must (.cons (.var 0) (.cons (.var 1) (.cons (.glo .ASKS) .nil)))))
  (.cons (.asg 4 (.ref (.lst (.cons (.var 3) (.cons (.idx (.var 0) (.var 1)) .nil)))))
  (.cons (.asg 1 (.bin .Add (.var 1) (.con (.int 1))))
  (.cons (.for_ 5 (.rng (.cons (.bin .Sub (.getG (.var 3)) (.con (.int 2))) .nil)) IN)
  (.cons (.ex (.mth .append (.var 2) (.cons (.blt .tuple (.cons (.var 4) .nil)) .nil)))
  .nil))))))
  .nil)))
abbrev baBody : Ss := baBodyOf baIn
abbrev baTest : E := (.and (.cmp .Lt (.var 1) (.blt .len (.cons (.var 0) .nil))) (.inG true (.idx (.var 0) (.var 1))))
/-- a body's words end -/
def Stop (post : List (List Nat)) : Prop := post = [] ∨ ∃ r, post = [41] :: r
/-- a body is read -/
def BaOk (fu : Nat) (x : Bd) (k : Nat) : Prop := ∀ (W : List D) (n : Nat) (post : List (List Nat)) (S : Store), W.drop n = WD (wdB x ++ post) → Stop post → ∃ S', callK Gam fu k .body_at [.lst W, .int (n : Nat)] S = .ok (.tup [prD x, .int ((n + (wdB x).length : Nat))]) S' ∧ Kp S.length S S'
theorem drop_more {W : List D} {n : Nat} {a b : List (List Nat)} (h : W.drop n = WD (a ++ b)) : W.drop (n + a.length) = WD b := by
  rw [← List.drop_drop, h, WD_app, ← WD_len a, List.drop_left]
theorem ba_in {k m q4 : Nat} {W ps : List D} {x : Bd} {post : List (List Nat)} {S : Store} {j : D} {A2 A3 a5 a6 : Option D} (hb : BaOk fu x (k + 1)) (hW : W.drop m = WD ([40] :: (wdB x ++ [41] :: post))) (hq : S[q4]? = some (.lst ps)) (hp : ps.length ≤ 10) :
    ∃ S', gBody (callK Gam fu (k + 1)) fu none 5 baIn j [some (.lst W), some (.int (m : Nat)), A2, A3, some (.ptr q4), a5, a6] S = .nx [some (.lst W), some (.int ((m + 2 + (wdB x).length : Nat))), A2, A3, some (.ptr q4), some j, some (prD x)] S' ∧ S'[q4]? = some (.lst (ps ++ [prD x])) ∧ Kr q4 S S' ∧ W.drop (m + 2 + (wdB x).length) = WD post := by
  obtain ⟨h1, h2, h3⟩ := drop_at (show W.drop m = .str [40] :: WD (wdB x ++ [41] :: post) from hW)
  obtain ⟨S1, e1, k1⟩ := hb W (m + 1) ([41] :: post) S h3 (.inr ⟨_, rfl⟩)
  have h4 := drop_more h3
  obtain ⟨h5, h6, h7⟩ := drop_at (show W.drop _ = .str [41] :: WD post from h4)
  have m1 := must_ok (fu := fu) (k := k) (μ := S) (xs := [.str [40]]) h1 h2 rfl
  have m2 := must_ok (fu := fu) (k := k) (μ := S1) (xs := [.str [41]]) h5 h6 rfl
  have hql : q4 < S.length := (List.getElem?_eq_some_iff.mp hq).1
  have g1 : S1[q4]? = some (.lst ps) := by rw [k1.2 q4 hql]; exact hq
  have hk := k1.1
  have hN : m + 2 + (wdB x).length = m + 1 + (wdB x).length + 1 := by omega
  refine ⟨S1.set q4 (.lst (ps ++ [prD x])), ?_, ?_, ?_, ?_⟩
  · rw [hN]
    generalize m + 1 + (wdB x).length = N at *
    rw [Int.natCast_add] at e1
    have one : ((1 : Nat) : Int) = 1 := rfl
    rw [one] at e1
    have fin : ((N + 1 : Nat) : Int) = (N : Int) + 1 := rfl
    rw [fin]
    have c1 : ps.length < lineMax := by rw [lineMax_eq]; omega
    generalize prD x = PD at *
    clear hb hW h1 h2 h3 h4 h5 h6 h7 k1 hk hN hql hp hq
    walk_at "fh"
    repeat (first | (simp only [e1, m1, m2, g1, c1]) | walk_at "fh")
  · rw [List.getElem?_set_self (by omega)]
  · exact ⟨by rw [List.length_set]; exact hk, fun r hr hne => by rw [get_set_ne (by omega)]; exact k1.2 r hr⟩
  · rw [hN]; exact h7
theorem kr_set {q : Nat} {μ : Store} {o : O} : Kr q μ (μ.set q o) := ⟨by rw [List.length_set]; exact Nat.le_refl _, fun r hr hne => get_set_ne (by omega)⟩
theorem ba_S {s : Stp} {k n q : Nat} {W acc : List D} {post : List (List Nat)} {S : Store} {a3 a4 a5 a6 : Option D} (hx : ∀ x, lvB x < lvS s → cnB x ≤ cnS s → 1 ≤ k ∧ BaOk fu x k) (hW : W.drop n = WD (wdS s ++ post)) (hq : S[q]? = some (.lst acc)) (ha : acc.length ≤ 1000) :
    ev (callK Gam fu k) none baTest [some (.lst W), some (.int (n : Nat)), some (.ptr q), a3, a4, a5, a6] S = .ok (.bl true) S ∧
    ∃ S' b3 b4 b5 b6, exs (callK Gam fu k) fu baBody none [some (.lst W), some (.int (n : Nat)), some (.ptr q), a3, a4, a5, a6] S = .nx [some (.lst W), some (.int ((n + (wdS s).length : Nat))), some (.ptr q), b3, b4, b5, b6] S' ∧ S'[q]? = some (.lst (acc ++ [stD s])) ∧ Kr q S S' ∧ W.drop (n + (wdS s).length) = WD post := by
  have hql : q < S.length := (List.getElem?_eq_some_iff.mp hq).1
  have c1 : acc.length < lineMax := by rw [lineMax_eq]; omega
  have hend := drop_more hW
  cases s with
  | act w =>
    rw [wdS] at hW
    obtain ⟨h1, h2, h3⟩ := drop_at (show W.drop n = .str w.c :: WD post from hW)
    have hl := lookW w
    have hin := inW S w
    rw [gval] at hin
    refine ⟨?_, S.set q (.lst (acc ++ [stD (.act w)])), some (.str w.c), a4, a5, a6, ?_, ?_, kr_set, hend⟩
    · clear hx hW h3 hq ha hql c1 hin hend
      walk_at "fh"
      repeat (first | (simp only [h1, h2, hl]) | walk_at "fh")
    · have fin : ((n + (wdS (.act w)).length : Nat) : Int) = (n : Int) + 1 := rfl
      rw [fin, stD]
      show exs (callK Gam fu k) fu (baBodyOf baIn) none _ S = _
      generalize baIn = IN
      clear hx hW h3 ha hql hend fin
      walk_at "fh"
      repeat (first | (simp only [h1, hin, hq, c1]) | walk_at "fh")
    · rw [List.getElem?_set_self hql]
  | ifs a x y =>
    obtain ⟨hk, bx⟩ := hx x (by rw [lvS]; omega) (by rw [cnS]; omega)
    have by_ := (hx y (by rw [lvS]; omega) (by rw [cnS]; omega)).2
    obtain ⟨k, rfl⟩ : ∃ k', k = k' + 1 := ⟨k - 1, by omega⟩
    rw [wdS] at hW
    obtain ⟨h1, h2, h3⟩ := drop_at (show W.drop n = .str [105, 102] :: WD (a.c :: [40] :: (wdB x ++ [41] :: [40] :: (wdB y ++ [[41]])) ++ post) from hW)
    obtain ⟨h4, h5, h6⟩ := drop_at (show W.drop (n + 1) = .str a.c :: WD ([40] :: (wdB x ++ [41] :: [40] :: (wdB y ++ [[41]])) ++ post) from h3)
    have h7 : W.drop (n + 1 + 1) = WD ([40] :: (wdB x ++ [41] :: ([40] :: (wdB y ++ [41] :: post)))) := by rw [h6]; simp
    have hin := inA S a
    have hno : inD S (.str [105, 102]) (gval .DOINGS) = some false := rfl
    rw [gval] at hin
    rw [gval] at hno
    have mu := must_ok (fu := fu) (k := k) (μ := S) h4 h5 hin
    have gp : (S ++ [.lst [.str [105, 102], .str a.c]])[S.length]? = some (.lst [.str [105, 102], .str a.c]) := by simp
    obtain ⟨S1, e1, g1, r1, d1⟩ := ba_in (fu := fu) (j := .int 0) (A2 := some (.ptr q)) (A3 := some (.str [105, 102])) (a5 := a5) (a6 := a6) bx h7 gp (by simp)
    obtain ⟨S2, e2, g2, r2, d2⟩ := ba_in (fu := fu) (j := .int 1) (A2 := some (.ptr q)) (A3 := some (.str [105, 102])) (a5 := some (.int 0)) (a6 := some (prD x)) by_ d1 g1 (by simp)
    have l1 := r1.1
    have l2 := r2.1
    rw [List.length_append, List.length_singleton] at l1
    have gq1 : S1[q]? = some (.lst acc) := by rw [r1.2 q (by rw [List.length_append]; omega) (by omega), List.getElem?_append_left hql]; exact hq
    have gq2 : S2[q]? = some (.lst acc) := by rw [r2.2 q (by omega) (by omega)]; exact gq1
    have F := for_two e1 e2
    have hN : n + (wdS (.ifs a x y)).length = n + 1 + 1 + 2 + (wdB x).length + 2 + (wdB y).length := by simp [wdS]; omega
    refine ⟨?_, S2.set q (.lst (acc ++ [stD (.ifs a x y)])), some (.str [105, 102]), some (.ptr S.length), some (.int 1), some (prD y), ?_, ?_, ?_, hend⟩
    · have hl : lengths.lookup [105, 102] = some 4 := rfl
      clear hx hW h3 hq ha hql c1 hin hno hend h4 h5 h6 h7 mu gp e1 g1 r1 d1 e2 g2 r2 d2 l1 l2 gq1 gq2 F hN bx by_
      walk_at "fh"
      repeat (first | (simp only [h1, h2, hl]) | walk_at "fh")
    · have hst : stD (.ifs a x y) = .tup [.str [105, 102], .str a.c, prD x, prD y] := rfl
      have hl : lengths.lookup [105, 102] = some 4 := rfl
      have b2 : big 2 = true := by decide
      have i2 : (4 : Int) - 2 = 2 := rfl
      have rg : rangeFrom 0 1 (2 : Int).toNat = [.int 0, .int 1] := rfl
      have one : ((1 : Nat) : Int) = 1 := rfl
      rw [hN, hst]
      generalize n + 1 + 1 + 2 + (wdB x).length + 2 + (wdB y).length = N at *
      rw [Int.natCast_add, one] at mu h4
      have c11 : ((n + 1 + 1 : Nat) : Int) = (n : Int) + 1 + 1 := rfl
      rw [c11] at F
      simp only [List.cons_append, List.nil_append] at g2
      show exs (callK Gam fu (k + 1)) fu (baBodyOf baIn) none _ S = _
      generalize baIn = IN at *
      generalize prD x = PX at *
      generalize prD y = PY at *
      generalize hSl : S.length = sl at *
      clear hx hW h3 ha hql hend h5 h6 h7 gp e1 g1 r1 d1 e2 r2 d2 l1 l2 gq1 hN bx by_ hin hst hq
      walk_at "fh"
      repeat (first | (simp only [h1, hno, mu, h4, hl, i2, b2, rg, for_vals, F, gq2, g2, c1, hSl]) | walk_at "fh")
    · rw [List.getElem?_set_self (by omega)]
    · refine ⟨by rw [List.length_set]; omega, fun r hr hne => ?_⟩
      rw [get_set_ne (by omega), r2.2 r (by omega) (by omega), r1.2 r (by rw [List.length_append]; omega) (by omega), List.getElem?_append_left hr]
  | whl a x =>
    obtain ⟨hk, bx⟩ := hx x (by rw [lvS]; omega) (by rw [cnS]; omega)
    obtain ⟨k, rfl⟩ : ∃ k', k = k' + 1 := ⟨k - 1, by omega⟩
    rw [wdS] at hW
    obtain ⟨h1, h2, h3⟩ := drop_at (show W.drop n = .str [119, 104, 105, 108, 101] :: WD (a.c :: [40] :: (wdB x ++ [[41]]) ++ post) from hW)
    obtain ⟨h4, h5, h6⟩ := drop_at (show W.drop (n + 1) = .str a.c :: WD ([40] :: (wdB x ++ [[41]]) ++ post) from h3)
    have h7 : W.drop (n + 1 + 1) = WD ([40] :: (wdB x ++ [41] :: post)) := by rw [h6]; simp
    have hin := inA S a
    have hno : inD S (.str [119, 104, 105, 108, 101]) (gval .DOINGS) = some false := rfl
    rw [gval] at hin
    rw [gval] at hno
    have mu := must_ok (fu := fu) (k := k) (μ := S) h4 h5 hin
    have gp : (S ++ [.lst [.str [119, 104, 105, 108, 101], .str a.c]])[S.length]? = some (.lst [.str [119, 104, 105, 108, 101], .str a.c]) := by simp
    obtain ⟨S1, e1, g1, r1, d1⟩ := ba_in (fu := fu) (j := .int 0) (A2 := some (.ptr q)) (A3 := some (.str [119, 104, 105, 108, 101])) (a5 := a5) (a6 := a6) bx h7 gp (by simp)
    have l1 := r1.1
    rw [List.length_append, List.length_singleton] at l1
    have gq1 : S1[q]? = some (.lst acc) := by rw [r1.2 q (by rw [List.length_append]; omega) (by omega), List.getElem?_append_left hql]; exact hq
    have F := for_one e1
    have hN : n + (wdS (.whl a x)).length = n + 1 + 1 + 2 + (wdB x).length := by simp [wdS]; omega
    refine ⟨?_, S1.set q (.lst (acc ++ [stD (.whl a x)])), some (.str [119, 104, 105, 108, 101]), some (.ptr S.length), some (.int 0), some (prD x), ?_, ?_, ?_, hend⟩
    · have hl : lengths.lookup [119, 104, 105, 108, 101] = some 3 := rfl
      clear hx hW h3 hq ha hql c1 hin hno hend h4 h5 h6 h7 mu gp e1 g1 r1 d1 l1 gq1 F hN bx
      walk_at "fh"
      repeat (first | (simp only [h1, h2, hl]) | walk_at "fh")
    · have hst : stD (.whl a x) = .tup [.str [119, 104, 105, 108, 101], .str a.c, prD x] := rfl
      have hl : lengths.lookup [119, 104, 105, 108, 101] = some 3 := rfl
      have b2 : big 1 = true := by decide
      have i2 : (3 : Int) - 2 = 1 := rfl
      have rg : rangeFrom 0 1 (1 : Int).toNat = [.int 0] := rfl
      have one : ((1 : Nat) : Int) = 1 := rfl
      rw [hN, hst]
      generalize n + 1 + 1 + 2 + (wdB x).length = N at *
      rw [Int.natCast_add, one] at mu h4
      have c11 : ((n + 1 + 1 : Nat) : Int) = (n : Int) + 1 + 1 := rfl
      rw [c11] at F
      simp only [List.cons_append, List.nil_append] at g1
      show exs (callK Gam fu (k + 1)) fu (baBodyOf baIn) none _ S = _
      generalize baIn = IN at *
      generalize prD x = PX at *
      generalize hSl : S.length = sl at *
      clear hx hW h3 ha hql hend h5 h6 h7 gp e1 r1 d1 l1 hN bx hin hst hq
      walk_at "fh"
      repeat (first | (simp only [h1, hno, mu, h4, hl, i2, b2, rg, for_vals, F, gq1, g1, c1, hSl]) | walk_at "fh")
    · rw [List.getElem?_set_self (by omega)]
    · refine ⟨by rw [List.length_set]; omega, fun r hr hne => ?_⟩
      rw [get_set_ne (by omega), r1.2 r (by rw [List.length_append]; omega) (by omega), List.getElem?_append_left hr]
theorem ba_B : ∀ (b : Bd) {k f n q : Nat} {W acc : List D} {post : List (List Nat)} {S : Store} {a3 a4 a5 a6 : Option D} (hx : ∀ x, lvB x < lvB b → cnB x ≤ cnB b → 1 ≤ k ∧ BaOk fu x k) (hW : W.drop n = WD (wdB b ++ post)) (hs : Stop post) (hq : S[q]? = some (.lst acc)) (ha : acc.length + cnB b ≤ 1000) (hf : cnB b < f),
    ∃ S' b3 b4 b5 b6, gWhl2 (callK Gam fu k) fu none baTest baBody f [some (.lst W), some (.int (n : Nat)), some (.ptr q), a3, a4, a5, a6] S = .nx [some (.lst W), some (.int ((n + (wdB b).length : Nat))), some (.ptr q), b3, b4, b5, b6] S' ∧ S'[q]? = some (.lst (acc ++ bdL b)) ∧ Kr q S S'
  | .nil, k, f, n, q, W, acc, post, S, a3, a4, a5, a6, hx, hW, hs, hq, ha, hf => by
    obtain ⟨f, rfl⟩ : ∃ f', f = f' + 1 := ⟨f - 1, by omega⟩
    refine ⟨S, a3, a4, a5, a6, ?_, by simpa [bdL] using hq, Kr.refl ..⟩
    rw [wdB, List.nil_append] at hW
    have ht : ev (callK Gam fu k) none baTest [some (.lst W), some (.int (n : Nat)), some (.ptr q), a3, a4, a5, a6] S = .ok (.bl false) S := by
      rcases hs with rfl | ⟨r, rfl⟩
      · have hn : ¬ (n : Int) < (W.length : Nat) := by
          have := congrArg List.length hW
          rw [List.length_drop, WD_nil, List.length_nil] at this
          omega
        clear hx hW hq ha hf
        walk_at "fh"
        repeat (first | (simp only [hn]) | walk_at "fh")
      · obtain ⟨h1, h2, _⟩ := drop_at (show W.drop n = .str [41] :: WD r from hW)
        have hl : lengths.lookup [41] = none := rfl
        clear hx hW hq ha hf
        walk_at "fh"
        repeat (first | (simp only [h1, h2, hl]) | walk_at "fh")
        rfl
    rw [whl_succ, ht, Res.out_ok, gWhl_f]
    rfl
  | .cons s b, k, f, n, q, W, acc, post, S, a3, a4, a5, a6, hx, hW, hs, hq, ha, hf => by
    obtain ⟨f, rfl⟩ : ∃ f', f = f' + 1 := ⟨f - 1, by omega⟩
    rw [cnB] at ha hf
    have h1 : 1 ≤ cnS s := by cases s <;> simp [cnS]
    rw [wdB, List.append_assoc] at hW
    obtain ⟨ht, S1, c3, c4, c5, c6, e1, g1, r1, d1⟩ := ba_S (fu := fu) (a3 := a3) (a4 := a4) (a5 := a5) (a6 := a6) (fun x hl hn => hx x (by rw [lvB]; omega) (by rw [cnB]; omega)) hW hq (by omega)
    obtain ⟨S2, b3, b4, b5, b6, e2, g2, r2⟩ := ba_B b (f := f) (a3 := c3) (a4 := c4) (a5 := c5) (a6 := c6) (fun x hl hn => hx x (by rw [lvB]; omega) (by rw [cnB]; omega)) d1 hs g1 (by rw [List.length_append, List.length_singleton]; omega) (by omega)
    refine ⟨S2, b3, b4, b5, b6, ?_, ?_, r1.trans r2⟩
    · rw [whl_succ, ht, Res.out_ok, gWhl_t, e1, Out.seq_nx, e2, wdB, List.length_append, Nat.add_assoc]
    · rw [g2, bdL, List.append_assoc]; rfl
theorem body_at_ok (hfu : 1000 < fu) : ∀ (k : Nat) (b : Bd), lvB b ≤ k → cnB b ≤ 1000 → BaOk fu b (k + 1)
  | k, b, hl, hc, W, n, post, S, hW, hs => by
    obtain ⟨S', b3, b4, b5, b6, e, g, r⟩ := ba_B (fu := fu) b (k := k) (f := fu) (q := S.length) (acc := []) (S := S ++ [.lst []]) (a3 := none) (a4 := none) (a5 := none) (a6 := none) (fun x hx hn => by
      obtain ⟨k, rfl⟩ : ∃ k', k = k' + 1 := ⟨k - 1, by omega⟩
      exact ⟨by omega, body_at_ok hfu k x (by omega) (by omega)⟩) hW hs (by simp) (by simp; omega) (by omega)
    rw [List.nil_append] at g
    have l1 := r.1
    rw [List.length_append, List.length_singleton] at l1
    refine ⟨S', ?_, by omega, fun r' hr => ?_⟩
    · rw [c_body_at]
      unfold B_body_at
      generalize hSl : S.length = sl at *
      clear hl hc hW hs r l1
      walk_at "fh"
      repeat (first | (simp only [e, g, hSl]) | walk_at "fh")
      rfl
    · rw [r.2 r' (by rw [List.length_append]; omega) (by omega), List.getElem?_append_left hr]
end
/-! k13. -/
section
variable {fu k p : Nat} {ns : List Int} {S : D} {μ : Store}
theorem read_ok {b : Bd} (hfu : 1000 < fu) (h1 : lvB b ≤ 5) (h2 : cnB b ≤ 30) : ∃ μ', callK Gam fu (k + 8) .read [.str (txt b)] μ = .ok (prD b) μ' ∧ Kp μ.length μ μ' := by
  obtain ⟨μ', e, kp⟩ := body_at_ok hfu (k + 6) b (by omega) (by omega) (WD (wdB b)) 0 [] μ (by rw [List.drop_zero, List.append_nil]) (.inl rfl)
  rw [Nat.zero_add] at e
  have n := need_program_ok (fu := fu) (k := k) (μ := μ') h1 h2
  have hl := WD_len (wdB b)
  have c : ¬ (((wdB b).length : Nat) : Int) < (((WD (wdB b)).length : Nat) : Int) := by omega
  have q := eqD_str μ (txt b) [] (txt_all b) rfl
  have ze : ((0 : Nat) : Int) = 0 := rfl
  rw [ze] at e
  refine ⟨μ', ?_, kp⟩
  rw [c_read]
  unfold B_read
  by_cases hb : wdB b = []
  · have ht : txt b = [] := (join_nil (wdB_ok b)).mpr hb
    have q' : eqD μ (.str (txt b)) (.str []) = some true := by rw [q, ht]; rfl
    rw [hb, WD_nil] at e c
    rw [List.length_nil] at e
    have c0 : decide (((0 : Nat) : Int) < ((0 : Nat) : Int)) = false := by decide
    generalize prD b = PD at *
    generalize txt b = TT at *
    clear h1 h2 kp hl hb ht q ze
    walk_at "fh"
    repeat (first | (simp only [q', e, n, c0]) | walk_at "fh")
  · have ht : txt b ≠ [] := fun h => hb ((join_nil (wdB_ok b)).mp h)
    have q' : eqD μ (.str (txt b)) (.str []) = some false := by rw [q]; cases hT : txt b with | nil => exact absurd hT ht | cons _ _ => rfl
    have sp := split_words (μ := μ) h2 hb
    generalize prD b = PD at *
    generalize txt b = TT at *
    generalize WD (wdB b) = WW at *
    clear h1 h2 kp hl hb ht q ze
    walk_at "fh"
    repeat (first | (simp only [q', sp, e, n, c]) | walk_at "fh")
theorem bdL_len : ∀ b : Bd, (bdL b).length ≤ cnB b
  | .nil => Nat.le_refl _
  | .cons s b => by
    have := bdL_len b
    have : 1 ≤ cnS s := by cases s <;> simp [cnS]
    rw [bdL, cnB, List.length_cons]
    omega
mutual
theorem al_S : ∀ (s : Stp) (k : Nat) (μ : Store), 2 * lvS s ≤ k → cnS s ≤ 1000 → callK Gam fu (k + 1) .law_alike [stD s, stD s] μ = .ok (.bl true) μ
  | .act w, k, μ, h, _ => by
    rw [lvS] at h
    obtain ⟨k, rfl⟩ : ∃ k', k = k' + 1 := ⟨k - 1, by omega⟩
    rw [stD]
    refine alike_tup (by simp) fun d hd => ?_
    rw [List.mem_singleton] at hd
    subst hd
    exact alike_str (by cases w <;> decide)
  | .ifs a x y, k, μ, h, hc => by
    rw [lvS] at h
    rw [cnS] at hc
    obtain ⟨k, rfl⟩ : ∃ k', k = k' + 2 := ⟨k - 2, by omega⟩
    rw [stD]
    refine alike_tup (by simp) fun d hd => ?_
    simp only [List.mem_cons, List.not_mem_nil, or_false] at hd
    rcases hd with rfl | rfl | rfl | rfl
    · exact alike_str (by decide)
    · exact alike_str (by cases a <;> decide)
    · have := bdL_len x
      exact alike_tup (by omega) (al_B x k μ (by omega) (by omega))
    · have := bdL_len y
      exact alike_tup (by omega) (al_B y k μ (by omega) (by omega))
  | .whl a x, k, μ, h, hc => by
    rw [lvS] at h
    rw [cnS] at hc
    obtain ⟨k, rfl⟩ : ∃ k', k = k' + 2 := ⟨k - 2, by omega⟩
    rw [stD]
    refine alike_tup (by simp) fun d hd => ?_
    simp only [List.mem_cons, List.not_mem_nil, or_false] at hd
    rcases hd with rfl | rfl | rfl
    · exact alike_str (by decide)
    · exact alike_str (by cases a <;> decide)
    · have := bdL_len x
      exact alike_tup (by omega) (al_B x k μ (by omega) (by omega))
theorem al_B : ∀ (b : Bd) (k : Nat) (μ : Store), 2 * lvB b ≤ k → cnB b ≤ 1000 → ∀ d ∈ bdL b, callK Gam fu (k + 1) .law_alike [d, d] μ = .ok (.bl true) μ
  | .nil, k, μ, h, _, d, hd => by rw [bdL] at hd; cases hd
  | .cons s b, k, μ, h, hc, d, hd => by
    rw [lvB] at h
    rw [cnB] at hc
    rw [bdL, List.mem_cons] at hd
    rcases hd with rfl | hd
    · exact al_S s k μ (by omega) (by omega)
    · exact al_B b k μ (by omega) (by omega) d hd
end
theorem alike_pr {b : Bd} (h1 : lvB b ≤ 5) (h2 : cnB b ≤ 30) : callK Gam fu (k + 12) .law_alike [prD b, prD b] μ = .ok (.bl true) μ := by
  have := bdL_len b
  exact alike_tup (by omega) (al_B b (k + 10) μ (by omega) (by omega))
abbrev k13Turn : Ss := (.cons (.asg 3 (.call .law_program_k04 (.cons (.var 1) (.cons (.con (.int 30)) .nil))))
  (.cons (.asg 4 (.mth .join (.con (.str [32])) (.cons (.call .law_words_k12 (.cons (.var 3) .nil)) .nil)))
  (.cons (.asg 5 (.call .read (.cons (.var 4) .nil)))
  (.cons (.ifs (.or (.not (.call .law_alike (.cons (.call .written (.cons (.var 3) .nil)) (.cons (.var 4) .nil)))) (.or (.not (.call .law_alike (.cons (.var 5) (.cons (.var 3) .nil)))) (.cmp .NotEq (.call .written (.cons (.var 5) .nil)) (.var 4)))) (.cons (.ret (.con (.bl false)))
  .nil) .nil)
  (.cons (.asg 6 (.call .law_scene (.cons (.var 1) (.cons (.call .law_size (.cons (.var 1) (.cons (.call .law_cells (.cons (.var 3) .nil)) .nil))) .nil))))
  (.cons (.ifs (.not (.call .law_alike (.cons (.call .ran (.cons (.var 5) (.cons (.var 6) .nil))) (.cons (.call .law_walked_k04 (.cons (.var 3) (.cons (.var 6) .nil))) .nil)))) (.cons (.ret (.con (.bl false)))
  .nil) .nil)
  .nil))))))
theorem k13_turn {i : D} {a2 a3 a4 a5 a6 : Option D} (hfu : 2000000 ≤ fu) (hr : RowAt ns p μ) :
    ∃ (b3 b4 b5 b6 : Option D) (μ' : Store), gBody (callK Gam fu (k + 12)) fu none 2 k13Turn i [some S, some (.ptr p), a2, a3, a4, a5, a6] μ = .nx [some S, some (.ptr p), some i, b3, b4, b5, b6] μ' ∧ RowAt ns p μ' := by
  obtain ⟨b, μ1, e1, r1, _, hl, hc, _⟩ := law_program_ok (fu := fu) (k := k) (m := 30) (by decide) hr
  have hc : cnB b ≤ 30 := by omega
  have e1' : callK Gam fu (k + 12) .law_program_k04 [.ptr p, .int 30] μ = .ok (prD b) μ1 := e1
  have w1 := law_words_ok (fu := fu) (k := k + 6) (μ := μ1) hl hc
  have jm := join_max (b := b) hc
  have ws := WD_strs (wdB b)
  obtain ⟨μ2, e2, k2⟩ := read_ok (fu := fu) (k := k + 4) (μ := μ1) (by omega) hl hc
  have hp1 : p < μ1.length := RowAt.lt r1
  obtain ⟨μ3, e3, k3⟩ := written_ok (fu := fu) (k := k + 4) (μ := μ2) hl hc
  have al1 := alike_str (fu := fu) (k := k + 11) (μ := μ3) (txt_all b)
  have al2 := alike_pr (fu := fu) (k := k) (μ := μ3) hl hc
  obtain ⟨μ4, e4, k4⟩ := written_ok (fu := fu) (k := k + 4) (μ := μ3) hl hc
  have q := eqD_str μ4 (txt b) (txt b) (txt_all b) (txt_all b)
  rw [beq_self_eq_true] at q
  have r4 : RowAt ns p μ4 := Kp.row ((k2.tr k3).tr k4) hp1 r1
  obtain ⟨s, w, h, μ5, μ6, f0, f1, f2, hf, hh, hw, r6, k6⟩ := draw_scene (fu := fu) (k := k) (b := b) hl r4
  obtain ⟨x', o, hx, ho, ne, _⟩ := run_ends (fu := fu) hc hf hh hw hfu
  obtain ⟨μ7, e7, k7⟩ := ran_ok (fu := fu) (k := k + 3) (μ := μ6) hl hc hf hh hx
  obtain ⟨o', μ8, e8, k8, ne', po⟩ := walked_ok (fu := fu) (k := k) (s := s) (μ := μ7) hl hf hh hw (by omega)
  have := ne.one (tB_shift b) ne'
  subst this
  rw [ho] at e7
  have al := alike_oc (μ := μ8) (fu := fu) (k := k + 8) (po.fit hf)
  have hp6 : p < μ6.length := RowAt.lt r6
  have hl7 := k7.1
  refine ⟨some (prD b), some (.str (txt b)), some (prD b), some (scD s), μ8, ?_, Kp.row k8 (by omega) (Kp.row k7 hp6 r6)⟩
  have tx : joinC [32] (wdB b) = txt b := rfl
  generalize prD b = PD at *
  generalize scD s = SD at *
  generalize ocD (some o) = OD at *
  generalize txt b = TT at *
  clear hf hh hw r6 k6 hx ho ne ne' po k7 k8 hp6 hl7 hr hl hc hfu e1 k2 k3 k4 r4 r1 hp1
  walk_at "fh"
  repeat (first | (simp only [e1', w1, ws, jm, tx, e2, e3, al1, al2, e4, q, f0, f1, f2, e7, e8, al]) | walk_at "fh")
theorem law_k13_true (ns : List Int) (hfu : 2000000 ≤ fu) : ∃ μ', callK Gam fu (k + 13) .law_k13 [.rl (ns.map .int)] [] = .ok (.bl true) μ' := by
  rw [c_law_k13]
  unfold B_law_k13
  have hr0 : RowAt ns 0 [O.lst [.rl (ns.map .int), .int 0, .int 0, .int 0]] := ⟨0, 0, 0, by decide, rfl⟩
  obtain ⟨σ1, μ1, f1, b2, b3, b4, b5, b6, i1, i2⟩ := for_vals_inv (xs := rangeFrom 0 1 4) (σ := [some (.rl (ns.map .int)), some (.ptr 0), none, none, none, none, none]) (μ := [O.lst [.rl (ns.map .int), .int 0, .int 0, .int 0]])
    (f := gBody (callK Gam fu (k + 12)) fu none 2 k13Turn)
    (fun i σ' μ' => ∃ b2 b3 b4 b5 b6, σ' = [some (.rl (ns.map .int)), some (.ptr 0), b2, b3, b4, b5, b6] ∧ RowAt ns 0 μ')
    (fun i σ' μ' hi ⟨b2, b3, b4, b5, b6, h2, h3⟩ => by
      subst h2
      obtain ⟨c3, c4, c5, c6, μ2, e2, r2⟩ := k13_turn (S := .rl (ns.map .int)) (fu := fu) (k := k) (i := (rangeFrom 0 1 4)[i]) (a2 := b2) (a3 := b3) (a4 := b4) (a5 := b5) (a6 := b6) hfu h3
      exact ⟨_, _, e2, _, _, _, _, _, rfl, r2⟩)
    ⟨none, none, none, none, none, rfl, hr0⟩
  subst i1
  have b4' : big 4 = true := by decide
  refine ⟨μ1, ?_⟩
  walk_at "fh"
  simp only [List.length_nil, List.nil_append]
  repeat (first | (simp only [b4', f1]) | walk_at "fh")
end
end M
end FH

namespace FH
namespace K13
theorem law_true (ns : List Int) (h : ns.length ≤ 63) : ∃ μ, callK Gam 2000000000 60 .law_k13 [.rl (ns.map .int)] [] = .ok (.bl true) μ := M.law_k13_true (k := 47) ns (by decide)
end K13
end FH
open PySem PySem.W PySem.Calls PyProof.Rows
theorem PySem.Challenge.cw_fieldhand_k13_whole_written_read_and_run_holds : PySem.Challenge.rw_fieldhand_k13_whole_written_read_and_run.Holds := by
  w_on; o_law
  refine HandSHeadRun.head_any (r := OpenLaw.row PySem.Challenge.rw_fieldhand_k13_whole_written_read_and_run) (q := view (OpenLaw.row PySem.Challenge.rw_fieldhand_k13_whole_written_read_and_run).prog [58]) (H := FH.K13.hk) (ob := FH.K13.ob) (M := 3000) (loose := FH.K13.loose) (d := HandSHeadRun.topDef (OpenLaw.row PySem.Challenge.rw_fieldhand_k13_whole_written_read_and_run).prog 58) (kwd := []) FH.K13.ob_eq
    (by kernel_rfl) (fun s => by kernel_rfl) FH.K13.run (by kernel_rfl) (by kernel_rfl) (by kernel_rfl) (by rfl) (by first | assumption | decide +kernel) (by decide +kernel) ⟨rfl, rfl, rfl, rfl, rfl, by decide +kernel⟩ ?hw ?hc
  case hw => w_witness2
  case hc =>
    refine L2.walk_ofE (l := PySem.Challenge.rw_fieldhand_k13_whole_written_read_and_run) (n := 63) (k := 2 * 60) (x := "_law_script") (CX := L2.CX0) rfl (by decide) (by kernel_rfl) ⟨rfl, by decide +kernel, by decide +kernel⟩ ?F (fun _ _ _ _ z => z)
    intro w mg fa h Y G hmg0
    obtain ⟨K, KX, c⟩ := Y
    have hmg : mg (FH.K13.L.fnm .law_k13) = some (.ref fa) := by
      have e : (HandSHeadRun.topDef (OpenLaw.row PySem.Challenge.rw_fieldhand_k13_whole_written_read_and_run).prog 58).name = FH.K13.L.fnm .law_k13 := by kernel_rfl
      rw [← e]
      exact hmg0
    obtain ⟨fd, sp, h1, h2, h3⟩ := FH.K13.L.fact (P := (PySem.Challenge.rw_fieldhand_k13_whole_written_read_and_run).prog) (f := .law_k13) (x := "_law_script") (n := 63) KX G hmg c FH.K13.okAll (by decide +kernel) rfl rfl FH.K13.law_true
    exact ⟨K, fd, sp, KX, h1, h2, h3⟩
