import PyProof.Rows.All
import Wide.All
import OpenK.AllK
import Wide.FinOn
import PySem.Challenge.RW_summedtrees_k00_whole_fractions
import HandS.Text
import PyProof.Rows.StrOr
import KE.KIntText
import HandS.ForMost
import HandS.TupAny
import HandS.OwnEq
import HandS.Exc
import HandS.TryMany
import HandS.IsInst
import HandS.Wide
import HandS.WideBits
import PyProof.NeKinds
import HandS.ExcOwn
import KE.KOpsOwn
import HandS.Defaults
import HandS.CallRecv
import HandS.Comp
import HandS.Iter
import HandS.Zip
import HandS.ExcSuper
import HandS.ExcInit
import HandS.HotCalls
import HandS.HeadHook2
import HandS.HeadHook4
import HandS.HeadEnd
import HandS.Head2
import PyProof.Rows.StrJoinRep
set_option Elab.async false
set_option linter.all false
set_option maxRecDepth 100000
set_option maxRecDepth 100000
set_option maxHeartbeats 4000000
/-! int(text) of up to 4300 digits -/
namespace Mn
open PySem PySem.Calls PySem.NumText PyProof.Rows PySem.W PySem.W.KIN
theorem limit_wp {M : Model} {A : Around} {E : Value → Shared → Prop} {s : Shared} {Q : Nat → Shared → Prop} (hn : s.heap.NoDigits) (h : Q 4300 s) : wpAny M A Builtin.intMaxStrDigits Q E s := by
  obtain ⟨mc, hns, hnone⟩ := hn
  unfold Builtin.intMaxStrDigits
  refine wpAny_bind (wpAny_nsGet hns ?_)
  rw [hnone]
  exact wpAny_pure h
theorem wp_textL {M : Model} {A : Around} {E : Value → Shared → Prop} {s : Shared} {Q : Value → Shared → Prop} {v : Value} {text : List Nat} {n : Int} (hn : s.heap.NoDigits)
    (hr : (int_private% "readNumeral") (if (text.takeWhile (· != 0)).length ≤ 640 then 0 else 4300) 10 (text.takeWhile (· != 0)) = (int_private% "Numeral.value") n)
    (ha : ((text.takeWhile (· != 0)).length == text.length) = true) (h : Q (.int n s.toks) { s with toks := s.toks + 1 }) :
    wpAny M A ((int_private% "intFromText") v text 10) Q E s := by
  by_cases hs : (text.takeWhile (· != 0)).length ≤ 640
  · rw [if_pos hs] at hr
    exact wp_text hs hr ha h
  · rw [if_neg hs] at hr
    obtain ⟨hp, g, d, tk, os⟩ := s
    repeat (any_goals (first
      | assumption
      | (with_reducible refine wpAny_ite_false (decide_eq_false hs) ?_)
      | (with_reducible refine wpAny_ite_true (decide_eq_true ha) ?_)
      | (with_reducible refine limit_wp hn ?_)
      | wp_step))
    all_goals (try rw [hr])
    all_goals (try dsimp only)
    repeat (any_goals (first
      | assumption
      | (with_reducible refine wpAny_ite_true (decide_eq_true ha) ?_)
      | wp_step))
set_option maxHeartbeats 4000000 in
theorem meets_textL {x : PySem.Str} {u : Tok} {n : Int} (hl : x.length ≤ sizeLine) (hn : PySem.intText? x = some n) :
    Meets (Builtin.«int.__new__» ⟨[.type "int", .str x u], []⟩) (fun A R s => s.heap.NoDigits ∧ R (.ok (.ret (.int n s.toks))) { s with toks := s.toks + 1 }) :=
  .of_wp fun prog w A R s h => by
    obtain ⟨hp, g, d, tk, os⟩ := s
    obtain ⟨hd, h⟩ := h
    have f1 := F.conv_sub_int
    have f2 := F.madeHere_int
    have f3 := str_int
    have f4 := str_idx
    have f5 := str_trunc
    have f6 : typeOf (.str x u) = pure (.type "str") := rfl
    have hr : (int_private% "readNumeral") (if (numSeenOf x).length ≤ 640 then 0 else 4300) 10 (numSeenOf x) = (int_private% "Numeral.value") n ∧ ((numSeenOf x).length == (numTextOf x).length) = true := by
      rcases readAny x hl with ⟨m, h1, h2, h3⟩ | ⟨h1, _⟩
      · rw [hn] at h1
        injection h1 with h1
        subst h1
        exact ⟨h3, h2⟩
      · rw [hn] at h1
        cases h1
    have hk := Hid.mk (And.intro hd hr)
    clear hr hl hn hd
    repeat (any_goals (first
      | assumption
      | ((with_reducible show wpAny _ _ ((int_private% "intFromText") _ _ _) _ _ _); refine wp_textL hk.out.1 hk.out.2.1 hk.out.2.2 ?_)
      | wp_step))
    all_goals first | exact ⟨_, rfl, h⟩ | skip
theorem call_textL {prog : Program} {w : World} {A : Around} {E : Value → Shared → Prop} {s : Shared} {Q : Value → Shared → Prop} {x : PySem.Str} {t : Tok} {n : Int} (hd : s.heap.NoDigits) (hn : PySem.intText? x = some n) (hl : x.length ≤ sizeLine) (h : Q (.int n s.toks) { s with toks := s.toks + 1 }) :
    wpAny (model prog w) A (call (.type "int") [.str x t]) Q E s :=
  call_int_1 (meets_textL hl hn) ⟨hd, rfl, h⟩
end Mn

set_option maxRecDepth 100000
/-! Mini: a small language of values. Data that never changes are trees of values (no heap). -/
namespace Mn
open PySem

/-- data: never changed -/
inductive D where
  | non | bl (b : Bool) | int (i : Int) | str (s : Str)
  | tup (l : List D) | lst (l : List D)
  | obj (c : Nat) (l : List D)
  | fn (f : Nat) | cls (c : Nat)
  deriving Inhabited

/-- what a slot holds: data, a place of the store, a list or a dict that this slot alone holds, a dict that is read, an exception -/
inductive A where
  | val (d : D) | ref (n : Nat) | own (l : List D) | dic (ks vs : List D) | fdic (ks vs : List D) | exc (c : Nat) (d : D)
  deriving Inhabited

/-- an object of the store -/
inductive SO where
  | lst (l : List D)
  | ins (c : Nat) (fs : List (Nat × A))
  deriving Inhabited

abbrev Sto := List SO
abbrev Rho := List (Option A)

inductive R (α : Type) where
  | ok (a : α) (S : Sto)
  | ex (c : Nat) (d : D) (S : Sto)
  | st
@[simp] def R.bind {α β : Type} : R α → (α → Sto → R β) → R β
  | .ok a S, f => f a S
  | .ex c d S, _ => .ex c d S
  | .st, _ => .st

/-- no exception leaves -/
@[simp] def R.nox {α : Type} : R α → R α
  | .ok a S => .ok a S
  | .ex _ _ _ => .st
  | .st => .st

/-- a statement's end: next, return, break, continue, exception, stuck -/
inductive SR where
  | nx (ρ : Rho) (S : Sto)
  | rt (a : A) (S : Sto)
  | bk (ρ : Rho) (S : Sto)
  | ct (ρ : Rho) (S : Sto)
  | ex (c : Nat) (d : D) (ρ : Rho) (S : Sto)
  | st

inductive Op where
  | add | sub | mul
  deriving DecidableEq
inductive P1 where
  | len | abs | toInt | toStr | toTup | toLst | all | any | sum | sorted | bits | isN | notN | isInt | isBool | isTup | isLst | isStr | isObj (c : Nat)
  | rng | enum | maxl | minl | item
inductive P2 where
  | lt | le | gt | ge | fdiv | mod | max2 | min2 | idx | inn | notin | rng2 | zip | join | split | part | find
inductive P3 where
  | rng3 | replace

/-- what a for binds -/
inductive B where
  | v (i : Nat)
  | tup (ts : List B)

inductive E where
  | var (i : Nat)
  | k (d : D)
  | p1 (o : P1) (a : E)
  | p2 (o : P2) (a b : E)
  | p3 (o : P3) (a b c : E)
  | sl (a : E) (lo hi : Option E)
  | bin (o : Op) (a b : E)
  | neg (a : E)
  | eq (a b : E) | ne (a b : E)
  | chain (o o' : P2) (a b c : E)
  | and (a b : E) | or (a b : E) | not (a : E)
  | ite (c a b : E)
  | tup (es : List E) | lst (es : List E)
  | fld (a : E) (f : Nat)
  | call (f : Nat) (es : List E)
  | calv (e : E) (es : List E)
  | mk (c : Nat) (es : List E)
  | met (a : E) (m : Nat) (es : List E)
  | comp (elt : E) (t : B) (it : E) (cond : Option E) (own : List Nat)
  | b1 (o : P1) (i : Nat)
  | b2 (o : P2) (i : Nat) (e : E)
  | b2r (o : P2) (e : E) (i : Nat)
  | f1 (o : P1) (a : E) (f : Nat)
  | f2 (o : P2) (a : E) (f : Nat) (e : E)
  | f2r (o : P2) (e : E) (a : E) (f : Nat)
  | xarg (i : Nat)

/-- a target: a slot (that holds a list alone), a field, an item -/
inductive T where
  | v (i : Nat)
  | o (i : Nat)
  | d (i : Nat)
  | f (a : E) (f : Nat)
  | fo (a : E) (f : Nat)
  | fd (a : E) (f : Nat)
  | x (i : Nat) (e : E)
  | tup (ts : List T)

/-- a change of a list or dict that one place holds -/
inductive Mu where
  | append | extend | store

inductive S where
  | set (t : T) (e : E)
  | par (bs : List B) (es : List E)
  | mu1 (m : Mu) (i : Nat) (e : E)
  | mu2 (m : Mu) (i : Nat) (e e' : E)
  | pop (t : T) (i : Nat)
  | fmu1 (m : Mu) (a : E) (f : Nat) (e : E)
  | fmu2 (m : Mu) (a : E) (f : Nat) (e e' : E)
  | rset (a i e : E)
  | expr (e : E)
  | ret (e : E)
  | retl (es : List E)
  | sif (c : E) (a b : List S)
  | swhile (c : E) (b : List S)
  | sfor (t : B) (it : E) (b : List S)
  | raise (c : Nat) (e : E)
  | stry (b : List S) (hs : List (Nat × Option Nat × E))
  | freeze (i : Nat)
  | brk
  | pass

/-! ### the program -/
structure Fn where
  np : Nat
  nl : Nat
  dfl : List D
  scp : Bool
  body : List S
structure Cl where
  init : Nat
  flds : List Nat
  meths : List (Nat × Nat)
  eqm : List Bool
  mu : Bool
structure Prog where
  fn : Nat → Option Fn
  cl : Nat → Option Cl

/-! ### equality -/
def b2i (b : Bool) : Int := if b then 1 else 0
mutual
def eqD (Γ : Prog) : D → D → Bool
  | .non, y => match y with | .non => true | _ => false
  | .bl a, y => match y with | .bl b => a == b | .int j => b2i a == j | _ => false
  | .int i, y => match y with | .bl b => i == b2i b | .int j => i == j | _ => false
  | .str s, y => match y with | .str z => s == z | _ => false
  | .tup l, y => match y with | .tup m => eqDs Γ l m | _ => false
  | .lst l, y => match y with | .lst m => eqDs Γ l m | _ => false
  | .obj c l, y => match y with | .obj d m => c == d && (match Γ.cl c with | some cl => eqDm Γ cl.eqm l m | none => false) | _ => false
  | .fn f, y => match y with | .fn g => f == g | _ => false
  | .cls f, y => match y with | .cls g => f == g | _ => false
def eqDs (Γ : Prog) : List D → List D → Bool
  | [], m => match m with | [] => true | _ => false
  | x :: l, m => match m with | [] => false | y :: m' => eqD Γ x y && eqDs Γ l m'
def eqDm (Γ : Prog) : List Bool → List D → List D → Bool
  | ms, [], m => match m with | [] => true | _ => false
  | ms, x :: l, m => match m with | [] => false | y :: m' => (!(ms.headD true) || eqD Γ x y) && eqDm Γ ms.tail l m'
end
/-! how deep a comparison goes; what is not served goes too deep -/
def tooDeep : Nat := 1000000
mutual
def eqN : D → D → Nat
  | .tup l, y => match y with | .tup m => eqNs l m + 1 | .obj _ _ => tooDeep | .fn _ => tooDeep | .cls _ => tooDeep | _ => 0
  | .lst l, y => match y with | .lst m => eqNs l m + 1 | .obj _ _ => tooDeep | .fn _ => tooDeep | .cls _ => tooDeep | _ => 0
  | .obj c l, y => match y with | .obj d m => eqNs l m + 4 | .fn _ => tooDeep | .cls _ => tooDeep | _ => 4
  | .fn _, _ => tooDeep
  | .cls _, _ => tooDeep
  | .non, y => match y with | .obj _ _ => tooDeep | .fn _ => tooDeep | .cls _ => tooDeep | _ => 0
  | .bl _, y => match y with | .obj _ _ => tooDeep | .fn _ => tooDeep | .cls _ => tooDeep | _ => 0
  | .int _, y => match y with | .obj _ _ => tooDeep | .fn _ => tooDeep | .cls _ => tooDeep | _ => 0
  | .str _, y => match y with | .obj _ _ => tooDeep | .fn _ => tooDeep | .cls _ => tooDeep | _ => 0
def eqNs : List D → List D → Nat
  | [], _ => 0
  | x :: l, m => match m with | [] => 0 | y :: m' => max (eqN x y) (eqNs l m')
end

/-! ### primitives -/
def natPair (i : Nat) (d : D) : D := .tup [.int i, d]
def enumFrom (n : Nat) : List D → List D
  | [] => []
  | d :: l => natPair n d :: enumFrom (n + 1) l
def zipD : List D → List D → List D
  | x :: l, y :: m => .tup [x, y] :: zipD l m
  | _, _ => []
def items : D → Option (List D)
  | .tup l => some l
  | .lst l => some l
  | _ => none
def allBl : List D → Option Bool
  | [] => some true
  | .bl b :: l => (allBl l).map fun r => b && r
  | _ => none
def anyBl : List D → Option Bool
  | [] => some false
  | .bl b :: l => (anyBl l).map fun r => b || r
  | _ => none
def sumI : List D → Option Int
  | [] => some 0
  | .int i :: l => (sumI l).map fun r => i + r
  | .bl b :: l => (sumI l).map fun r => b2i b + r
  | _ => none
def intsD : List D → Option (List Int)
  | [] => some []
  | .int i :: l => (intsD l).map fun r => i :: r
  | _ => none
def strsD : List D → Option (List Str)
  | [] => some []
  | .str s :: l => (strsD l).map fun r => s :: r
  | _ => none
def rangeD (lo : Int) (n : Nat) : List D := (List.range n).map fun (i : Nat) => D.int (lo + (i : Int))
def small62 (i : Int) : Bool := decide (-(2 ^ 62) ≤ i) && decide (i < 2 ^ 62)
def charsD (s : Str) : List D := s.cps.toList.map fun c => D.str ⟨#[c]⟩
def lenOk (n : Nat) : Bool := decide (n ≤ sizeLine)
def mulOk (i j : Int) : Bool := (decide (i.natAbs < 2 ^ 64) || decide (j.natAbs < 2 ^ 64)) || decide (i.natAbs.log2 + j.natAbs.log2 < 1000000)
def divOk (j : Int) : Bool := j != 0 && decide (j.natAbs.log2 < 9000)
def insertI (x : Int) : List Int → List Int
  | [] => [x]
  | y :: l => if x ≤ y then x :: y :: l else y :: insertI x l
def sortI : List Int → List Int
  | [] => []
  | x :: l => insertI x (sortI l)
def cut {α : Type} (xs : List α) (a b : Nat) : List α := (xs.drop a).take (b - a)

/-- isinstance of a built-in type, by its number: int, bool, tuple, list, str -/
def isTy (n : Nat) : D → Option Bool
  | .non => some false
  | .int _ => some (n == 0)
  | .bl _ => some (n == 0 || n == 1)
  | .tup _ => some (n == 2)
  | .lst _ => some (n == 3)
  | .str _ => some (n == 4)
  | .obj _ _ => some false
  | .fn _ => none
  | .cls _ => none
/-- isinstance of an own class -/
def isC (c : Nat) : D → Option Bool
  | .obj d _ => some (c == d)
  | .fn _ => none
  | .cls _ => none
  | _ => some false
def prim1 (Γ : Prog) : P1 → D → Option D
  | .len, .str s => if lenOk s.length then some (.int s.length) else none
  | .len, .tup l => some (.int l.length)
  | .len, .lst l => some (.int l.length)
  | .abs, .int i => some (.int (if i < 0 then -i else i))
  | .toInt, .int i => some (.int i)
  | .toInt, .bl b => some (.int (b2i b))
  | .toInt, .str s => if lenOk s.length then (PySem.intText? s).map .int else none
  | .toStr, .int i => if decide (i.natAbs.log2 < 7000) then some (.str (toString i)) else none
  | .toTup, .tup l => some (.tup l)
  | .toTup, .lst l => some (.tup l)
  | .all, .lst l => (allBl l).map .bl
  | .any, .lst l => (anyBl l).map .bl
  | .bits, .int i => some (.int (Builtin.Int.intBits i : Nat))
  | .isN, .non => some (.bl true)
  | .isN, _ => some (.bl false)
  | .notN, .non => some (.bl false)
  | .notN, _ => some (.bl true)
  | .isInt, d => (isTy 0 d).map .bl
  | .isBool, d => (isTy 1 d).map .bl
  | .isTup, d => (isTy 2 d).map .bl
  | .isLst, d => (isTy 3 d).map .bl
  | .isStr, d => (isTy 4 d).map .bl
  | .isObj c, d => (isC c d).map .bl
  | .rng, .int i => if small62 i then some (.lst (rangeD 0 i.toNat)) else none
  | .item, .str s => if lenOk s.length then some (.lst (charsD s)) else none
  | .item, d => (items d).map .lst
  | _, _ => none

def memD (Γ : Prog) (x : D) : List D → Bool
  | [] => false
  | y :: l => eqD Γ y x || memD Γ x l
def memN (x : D) : List D → Nat
  | [] => 0
  | y :: l => max (eqN y x) (memN x l)
def findD (Γ : Prog) (x : D) : List D → Nat → Option Nat
  | [], _ => none
  | y :: l, n => if eqD Γ y x then some n else findD Γ x l (n + 1)

def prim2 (Γ : Prog) (k : Nat) : P2 → D → D → Option D
  | .lt, .int i, .int j => some (.bl (decide (i < j)))
  | .le, .int i, .int j => some (.bl (decide (i ≤ j)))
  | .gt, .int i, .int j => some (.bl (decide (j < i)))
  | .ge, .int i, .int j => some (.bl (decide (j ≤ i)))
  | .lt, .str s, .str z => some (.bl (decide (s.cps.toList < z.cps.toList)))
  | .le, .str s, .str z => some (.bl (!decide (z.cps.toList < s.cps.toList)))
  | .fdiv, .int i, .int j => if divOk j then some (.int (i.fdiv j)) else none
  | .mod, .int i, .int j => if j != 0 then some (.int (i.fmod j)) else none
  | .max2, .int i, .int j => some (.int (if j > i then j else i))
  | .min2, .int i, .int j => some (.int (if j < i then j else i))
  | .idx, .tup l, .int i => L2.atI l i
  | .idx, .lst l, .int i => L2.atI l i
  | .idx, .str s, .int i => if lenOk s.length then (L2.atI s.cps.toList i).map fun c => .str ⟨#[c]⟩ else none
  | .inn, .str s, .str z => some (.bl (!(Builtin.Str.occurrences z s 0 z.length 1).isEmpty))
  | .notin, .str s, .str z => some (.bl (Builtin.Str.occurrences z s 0 z.length 1).isEmpty)
  | .rng2, .int i, .int j => if small62 i && small62 j then some (.lst (rangeD i (j - i).toNat)) else none
  | .zip, .tup l, .tup m => some (.lst (zipD l m))
  | .zip, .lst l, .lst m => some (.lst (zipD l m))
  | .part, .str s, .str z => if lenOk s.length && z.length != 0 then (let (a, b, c) := Txt.partition s z; some (.tup [.str a, .str b, .str c])) else none
  | _, _, _ => none

def prim3 (Γ : Prog) : P3 → D → D → D → Option D
  | _, _, _, _ => none
/-- xs[lo:hi] -/
def sliceD (lo hi : Option Int) : D → Option D
  | .tup l => some (.tup (cut l (HT.sIx l.length 0 lo) (HT.sIx l.length l.length hi)))
  | .lst l => some (.lst (cut l (HT.sIx l.length 0 lo) (HT.sIx l.length l.length hi)))
  | .str s => if lenOk s.length then some (.str (L2.cutS s lo hi)) else none
  | _ => none

/-! ### the evaluator -/
/-- what a body is run with: the program, how deep == may go, the calls, an __init__'s call -/
structure Ev where
  Γ : Prog
  k : Nat
  call : Nat → List A → Sto → R A
  init : Nat → List A → Sto → R A

def R.ofO {α : Type} (S : Sto) : Option α → R α
  | some a => .ok a S
  | none => .st
def R.d (o : Option D) (S : Sto) : R A := match o with
  | some d => .ok (.val d) S
  | none => .st

/-- an instance of the store that is done is let go as data -/
def fieldsOf : List Nat → List (Nat × A) → Option (List D)
  | [], [] => some []
  | f :: fs, (g, .val d) :: r => if f = g then (fieldsOf fs r).map (d :: ·) else none
  | _, _ => none
def Ev.make (X : Ev) (c : Nat) (args : List A) (S : Sto) : R A :=
  match X.Γ.cl c with
  | none => .st
  | some cl => match X.init cl.init (.ref S.length :: args) (S ++ [.ins c []]) with
    | .ok (.val .non) S' => if cl.mu then .ok (.ref S.length) S' else
        (match S'[S.length]? with
          | some (.ins c' fs) => (match c' == c && S'.length == S.length + 1, fieldsOf cl.flds fs with
              | true, some l => .ok (.val (.obj c l)) (S'.take S.length)
              | _, _ => .st)
          | _ => .st)
    | .ok _ _ => .st
    | .ex c d S' => .ex c d (S'.take S.length)
    | .st => .st
/-- the method m of a receiver -/
def Ev.mfind (X : Ev) (a : A) (m : Nat) (S : Sto) : Option Nat :=
  match a with
  | .val (.obj c _) => (match X.Γ.cl c with
      | some cl => cl.meths.lookup m
      | none => none)
  | .ref n => (match S[n]? with
      | some (.ins c _) => (match X.Γ.cl c with
          | some cl => cl.meths.lookup m
          | none => none)
      | _ => none)
  | _ => none
def Ev.meth (X : Ev) (a : A) (m : Nat) (args : List A) (S : Sto) : R A := match X.mfind a m S with
  | some f => X.call f (a :: args) S
  | none => .st
/-- the names of operators -/
def Op.nm : Op → Nat
  | .add => 0
  | .sub => 1
  | .mul => 2
def arith : Op → D → D → Option D
  | .add, .int i, .int j => some (.int (i + j))
  | .add, .str s, .str z => if lenOk (s.length + z.length) then some (.str (s ++ z)) else none
  | .add, .tup l, .tup m => if lenOk (l.length + m.length) then some (.tup (l ++ m)) else none
  | .add, .lst l, .lst m => if lenOk (l.length + m.length) then some (.lst (l ++ m)) else none
  | .sub, .int i, .int j => some (.int (i - j))
  | .sub, .bl i, .bl j => some (.int (b2i i - b2i j))
  | .mul, .int i, .int j => if mulOk i j then some (.int (i * j)) else none
  | .mul, .str s, .int j => if small62 j && lenOk (s.length * j.toNat) then some (.str (Txt.mul s j)) else none
  | .mul, .lst l, .int j => if small62 j && lenOk (l.length * j.toNat) then some (.lst (List.replicate j.toNat l).flatten) else none
  | _, _, _ => none
/-- what may stand at the right of an own operator -/
def plainR (c : Nat) : D → Bool
  | .obj d _ => c == d
  | .fn _ => false
  | .cls _ => false
  | _ => true
def Ev.bin (X : Ev) (o : Op) (a b : A) (S : Sto) : R A :=
  match a, b with
  | .val (.obj c l), .val y => if plainR c y then X.meth a o.nm [b] S else .st
  | .val x, .val y => R.d (arith o x y) S
  | _, _ => .st
def Ev.neg (X : Ev) (a : A) (S : Sto) : R A :=
  match a with
  | .val (.int i) => .ok (.val (.int (-i))) S
  | .val (.obj c l) => X.meth a 3 [] S
  | _ => .st
def isObjD : D → Bool
  | .obj _ _ => true
  | _ => false
def Ev.eq (X : Ev) (a b : A) (S : Sto) (neg : Bool) : R A :=
  match a, b with
  | .val x, .val y => if eqN x y ≤ X.k && !(neg && isObjD x) then .ok (.val (.bl (neg != eqD X.Γ x y))) S else .st
  | _, _ => .st
def slotA (ρ : Rho) (i : Nat) : Option A := match ρ[i]? with
  | some (some a) => some a
  | _ => none
/-- a list (a dict) that a slot holds, that a field of an instance of the store holds, as data to be looked at -/
def heldS (S : Sto) (ρ : Rho) (i : Nat) : Option A := match ρ[i]? with
  | some (some (.own l)) => some (.own l)
  | some (some (.dic ks vs)) => some (.dic ks vs)
  | some (some (.fdic ks vs)) => some (.dic ks vs)
  | some (some (.val d)) => some (.val d)
  | some (some (.ref n)) => (match S[n]? with
      | some (.lst l) => some (.own l)
      | _ => some (.ref n))
  | _ => none
def fieldS (Γ : Prog) (S : Sto) (n f : Nat) : Option A := match S[n]? with
  | some (.ins c fs) => (match Γ.cl c with
      | some cl => if cl.flds.contains f then fs.lookup f else none
      | none => none)
  | _ => none
def heldF (Γ : Prog) (S : Sto) (a : A) (f : Nat) : Option A := match a with
  | .ref n => (match fieldS Γ S n f with
      | some (.own l) => some (.own l)
      | some (.dic ks vs) => some (.dic ks vs)
      | some (.val d) => some (.val d)
      | _ => none)
  | .val (.obj c l) => (match Γ.cl c with
      | some cl => (match cl.flds.idxOf? f with | some i => (l[i]?).map .val | none => none)
      | none => none)
  | _ => none
/-- the place of a key -/
def keyIx (Γ : Prog) (x : D) : List D → Option Nat
  | [] => none
  | y :: l => if eqD Γ y x then some 0 else (keyIx Γ x l).map (· + 1)
def look1 (Γ : Prog) (o : P1) : A → Option D
  | .val d => prim1 Γ o d
  | .ref _ => (match o with | .isN => some (.bl false) | .notN => some (.bl true) | _ => none)
  | .own l => (match o with | .item => none | .enum => none | _ => prim1 Γ o (.lst l))
  | .dic ks _ => (match o with
      | .len => some (.int ks.length)
      | .sorted => prim1 Γ .sorted (.lst ks)
      | .item => some (.lst ks)
      | _ => none)
  | _ => none
def look2 (Γ : Prog) (k : Nat) (o : P2) : A → D → Option D
  | .val d, y => prim2 Γ k o d y
  | .own l, y => prim2 Γ k o (.lst l) y
  | .dic ks vs, y => (match o with
      | .idx => (keyIx Γ y ks).bind fun i => vs[i]?
      | _ => none)
  | _, _ => none
def look2r (Γ : Prog) (k : Nat) (o : P2) : D → A → Option D
  | y, .val d => prim2 Γ k o y d
  | y, .own l => prim2 Γ k o y (.lst l)
  | y, .dic ks vs => (match o with
      | .inn => some (.bl (keyIx Γ y ks).isSome)
      | .notin => some (.bl (!(keyIx Γ y ks).isSome))
      | _ => none)
  | _, _ => none
def vals : List A → Option (List D)
  | [] => some []
  | .val d :: l => (vals l).map (d :: ·)
  | _ => none
/-! a target takes data -/
mutual
def bindT : B → D → Rho → Option Rho
  | .v i, d, ρ => if i < ρ.length then some (ρ.set i (some (.val d))) else none
  | .tup ts, d, ρ => match d with
    | .tup l => bindTs ts l ρ
    | _ => none
def bindTs : List B → List D → Rho → Option Rho
  | [], l, ρ => match l with | [] => some ρ | _ => none
  | t :: ts, l, ρ => match l with
    | [] => none
    | d :: l' => (bindT t d ρ).bind fun ρ' => bindTs ts l' ρ'
end
def wipeR (ρ : Rho) : List Nat → Rho
  | [] => ρ
  | v :: vs => (wipeR ρ vs).set v none
/-- the items of a comprehension -/
def compL (f : D → Sto → R (Option D)) : List D → Sto → R (List D)
  | [], S => .ok [] S
  | x :: l, S => (f x S).bind fun o S1 => (compL f l S1).bind fun r S2 => .ok (match o with | some d => d :: r | none => r) S2

/-- a slice's bound -/
def partV (r : R A) : R (Option Int) := r.bind fun y S => (match y with | .val (.int i) => .ok (some i) S | _ => .st)
mutual
def evalE (X : Ev) : E → Rho → Sto → R A
  | .var i, ρ, S => (match ρ[i]? with
      | some (some (.val d)) => .ok (.val d) S
      | some (some (.ref n)) => .ok (.ref n) S
      | some (some (.fdic ks vs)) => .ok (.fdic ks vs) S
      | _ => .st)
  | .k d, _, S => .ok (.val d) S
  | .p1 o a, ρ, S => (evalE X a ρ S).bind fun x S1 => R.d (look1 X.Γ o x) S1
  | .p2 o a b, ρ, S => (evalE X a ρ S).bind fun x S1 => (evalE X b ρ S1).bind fun y S2 => (match x, y with
      | .val d, .val e => R.d (prim2 X.Γ X.k o d e) S2
      | _, _ => .st)
  | .p3 o a b c, ρ, S => (evalE X a ρ S).bind fun x S1 => (evalE X b ρ S1).bind fun y S2 => (evalE X c ρ S2).bind fun z S3 => (match x, y, z with
      | .val d, .val e, .val g => R.d (prim3 X.Γ o d e g) S3
      | _, _, _ => .st)
  | .sl a lo hi, ρ, S => (evalE X a ρ S).bind fun x S1 => (match lo with
      | none => R.ok (none : Option Int) S1
      | some e => partV (evalE X e ρ S1)).bind fun l S2 => (match hi with
      | none => R.ok (none : Option Int) S2
      | some e => partV (evalE X e ρ S2)).bind fun h S3 => (match x with
        | .val d => R.d (sliceD l h d) S3
        | _ => .st)
  | .bin o a b, ρ, S => (evalE X a ρ S).bind fun x S1 => (evalE X b ρ S1).bind fun y S2 => X.bin o x y S2
  | .neg a, ρ, S => (evalE X a ρ S).bind fun x S1 => X.neg x S1
  | .eq a b, ρ, S => (evalE X a ρ S).bind fun x S1 => (evalE X b ρ S1).bind fun y S2 => X.eq x y S2 false
  | .ne a b, ρ, S => (evalE X a ρ S).bind fun x S1 => (evalE X b ρ S1).bind fun y S2 => X.eq x y S2 true
  | .chain o o' a b c, ρ, S => (evalE X a ρ S).bind fun x S1 => (evalE X b ρ S1).bind fun y S2 => (match x, y with
      | .val d, .val e => (match prim2 X.Γ X.k o d e with
          | some (.bl true) => (evalE X c ρ S2).bind fun z S3 => (match z with | .val g => R.d (prim2 X.Γ X.k o' e g) S3 | _ => .st)
          | some (.bl false) => .ok (.val (.bl false)) S2
          | _ => .st)
      | _, _ => .st)
  | .and a b, ρ, S => (evalE X a ρ S).bind fun x S1 => (match x with
      | .val (.bl true) => evalE X b ρ S1
      | .val (.bl false) => .ok (.val (.bl false)) S1
      | _ => .st)
  | .or a b, ρ, S => (evalE X a ρ S).bind fun x S1 => (match x with
      | .val (.bl true) => .ok (.val (.bl true)) S1
      | .val (.bl false) => evalE X b ρ S1
      | _ => .st)
  | .not a, ρ, S => (evalE X a ρ S).bind fun x S1 => (match x with
      | .val (.bl b) => .ok (.val (.bl (!b))) S1
      | _ => .st)
  | .ite c a b, ρ, S => (evalE X c ρ S).bind fun x S1 => (match x with
      | .val (.bl true) => evalE X a ρ S1
      | .val (.bl false) => evalE X b ρ S1
      | _ => .st)
  | .tup es, ρ, S => (evalEs X es ρ S).bind fun xs S1 => R.d ((vals xs).map .tup) S1
  | .lst es, ρ, S => (evalEs X es ρ S).bind fun xs S1 => R.d ((vals xs).map .lst) S1
  | .fld a f, ρ, S => (evalE X a ρ S).bind fun x S1 => (match x with
      | .val (.obj c l) => (match X.Γ.cl c with
          | some cl => (match cl.flds.idxOf? f with | some i => R.d l[i]? S1 | none => .st)
          | none => .st)
      | .ref n => (match fieldS X.Γ S1 n f with | some (.val d) => .ok (.val d) S1 | _ => .st)
      | _ => .st)
  | .call f es, ρ, S => (evalEs X es ρ S).bind fun xs S1 => X.call f xs S1
  | .calv e es, ρ, S => (evalE X e ρ S).bind fun x S1 => (match x with
      | .val (.fn f) => (evalEs X es ρ S1).bind fun xs S2 => X.call f xs S2
      | .val (.cls c) => (evalEs X es ρ S1).bind fun xs S2 => X.make c xs S2
      | _ => .st)
  | .mk c es, ρ, S => (evalEs X es ρ S).bind fun xs S1 => X.make c xs S1
  | .met a m es, ρ, S => (evalE X a ρ S).bind fun x S1 => (match X.mfind x m S1 with
      | some f => (evalEs X es ρ S1).bind fun xs S2 => X.call f (x :: xs) S2
      | none => .st)
  | .comp elt t it cond own, ρ, S => (evalE X it ρ S).bind fun x S1 => (match x with
      | .val (.lst l) => (compL (fun d S => match bindT t d (wipeR ρ own) with
          | none => .st
          | some ρ1 => (match cond with
              | none => (evalE X elt ρ1 S).nox.bind fun y S2 => (match y with | .val e => .ok (some e) S2 | _ => .st)
              | some c => (evalE X c ρ1 S).nox.bind fun b S2 => (match b with
                  | .val (.bl true) => (evalE X elt ρ1 S2).nox.bind fun y S3 => (match y with | .val e => .ok (some e) S3 | _ => .st)
                  | .val (.bl false) => .ok none S2
                  | _ => .st))) l S1).bind fun r S2 => if lenOk r.length then .ok (.val (.lst r)) S2 else .st
      | _ => .st)
  | .b1 o i, ρ, S => R.d ((heldS S ρ i).bind (look1 X.Γ o)) S
  | .b2 o i e, ρ, S => (match slotA ρ i with
      | some _ => (evalE X e ρ S).bind fun y S1 => (match y with | .val d => R.d ((heldS S1 ρ i).bind fun h => look2 X.Γ X.k o h d) S1 | _ => .st)
      | none => .st)
  | .b2r o e i, ρ, S => (evalE X e ρ S).bind fun y S1 => (match y with | .val d => R.d ((heldS S1 ρ i).bind fun h => look2r X.Γ X.k o d h) S1 | _ => .st)
  | .f1 o a f, ρ, S => (evalE X a ρ S).bind fun x S1 => R.d ((heldF X.Γ S1 x f).bind (look1 X.Γ o)) S1
  | .f2 o a f e, ρ, S => (evalE X a ρ S).bind fun x S1 => (match heldF X.Γ S1 x f with
      | some (.val h) => (evalE X e ρ S1).bind fun y S2 => (match y with | .val d => R.d (prim2 X.Γ X.k o h d) S2 | _ => .st)
      | _ => .st)
  | .f2r o e a f, ρ, S => (evalE X e ρ S).bind fun y S1 => (evalE X a ρ S1).bind fun x S2 => (match y with | .val d => R.d ((heldF X.Γ S2 x f).bind fun h => look2r X.Γ X.k o d h) S2 | _ => .st)
  | .xarg i, ρ, S => (match ρ[i]? with
      | some (some (.exc _ d)) => .ok (.val d) S
      | _ => .st)
def evalEs (X : Ev) : List E → Rho → Sto → R (List A)
  | [], _, S => .ok [] S
  | e :: es, ρ, S => (evalE X e ρ S).bind fun x S1 => (evalEs X es ρ S1).bind fun xs S2 => .ok (x :: xs) S2
end


/-! ### statements -/
@[simp] def SR.seq : SR → (Rho → Sto → SR) → SR
  | .nx ρ S, f => f ρ S
  | .rt a S, _ => .rt a S
  | .bk ρ S, _ => .bk ρ S
  | .ct ρ S, _ => .ct ρ S
  | .ex c d ρ S, _ => .ex c d ρ S
  | .st, _ => .st
/-- an expression's end, in a statement -/
@[simp] def R.sr {α : Type} (r : R α) (ρ : Rho) (f : α → Sto → SR) : SR := match r with
  | .ok a S => f a S
  | .ex c d S => .ex c d ρ S
  | .st => .st
def SR.ofR (ρ : Rho) (S : Sto) : Option Rho → SR
  | some ρ' => .nx ρ' S
  | none => .st
def putF (f : Nat) (x : A) : List (Nat × A) → List (Nat × A)
  | [] => [(f, x)]
  | (g, y) :: r => if g = f then (g, x) :: r else (g, y) :: putF f x r
def setFld (Γ : Prog) (S : Sto) (a : A) (f : Nat) (x : A) : Option Sto := match a with
  | .ref n => (match S[n]? with
      | some (.ins c fs) => (match Γ.cl c with
          | some cl => if cl.flds.contains f && decide (fs.length < 100) then some (S.set n (.ins c (putF f x fs))) else none
          | none => none)
      | _ => none)
  | _ => none
/-- a list or dict that one place holds is changed -/
def mut1 (m : Mu) (h : A) (d : D) : Option A := match m, h, d with
  | .append, .own l, d => if decide (l.length < sizeLine) then some (.own (l ++ [d])) else none
  | .extend, .own l, .lst r => if lenOk (l.length + r.length) then some (.own (l ++ r)) else none
  | _, _, _ => none
def mut2 (Γ : Prog) (m : Mu) (h : A) (key d : D) : Option A := match m, h, key with
  | .store, .own l, .int i => (L2.ixN l.length i).map fun j => .own (l.set j d)
  | .store, .dic ks vs, key => (match keyIx Γ key ks with
      | some i => some (.dic ks (vs.set i d))
      | none => if decide (ks.length < sizeLine) then some (.dic (ks ++ [key]) (vs ++ [d])) else none)
  | _, _, _ => none
/-- a slot takes a value -/
def putR (ρ : Rho) (i : Nat) (a : A) : Option Rho := if i < ρ.length then some (ρ.set i (some a)) else none
def isVal : A → Bool
  | .val _ => true
  | .ref _ => true
  | .fdic _ _ => true
  | _ => false
mutual
/-- a for's target, as a target -/
def ofB : B → T
  | .v i => .v i
  | .tup ts => .tup (ofBs ts)
def ofBs : List B → List T
  | [] => []
  | t :: ts => ofB t :: ofBs ts
end
mutual
def assignT (X : Ev) : T → A → Rho → Sto → SR
  | .v i, a, ρ, S => if isVal a then SR.ofR ρ S (putR ρ i a) else .st
  | .o i, a, ρ, S => (match a with
      | .own l => SR.ofR ρ S (putR ρ i (.own l))
      | _ => .st)
  | .d i, a, ρ, S => (match a with
      | .dic ks vs => SR.ofR ρ S (putR ρ i (.dic ks vs))
      | _ => .st)
  | .f e f, a, ρ, S => (match a with
      | .val d => (evalE X e ρ S).sr ρ fun y S1 => (match setFld X.Γ S1 y f (.val d) with | some S2 => .nx ρ S2 | none => .st)
      | _ => .st)
  | .fo e f, a, ρ, S => (match a with
      | .own l => (evalE X e ρ S).sr ρ fun y S1 => (match setFld X.Γ S1 y f (.own l) with | some S2 => .nx ρ S2 | none => .st)
      | _ => .st)
  | .fd e f, a, ρ, S => (match a with
      | .dic ks vs => (evalE X e ρ S).sr ρ fun y S1 => (match setFld X.Γ S1 y f (.dic ks vs) with | some S2 => .nx ρ S2 | none => .st)
      | _ => .st)
  | .x i e, a, ρ, S => (match a with
      | .val d => (evalE X e ρ S).sr ρ fun y S1 => (match slotA ρ i, y with
          | some h, .val key => (match mut2 X.Γ .store h key d with | some h' => SR.ofR ρ S1 (putR ρ i h') | none => .st)
          | _, _ => .st)
      | _ => .st)
  | .tup ts, a, ρ, S => (match a with
      | .val (.tup l) => assignTs X ts (l.map .val) ρ S
      | _ => .st)
def assignTs (X : Ev) : List T → List A → Rho → Sto → SR
  | [], l, ρ, S => match l with | [] => .nx ρ S | _ => .st
  | t :: ts, l, ρ, S => match l with
    | [] => .st
    | a :: l' => (assignT X t a ρ S).seq fun ρ1 S1 => assignTs X ts l' ρ1 S1
end

/-- what goes to a target: a list that it is to hold alone, an empty dict, a value -/
def evalP (X : Ev) (t : T) (e : E) (ρ : Rho) (S : Sto) : R A := match t with
  | .d _ => .st
  | .fd _ _ => .st
  | .o _ => (evalE X e ρ S).bind fun a S1 => (match a with | .val (.lst l) => .ok (.own l) S1 | _ => .st)
  | .fo _ _ => (evalE X e ρ S).bind fun a S1 => (match a with | .val (.lst l) => .ok (.own l) S1 | _ => .st)
  | _ => evalE X e ρ S
def evalPs (X : Ev) : List (T × E) → Rho → Sto → R (List A)
  | [], _, S => .ok [] S
  | p :: ps, ρ, S => (evalP X p.1 p.2 ρ S).bind fun x S1 => (evalPs X ps ρ S1).bind fun xs S2 => .ok (x :: xs) S2
/-- turn by turn -/
def iterN {σ τ : Type} (step : σ → σ ⊕ τ) : Nat → σ → Option τ
  | 0, _ => none
  | n + 1, s => match step s with
    | .inl s' => iterN step n s'
    | .inr r => some r
open Classical in
noncomputable def iter {σ τ : Type} (step : σ → σ ⊕ τ) (stuck : τ) (s : σ) : τ :=
  if h : ∃ n r, iterN step n s = some r then Classical.choose (Classical.choose_spec h) else stuck
theorem iterN_more {σ τ : Type} {step : σ → σ ⊕ τ} : ∀ {n : Nat} {s : σ} {r : τ}, iterN step n s = some r → ∀ m, n ≤ m → iterN step m s = some r
  | 0, _, _, h, _, _ => by cases h
  | n + 1, s, r, h, 0, hm => by omega
  | n + 1, s, r, h, m + 1, hm => by
    unfold iterN at h ⊢
    cases e : step s with
    | inl s' =>
      rw [e] at h
      exact iterN_more (step := step) (s := s') h m (by omega)
    | inr q =>
      rw [e] at h
      exact h
theorem iterN_one {σ τ : Type} {step : σ → σ ⊕ τ} {n m : Nat} {s : σ} {r q : τ} (h : iterN step n s = some r) (h' : iterN step m s = some q) : r = q := by
  have a := iterN_more h (n + m) (by omega)
  have b := iterN_more h' (n + m) (by omega)
  exact Option.some.inj (a.symm.trans b)
theorem iter_of {σ τ : Type} {step : σ → σ ⊕ τ} {stuck : τ} {n : Nat} {s : σ} {r : τ} (h : iterN step n s = some r) : iter step stuck s = r := by
  have hx : ∃ n r, iterN step n s = some r := ⟨n, r, h⟩
  unfold iter
  rw [dif_pos hx]
  exact iterN_one (Classical.choose_spec (Classical.choose_spec hx)) h
theorem iter_eq {σ τ : Type} (step : σ → σ ⊕ τ) (stuck : τ) (s : σ) : iter step stuck s = match step s with
    | .inl s' => iter step stuck s'
    | .inr r => r := by
  cases e : step s with
  | inr r => exact iter_of (n := 1) (by unfold iterN; rw [e])
  | inl s' =>
    by_cases hx : ∃ n r, iterN step n s' = some r
    · obtain ⟨n, r, h⟩ := hx
      rw [show iter step stuck s = r from iter_of (n := n + 1) (by unfold iterN; rw [e]; exact h)]
      exact (iter_of h).symm
    · have hy : ¬ ∃ n r, iterN step n s = some r := by
        rintro ⟨n, r, h⟩
        cases n with
        | zero => cases h
        | succ n =>
          unfold iterN at h
          rw [e] at h
          exact hx ⟨n, r, h⟩
      show iter step stuck s = iter step stuck s'
      unfold iter
      rw [dif_neg hx, dif_neg hy]
/-- a loop that comes to an end has a number of turns -/
theorem iter_stuck {σ τ : Type} {step : σ → σ ⊕ τ} {stuck r : τ} {s : σ} (h : iter step stuck s = r) (hr : r ≠ stuck) : ∃ n, iterN step n s = some r := by
  unfold iter at h
  split at h
  · rename_i hx
    have e := Classical.choose_spec (Classical.choose_spec hx)
    rw [h] at e
    exact ⟨_, e⟩
  · exact absurd h.symm hr

/-- for: the items one by one -/
def forL (f : D → Rho → Sto → SR) : List D → Rho → Sto → SR
  | [], ρ, S => .nx ρ S
  | x :: l, ρ, S => match f x ρ S with
    | .nx ρ1 S1 => forL f l ρ1 S1
    | .ct ρ1 S1 => forL f l ρ1 S1
    | .bk ρ1 S1 => .nx ρ1 S1
    | r => r
def turnW (c : Rho → Sto → R A) (b : Rho → Sto → SR) (s : Rho × Sto) : (Rho × Sto) ⊕ SR :=
  match c s.1 s.2 with
  | .ok (.val (.bl true)) S1 => (match b s.1 S1 with
      | .nx ρ2 S2 => .inl (ρ2, S2)
      | .ct ρ2 S2 => .inl (ρ2, S2)
      | .bk ρ2 S2 => .inr (.nx ρ2 S2)
      | r => .inr r)
  | .ok (.val (.bl false)) S1 => .inr (.nx s.1 S1)
  | .ok _ _ => .inr .st
  | .ex k d S1 => .inr (.ex k d s.1 S1)
  | .st => .inr .st
def handle (X : Ev) (c : Nat) (d : D) (ρ : Rho) (S : Sto) : List (Nat × Option Nat × E) → SR
  | [] => .ex c d ρ S
  | (c', o, e) :: hs => if c' = c then (match o with
      | none => (evalE X e ρ S).sr ρ fun a S1 => .rt a S1
      | some i => (match putR ρ i (.exc c d) with
          | some ρ1 => (evalE X e ρ1 S).sr ρ1 fun a S1 => .rt a S1
          | none => .st))
    else handle X c d ρ S hs
mutual
noncomputable def evalS (X : Ev) : S → Rho → Sto → SR
  | .set t e, ρ, S => (evalP X t e ρ S).sr ρ fun a S1 => assignT X t a ρ S1
  | .par bs es, ρ, S => (evalEs X es ρ S).sr ρ fun l S1 => (match vals l with | some ds => SR.ofR ρ S1 (bindTs bs ds ρ) | none => .st)
  | .mu1 m i e, ρ, S => (evalE X e ρ S).sr ρ fun a S1 => (match slotA ρ i, a with
      | some h, .val d => (match mut1 m h d with | some h' => SR.ofR ρ S1 (putR ρ i h') | none => .st)
      | _, _ => .st)
  | .mu2 m i e e', ρ, S => (evalE X e' ρ S).sr ρ fun a S1 => (evalE X e ρ S1).sr ρ fun b S2 => (match slotA ρ i, b, a with
      | some h, .val key, .val d => (match mut2 X.Γ m h key d with | some h' => SR.ofR ρ S2 (putR ρ i h') | none => .st)
      | _, _, _ => .st)
  | .pop t i, ρ, S => (match slotA ρ i with
      | some (.own l) => (match l.getLast? with
          | some d => (match putR ρ i (.own l.dropLast) with
              | some ρ1 => assignT X t (.val d) ρ1 S
              | none => .st)
          | none => .st)
      | _ => .st)
  | .fmu1 m a f e, ρ, S => (evalE X a ρ S).sr ρ fun x S1 => (evalE X e ρ S1).sr ρ fun y S2 => (match x, y with
      | .ref n, .val d => (match (fieldS X.Γ S2 n f).bind fun h => mut1 m h d with
          | some h' => (match setFld X.Γ S2 (.ref n) f h' with | some S3 => .nx ρ S3 | none => .st)
          | none => .st)
      | _, _ => .st)
  | .fmu2 m a f e e', ρ, S => (evalE X e' ρ S).sr ρ fun y S1 => (evalE X a ρ S1).sr ρ fun x S2 => (evalE X e ρ S2).sr ρ fun z S3 => (match x, z, y with
      | .ref n, .val key, .val d => (match (fieldS X.Γ S3 n f).bind fun h => mut2 X.Γ m h key d with
          | some h' => (match setFld X.Γ S3 (.ref n) f h' with | some S4 => .nx ρ S4 | none => .st)
          | none => .st)
      | _, _, _ => .st)
  | .rset a i e, ρ, S => (evalE X e ρ S).sr ρ fun y S1 => (evalE X a ρ S1).sr ρ fun x S2 => (evalE X i ρ S2).sr ρ fun z S3 => (match x, z, y with
      | .ref n, .val (.int j), .val d => (match S3[n]? with
          | some (.lst l) => (match L2.ixN l.length j with | some q => .nx ρ (S3.set n (.lst (l.set q d))) | none => .st)
          | _ => .st)
      | _, _, _ => .st)
  | .expr e, ρ, S => (evalE X e ρ S).sr ρ fun _ S1 => .nx ρ S1
  | .ret e, ρ, S => (evalE X e ρ S).sr ρ fun a S1 => .rt a S1
  | .retl es, ρ, S => (evalEs X es ρ S).sr ρ fun l S1 => (match vals l with | some ds => .rt (.ref S1.length) (S1 ++ [.lst ds]) | none => .st)
  | .sif c a b, ρ, S => (evalE X c ρ S).sr ρ fun x S1 => (match x with
      | .val (.bl true) => evalSs X a ρ S1
      | .val (.bl false) => evalSs X b ρ S1
      | _ => .st)
  | .swhile c b, ρ, S => iter (turnW (evalE X c) (evalSs X b)) .st (ρ, S)
  | .sfor t it b, ρ, S => (evalE X it ρ S).sr ρ fun x S1 => (match x with
      | .val (.lst l) => forL (fun d ρ S => match bindT t d ρ with | some ρ1 => evalSs X b ρ1 S | none => .st) l ρ S1
      | _ => .st)
  | .raise c e, ρ, S => (evalE X e ρ S).sr ρ fun a S1 => (match a with | .val d => .ex c d ρ S1 | _ => .st)
  | .stry b hs, ρ, S => (match evalSs X b ρ S with
      | .ex c d ρ1 S1 => handle X c d ρ1 S1 hs
      | r => r)
  | .freeze i, ρ, S => (match slotA ρ i with
      | some (.own l) => SR.ofR ρ S (putR ρ i (.val (.lst l)))
      | some (.dic ks vs) => SR.ofR ρ S (putR ρ i (.fdic ks vs))
      | _ => .st)
  | .brk, ρ, S => .bk ρ S
  | .pass, ρ, S => .nx ρ S
noncomputable def evalSs (X : Ev) : List S → Rho → Sto → SR
  | [], ρ, S => .nx ρ S
  | s :: l, ρ, S => (evalS X s ρ S).seq fun ρ1 S1 => evalSs X l ρ1 S1
end

/-! ### calls -/
/-- the slots at a body's start: the arguments, the defaults, nothing -/
def startR (fd : Fn) (args : List A) : Option Rho :=
  if args.length ≤ fd.np ∧ fd.np ≤ args.length + fd.dfl.length ∧ fd.np ≤ fd.nl then
    some ((args ++ (fd.dfl.drop (fd.dfl.length - (fd.np - args.length))).map A.val).map some ++ List.replicate (fd.nl - fd.np) none)
  else none
def endR (scp : Bool) (S : Sto) : SR → R A
  | .nx _ S' => .ok (.val .non) (if scp then S'.take S.length else S')
  | .rt (.val d) S' => .ok (.val d) (if scp then S'.take S.length else S')
  | .rt (.ref n) S' => if scp then .st else .ok (.ref n) S'
  | .ex c d _ S' => .ex c d (if scp then S'.take S.length else S')
  | _ => .st
noncomputable def runB (X : Ev) (f : Nat) (args : List A) (S : Sto) : R A :=
  match X.Γ.fn f with
  | none => .st
  | some fd => (match startR fd args with
      | none => .st
      | some ρ => endR fd.scp S (evalSs X fd.body ρ S))
noncomputable def callM (Γ : Prog) : Nat → Nat → List A → Sto → R A
  | 0, _, _, _ => .st
  | 1, f, args, S => runB ⟨Γ, 0, fun _ _ _ => .st, fun _ _ _ => .st⟩ f args S
  | k + 2, f, args, S => runB ⟨Γ, k + 1, callM Γ (k + 1), callM Γ k⟩ f args S
/-- what the bodies at level k are run with -/
noncomputable def ev (Γ : Prog) : Nat → Ev
  | 0 => ⟨Γ, 0, fun _ _ _ => .st, fun _ _ _ => .st⟩
  | k + 1 => ⟨Γ, k + 1, callM Γ (k + 1), callM Γ k⟩
theorem callM_succ (Γ : Prog) (k f : Nat) (args : List A) (S : Sto) : callM Γ (k + 1) f args S = runB (ev Γ k) f args S := by
  cases k <;> rfl
end Mn

set_option maxRecDepth 100000
/-! from the text's syntax to Mini -/
namespace Mn
open PySem

/-- what a module's name is -/
inductive Gm where
  | fn (f : Nat) | cls (c : Nat) | con (d : D) | exc (c : Nat)
def gp (x : String) (g : Gm) : Str × Gm := (x, g)
def ap (x : String) (n : Nat) : Str × Nat := (x, n)
/-- the row's names -/
structure RC where
  gl : List (Str × Gm)
  blt : List Str
  ats : List (Str × Nat)
  /-- fields that hold a list or a dict alone -/
  ofs : List Nat
  /-- the field of an exception's class -/
  xfs : List (Nat × Str)
  /-- the def that is called within an except suite -/
  hot : Nat
/-- a def's: its names by slot, the slots that lists and dicts are changed in, the slots that are let go ahead of a row -/
structure DC where
  N : List Str
  ow : List Nat
  fz : List (Nat × List Nat)
  nw : Bool

def slot? (N : List Str) (sc : Scope) (x : Str) : Option Nat := match sc.names.lookup x with
  | some .local => N.idxOf? x
  | some .cell => N.idxOf? x
  | some .free => N.idxOf? x
  | _ => none
def glob? (G : RC) (sc : Scope) (x : Str) : Option Gm := match sc.names.lookup x with
  | some .globalImplicit => G.gl.lookup x
  | _ => none
def blt? (G : RC) (sc : Scope) (x : Str) : Bool := (match sc.names.lookup x with
  | some .globalImplicit => G.blt.contains x
  | _ => false)
def isCls (n : Str) : Option P1 :=
  if n == "int" then some .isInt else if n == "bool" then some .isBool else if n == "tuple" then some .isTup else if n == "list" then some .isLst else if n == "str" then some .isStr else none
def fun1 (n : Str) : Option P1 :=
  if n == "len" then some .len else if n == "abs" then some .abs else if n == "int" then some .toInt else if n == "str" then some .toStr else if n == "tuple" then some .toTup
  else if n == "all" then some .all else if n == "any" then some .any else none
def cmp2 : CmpOp → Option P2
  | .Lt => some .lt
  | .LtE => some .le
  | .Gt => some .gt
  | .GtE => some .ge
  | .In => some .inn
  | .NotIn => some .notin
  | _ => none
def bin2 : Operator → Option (Op ⊕ P2)
  | .Add => some (.inl .add)
  | .Sub => some (.inl .sub)
  | .Mult => some (.inl .mul)
  | .FloorDiv => some (.inr .fdiv)
  | .Mod => some (.inr .mod)
  | _ => none
def allO {α : Type} : List (Option α) → Option (List α)
  | [] => some []
  | o :: l => o.bind fun a => (allO l).map (a :: ·)
def foldB (op : BoolOp) : List E → Option E
  | [] => none
  | [e] => some e
  | e :: l => (foldB op l).map fun r => match op with | .And => .and e r | .Or => .or e r
mutual
def bvars : B → List Nat
  | .v i => [i]
  | .tup ts => bvarss ts
def bvarss : List B → List Nat
  | [] => []
  | t :: ts => bvars t ++ bvarss ts
end
/-- a for's target -/
def cB (N : List Str) (sc : Scope) : Nat → Expr → Option B
  | 0, _ => none
  | n + 1, e => match e with
    | .Name x _ => (match sc.names.lookup x with
        | some .local => (N.idxOf? x).map .v
        | some .cell => (N.idxOf? x).map .v
        | _ => none)
    | .Tuple es _ _ => (allO (es.map (cB N sc n))).map .tup
    | _ => none
def ownSlots (N : List Str) (scope : Scope) : List (Str × Nat) := scope.names.filterMap fun p => match p.2 with
  | .local => (N.idxOf? p.1).map fun i => (p.1, i)
  | .cell => (N.idxOf? p.1).map fun i => (p.1, i)
  | _ => none
/-- who holds what is looked at: a slot, a field, else a value -/
inductive Who where
  | s (i : Nat) | f (a : Expr) (f : Nat) | e
def who (G : RC) (N : List Str) (sc : Scope) : Expr → Who
  | .Name x _ => (match slot? N sc x with | some i => .s i | none => .e)
  | .Attribute a x _ => (match G.ats.lookup x with | some f => .f a f | none => .e)
  | _ => .e

abbrev Rec := Scope → Expr → Option E
section
variable (G : RC) (N : List Str) (rec : Rec) (sc : Scope)
def c1 (o : P1) (a : Expr) : Option E := match who G N sc a with
  | .s i => some (.b1 o i)
  | .f a' f => (rec sc a').map fun x => .f1 o x f
  | .e => (rec sc a).map fun x => .p1 o x
def c2 (o : P2) (a b : Expr) : Option E := (rec sc b).bind fun y => match who G N sc a with
  | .s i => some (.b2 o i y)
  | .f a' f => (rec sc a').map fun x => .f2 o x f y
  | .e => (rec sc a).map fun x => .p2 o x y
def c2r (o : P2) (a b : Expr) : Option E := (rec sc a).bind fun x => match who G N sc b with
  | .s i => some (.b2r o x i)
  | .f b' f => (rec sc b').map fun y => .f2r o x y f
  | .e => (rec sc b).map fun y => .p2 o x y
def cp2 (o : P2) (a b : Expr) : Option E := (rec sc a).bind fun x => (rec sc b).map fun y => .p2 o x y
def cp3 (o : P3) (a b c : Expr) : Option E := (rec sc a).bind fun x => (rec sc b).bind fun y => (rec sc c).map fun z => .p3 o x y z
def cEs : List Expr → Option (List E)
  | [] => some []
  | e :: es => (rec sc e).bind fun x => (cEs es).map fun xs => x :: xs
/-- what a for walks -/
def cIt (it : Expr) : Option E := match it with
  | .Call (.Name f p) [a] [] p' => if blt? G sc f then
      (if f == "range" then (rec sc a).map (.p1 .rng) else if f == "enumerate" then none else c1 G N rec sc .item (.Call (.Name f p) [a] [] p'))
    else c1 G N rec sc .item (.Call (.Name f p) [a] [] p')
  | .Call (.Name f p) [a, b] [] p' => if blt? G sc f then
      (if f == "range" then cp2 rec sc .rng2 a b else none)
    else c1 G N rec sc .item (.Call (.Name f p) [a, b] [] p')
  | .Call (.Name f p) [a, b, c] [] p' => if blt? G sc f then
      none
    else c1 G N rec sc .item (.Call (.Name f p) [a, b, c] [] p')
  | it => c1 G N rec sc .item it
def cName (x : Str) : Option E := match slot? N sc x with
  | some i => some (.var i)
  | none => (match glob? G sc x with
    | some (.fn f) => some (.k (.fn f))
    | some (.cls c) => some (.k (.cls c))
    | some (.con d) => some (.k d)
    | _ => none)
def cConst (c : Const) : Option E := match c with
  | .none => some (.k .non)
  | .bool b => some (.k (.bl b))
  | .int i => some (.k (.int i))
  | .str s => some (.k (.str s))
  | _ => none
def cBin (a : Expr) (op : Operator) (b : Expr) : Option E := match op with
  | .Add => (rec sc a).bind fun x => (rec sc b).map fun y => .bin .add x y
  | .Sub => (rec sc a).bind fun x => (rec sc b).map fun y => .bin .sub x y
  | .Mult => (rec sc a).bind fun x => (rec sc b).map fun y => .bin .mul x y
  | .FloorDiv => cp2 rec sc .fdiv a b
  | .Mod => cp2 rec sc .mod a b
  | _ => none
def cBool (op : BoolOp) : List Expr → Option E
  | [] => none
  | [e] => rec sc e
  | e :: es => (rec sc e).bind fun x => (cBool op es).map fun y => match op with | .And => .and x y | .Or => .or x y
def cCmp (a : Expr) (op : CmpOp) (b : Expr) : Option E := match op with
  | .Eq => (rec sc a).bind fun x => (rec sc b).map fun y => .eq x y
  | .NotEq => (rec sc a).bind fun x => (rec sc b).map fun y => .ne x y
  | .Is => (match b with | .Constant .none _ _ => c1 G N rec sc .isN a | _ => none)
  | .IsNot => (match b with | .Constant .none _ _ => c1 G N rec sc .notN a | _ => none)
  | .In => c2r G N rec sc .inn a b
  | .NotIn => c2r G N rec sc .notin a b
  | .Lt => cp2 rec sc .lt a b
  | .LtE => cp2 rec sc .le a b
  | .Gt => cp2 rec sc .gt a b
  | .GtE => cp2 rec sc .ge a b
def ord2 : CmpOp → Option P2
  | .Lt => some .lt
  | .LtE => some .le
  | _ => none
def cChain (a : Expr) (op op' : CmpOp) (b c : Expr) : Option E := (ord2 op).bind fun o => (ord2 op').bind fun o' =>
  (rec sc a).bind fun x => (rec sc b).bind fun y => (rec sc c).map fun z => .chain o o' x y z
def cPart : Option Expr → Option (Option E)
  | none => some none
  | some e => (rec sc e).map some
def cSub (a i : Expr) : Option E := match i with
  | .Slice lo hi none _ => (rec sc a).bind fun x => (cPart rec sc lo).bind fun y => (cPart rec sc hi).map fun z => .sl x y z
  | .Slice _ _ (some _) _ => none
  | .Starred _ _ => none
  | i => c2 G N rec sc .idx a i
/-- zip goes to a tuple of names -/
def cItT (t it : Expr) : Option E := match t, it with
  | .Tuple _ _ _, .Call (.Name f p) [a, b] [] p' => if blt? G sc f && f == "zip" then cp2 rec sc .zip a b else cIt G N rec sc it
  | _, it => cIt G N rec sc it
def cComp (elt t it : Expr) (ifs : List Expr) (scope : Scope) : Option E := if L2.blkC N sc scope (ownSlots N scope) then
    (cItT G N rec sc t it).bind fun i => (cB N scope 9 t).bind fun b => if (bvars b).all (fun i => (ownSlots N scope).any fun p => p.2 == i) then (rec scope elt).bind fun x => (match ifs with
      | [] => some (.comp x b i none ((ownSlots N scope).map (·.2)))
      | [c] => (rec scope c).map fun y => .comp x b i (some y) ((ownSlots N scope).map (·.2))
      | _ => none) else none
  else none
def cBlt (f : Str) (as : List Expr) : Option E := match as with
  | [a] => (fun1 f).bind fun o => c1 G N rec sc o a
  | [a, b] => if f == "max" then cp2 rec sc .max2 a b else if f == "min" then cp2 rec sc .min2 a b
      else if f == "isinstance" then (match b with
        | .Name t _ => (match glob? G sc t with
            | some (.cls c) => c1 G N rec sc (.isObj c) a
            | some _ => none
            | none => if blt? G sc t then (isCls t).bind fun o => c1 G N rec sc o a else none)
        | _ => none)
      else none
  | _ => none
def cCall (f : Str) (as : List Expr) : Option E := match slot? N sc f with
  | some i => (cEs rec sc as).map fun xs => .calv (.var i) xs
  | none => (match glob? G sc f with
    | some (.fn g) => (cEs rec sc as).map fun xs => .call g xs
    | some (.cls c) => (cEs rec sc as).map fun xs => .mk c xs
    | some _ => none
    | none => if blt? G sc f then cBlt G N rec sc f as else none)
def cMeth (a : Expr) (m : Str) (as : List Expr) : Option E := match as with
  | [] => if m == "bit_length" then c1 G N rec sc .bits a else (G.ats.lookup m).bind fun f => (rec sc a).map fun x => .met x f []
  | [b] => if m == "partition" then (match b with | .Constant (.str z) _ _ => (rec sc a).map fun x => .p2 .part x (.k (.str z)) | _ => none)
      else (G.ats.lookup m).bind fun f => (rec sc a).bind fun x => (rec sc b).map fun y => .met x f [y]
  | bs => (G.ats.lookup m).bind fun f => (rec sc a).bind fun x => (cEs rec sc bs).map fun ys => .met x f ys
/-- one expression, its parts by rec -/
def cStep (e : Expr) : Option E := match e with
  | .Name x _ => cName G N sc x
  | .Constant c _ _ => cConst c
  | .BinOp a op b _ => cBin rec sc a op b
  | .UnaryOp .USub a _ => (rec sc a).map .neg
  | .UnaryOp .Not a _ => (rec sc a).map .not
  | .BoolOp op vs _ => cBool rec sc op vs
  | .IfExp t a b _ => (rec sc t).bind fun c => (rec sc a).bind fun x => (rec sc b).map fun y => .ite c x y
  | .Tuple es _ _ => if es.length ≤ 1000 then (cEs rec sc es).map .tup else none
  | .List es _ => if es.length ≤ 1000 then (cEs rec sc es).map .lst else none
  | .Compare a [op] [b] _ => cCmp G N rec sc a op b
  | .Compare a [op, op'] [b, c] _ => cChain rec sc a op op' b c
  | .Attribute a x _ => (G.ats.lookup x).bind fun f => (rec sc a).map fun y => .fld y f
  | .Subscript a i _ => cSub G N rec sc a i
  | .ListComp elt [⟨t, it, ifs, as⟩] scope _ => if as == 0 then cComp G N rec sc elt t it ifs scope else none
  | .Call (.Name f _) as [] _ => if f == "super" then none else cCall G N rec sc f as
  | .Call (.Attribute a m ap) as [] p => if ap.endLine == p.line && decide (as.length ≤ 20) then cMeth G N rec sc a m as else none
  | _ => none
end
def cE (G : RC) (N : List Str) : Nat → Rec
  | 0, _, _ => none
  | n + 1, sc, e => cStep G N (cE G N n) sc e

/-! ### statements -/
section
variable (G : RC) (D : DC) (rec : Rec) (sc : Scope)
def loc? (N : List Str) (sc : Scope) (x : Str) : Option Nat := match sc.names.lookup x with
  | some .local => N.idxOf? x
  | some .cell => N.idxOf? x
  | _ => none
/-- a target, by what comes to it -/
def cT0 (t v : Expr) : Option T := match t with
  | .Name x _ => (loc? D.N sc x).map .v
  | .Attribute a x _ => (G.ats.lookup x).bind fun f => (rec sc a).map fun y => .f y f
  | _ => none
/-- the names that are stored from the right -/
def swapC (ts vs : List Expr) : Option (Option (List Str)) :=
  if !(ts.length == 2 || ts.length == 3) || vs.length != ts.length then some none
  else if vs.any (fun e => match e with | .Starred .. => true | _ => false) then some none
  else
    let line := (ts.head?.map (·.pos.line)).getD 0
    let names := ts.filterMap fun e => match e with
      | .Name id pos => if sc.names.lookup id == some .local && pos.line == line then some id else none
      | _ => none
    if names.length != ts.length || names.eraseDups.length != names.length then some none
    else if vs.all (foldedForSure 8) then some none
    else if vs.all (constantsAlone 8) then none
    else some (some names)
def cPar (ts vs : List Expr) : Option S := (swapC sc ts vs).bind fun r => (allO (ts.map (cB D.N sc 8))).bind fun bs => (cEs rec sc vs).bind fun es => match r with
  | none => some (.par bs es)
  | some ns => (allO (ns.map fun y => D.N.idxOf? y)).bind fun is => if decide is.Nodup && ns.all (fun y => sc.names.lookup y == some .local) && ns.length == vs.length then some (.par (is.map .v) es) else none
def isComp : Expr → Bool
  | .ListComp _ _ _ _ => true
  | _ => false
def cAssign (t v : Expr) : Option S := match t with
  | .Tuple ts k p => (match v with
    | .Tuple vs _ _ => if ts.length == vs.length && decide (vs.length ≤ 1000) then cPar D rec sc ts vs else none
    | v => (cB D.N sc 9 (.Tuple ts k p)).bind fun b => (rec sc v).map fun e => .set (ofB b) e)
  | .Subscript a i _ => (match i with
    | .Slice _ _ _ _ => none
    | i => (match a with
      | .Name x _ => (slot? D.N sc x).bind fun j => (rec sc i).bind fun e => (rec sc v).map fun e' => .rset (.var j) e e'
      | _ => none))
  | t => (cT0 G D rec sc t v).bind fun x => (rec sc v).map fun e => .set x e
def cExpr (e : Expr) : Option S := if isComp e then none else (rec sc e).map .expr
def cRaise (e : Expr) : Option S := match e with
  | .Call (.Name x _) [a] [] _ => (match glob? G sc x with
      | some (.exc c) => (rec sc a).map fun y => .raise c y
      | _ => none)
  | _ => none
/-- a suite's answer: the exception in slot i, of the class c -/
def cX (i c : Nat) (e : Expr) : Option E := match e with
  | .Attribute (.Name x _) f _ => if slot? D.N sc x == some i && G.xfs.lookup c == some f then some (.xarg i) else none
  | _ => none
def cH0 (i c : Nat) (e : Expr) : Option E := match e with
  | .Constant k _ _ => cConst k
  | .BinOp (.Constant (.str s) _ _) .Add b _ => (cX G D sc i c b).map fun y => .bin .add (.k (.str s)) y
  | e => cX G D sc i c e
def cH1 (i c : Nat) (e : Expr) : Option E := match e with
  | .Tuple [a, b] _ _ => (cH0 G D sc i c a).bind fun x => (cH0 G D sc i c b).map fun y => .tup [x, y]
  | _ => none
def cH (i c : Nat) (e : Expr) : Option E := match e with
  | .IfExp (.Call (.Name f _) [a] [] _) x y _ => (match glob? G sc f with
      | some (.fn g) => if g == G.hot then (cX G D sc i c a).bind fun z => (cH1 G D sc D.N.length c x).bind fun p => (cH1 G D sc D.N.length c y).map fun q => .ite (.call g [z]) p q else none
      | _ => none)
  | e => cH1 G D sc i c e
def cHd (h : ExceptHandler) : Option (Nat × Option Nat × E) := match h with
  | .ExceptHandler (some (.Name x _)) n [.Return (some e) _] _ => (match glob? G sc x with
      | some (.exc c) => (match n with
          | none => (cH G D sc D.N.length c e).map fun y => (c, none, y)
          | some n => (if sc.names.lookup n == some .local then loc? D.N sc n else none).bind fun i => (cH G D sc i c e).map fun y => (c, some i, y))
      | _ => none)
  | _ => none
def cHds : List ExceptHandler → Option (List (Nat × Option Nat × E))
  | [] => some []
  | h :: hs => (cHd G D sc h).bind fun x => (cHds hs).map fun r => x :: r
end
abbrev RecS := List Stmt → Option (List S)
/-- one statement -/
def cSt (G : RC) (D : DC) (rec : Rec) (recS : RecS) (sc : Scope) (st : Stmt) : Option S := match st with
  | .Assign [t] v _ => cAssign G D rec sc t v
  | .Expr e _ => cExpr rec sc e
  | .Return (some e) _ => if D.nw then (match e with | .List es _ => if es.length ≤ 1000 then (cEs rec sc es).map .retl else none | _ => none) else (rec sc e).map .ret
  | .Return none _ => some (.ret (.k .non))
  | .If c a b _ => (rec sc c).bind fun x => (recS a).bind fun y => (recS b).map fun z => .sif x y z
  | .While c b [] _ => (rec sc c).bind fun x => (recS b).map fun y => .swhile x y
  | .For t it b [] _ => (cB D.N sc 9 t).bind fun x => (cItT G D.N rec sc t it).bind fun i => (recS b).map fun y => .sfor x i y
  | .Raise (some e) none _ => cRaise G rec sc e
  | .Try b (h :: hs) [] [] _ => (recS b).bind fun x => (cHds G D sc (h :: hs)).map fun y => .stry x y
  | .Break _ => some .brk
  | .Pass _ => some .pass
  | _ => none
def cSs (G : RC) (D : DC) (rec : Rec) (sc : Scope) : Nat → RecS
  | 0, _ => none
  | _ + 1, [] => some []
  | n + 1, st :: sts => (cSt G D rec (cSs G D rec sc n) sc st).bind fun x => (cSs G D rec sc n sts).map fun xs => x :: xs
/-- a def's body -/
def cDef (G : RC) (D : DC) (sc : Scope) (body : List Stmt) : Option (List S) := cSs G D (cE G D.N 60) sc 60 body
end Mn

set_option maxRecDepth 100000
/-! how Mini's data lie in the heap -/
namespace Mn
open PySem PySem.Spec PyProof.Rows L2

/-- the row: the written part, where the defs and classes stand, the names of attributes -/
structure Gx where
  K : PySem.W.Frag
  Γ : Prog
  fnA : Nat → Option Addr
  clA : Nat → Option Addr
  exA : Nat → Option Addr
  nm : Nat → Str
  xf : Nat → Str

/-- the frozen part of the heap, where the store's objects stand, what the store owns -/
structure Wd where
  F : Hp
  al : List Addr
  fp : List Addr

theorem _root_.L2.Rd.ext {F F' : Hp} {a : Addr} {u : HO} (h : Rd F a u) (e : Ext F F') : Rd F' a u := by
  rcases h with h | ⟨o, h⟩
  · exact .inl (e _ _ h)
  · exact .inr ⟨o, e _ _ h⟩
mutual
inductive Rep (G : Gx) (F : Hp) : D → V → Prop
  | non : Rep G F .non .non
  | bl (b : Bool) : Rep G F (.bl b) (.bl b)
  | int (i : Int) : Rep G F (.int i) (.int i)
  | str (s : Str) : Rep G F (.str s) (.str s)
  | tup {a : Addr} {vs : List V} {ds : List D} : SqT G.K F a vs → Reps G F ds vs → Rep G F (.tup ds) (.ref a)
  | lst {a : Addr} {vs : List V} {ds : List D} : Rd F a (.lst vs) → Reps G F ds vs → Rep G F (.lst ds) (.ref a)
  | obj {c : Nat} {cl : Cl} {a C dx : Addr} {vs : List V} {ds : List D} : G.Γ.cl c = some cl ∧ cl.mu = false → G.clA c = some C → F a = some (.ins C dx ((cl.flds.map G.nm).zip vs)) → F dx = some (.own a) →
      vs.length = cl.flds.length → Reps G F ds vs → Rep G F (.obj c ds) (.ref a)
  | fn {f : Nat} {a : Addr} : G.fnA f = some a → Rep G F (.fn f) (.ref a)
  | cls {c : Nat} {C : Addr} : G.clA c = some C → Rep G F (.cls c) (.ref C)
inductive Reps (G : Gx) (F : Hp) : List D → List V → Prop
  | nil : Reps G F [] []
  | cons {d : D} {v : V} {ds : List D} {vs : List V} : Rep G F d v → Reps G F ds vs → Reps G F (d :: ds) (v :: vs)
end
section
variable {G : Gx} {F F' : Hp}
mutual
theorem Rep.mono (e : Ext F F') : ∀ {d : D} {v : V}, Rep G F d v → Rep G F' d v
  | _, _, .non => .non
  | _, _, .bl b => .bl b
  | _, _, .int i => .int i
  | _, _, .str s => .str s
  | _, _, .tup h r => .tup (h.ext e) (Reps.mono e r)
  | _, _, .lst h r => .lst (h.ext e) (Reps.mono e r)
  | _, _, .obj h1 h2 h3 h4 h5 r => .obj h1 h2 (e _ _ h3) (e _ _ h4) h5 (Reps.mono e r)
  | _, _, .fn h => .fn h
  | _, _, .cls h => .cls h
theorem Reps.mono (e : Ext F F') : ∀ {ds : List D} {vs : List V}, Reps G F ds vs → Reps G F' ds vs
  | _, _, .nil => .nil
  | _, _, .cons h r => .cons (Rep.mono e h) (Reps.mono e r)
end
theorem Reps.length : ∀ {ds : List D} {vs : List V}, Reps G F ds vs → ds.length = vs.length
  | _, _, .nil => rfl
  | _, _, .cons _ r => by simp [Reps.length r]
theorem Reps.get : ∀ {ds : List D} {vs : List V} {i : Nat} {d : D}, Reps G F ds vs → ds[i]? = some d → ∃ v, vs[i]? = some v ∧ Rep G F d v
  | _, _, _, _, .nil, h => by simp at h
  | _, _, 0, _, .cons h r, e => by simp at e; subst e; exact ⟨_, rfl, h⟩
  | _, _, i + 1, _, .cons h r, e => by
    obtain ⟨v, h1, h2⟩ := Reps.get (i := i) r (by simpa using e)
    exact ⟨v, by simpa using h1, h2⟩
theorem Reps.append : ∀ {ds es : List D} {vs us : List V}, Reps G F ds vs → Reps G F es us → Reps G F (ds ++ es) (vs ++ us)
  | _, _, _, _, .nil, s => s
  | _, _, _, _, .cons h r, s => .cons h (Reps.append r s)
theorem Reps.take : ∀ {ds : List D} {vs : List V} (n : Nat), Reps G F ds vs → Reps G F (ds.take n) (vs.take n)
  | _, _, 0, _ => .nil
  | _, _, _ + 1, .nil => .nil
  | _, _, n + 1, .cons h r => .cons h (Reps.take n r)
theorem Reps.drop : ∀ {ds : List D} {vs : List V} (n : Nat), Reps G F ds vs → Reps G F (ds.drop n) (vs.drop n)
  | _, _, 0, r => r
  | _, _, _ + 1, .nil => .nil
  | _, _, n + 1, .cons _ r => Reps.drop n r
theorem Reps.set {d : D} {v : V} (h : Rep G F d v) : ∀ {ds : List D} {vs : List V} (i : Nat), Reps G F ds vs → Reps G F (ds.set i d) (vs.set i v)
  | _, _, _, .nil => .nil
  | _, _, 0, .cons _ r => .cons h r
  | _, _, i + 1, .cons h' r => .cons h' (Reps.set h i r)
theorem Reps.rep {ds : List D} {vs : List V} (h : Reps G F ds vs) : ∀ k : Nat, Reps G F (List.replicate k ds).flatten (List.replicate k vs).flatten
  | 0 => .nil
  | k + 1 => by
    rw [List.replicate_succ, List.replicate_succ, List.flatten_cons, List.flatten_cons]
    exact h.append (Reps.rep h k)
end

/-- what a slot's, a field's value is in the heap; what it owns -/
inductive AR (G : Gx) (F : Hp) (al : List Addr) (H : Hp) : A → V → List Addr → Prop
  | val {d : D} {v : V} : Rep G F d v → AR G F al H (.val d) v []
  | ref {n : Nat} {a : Addr} : al[n]? = some a → AR G F al H (.ref n) (.ref a) []
  | own {a : Addr} {l : List D} {vs : List V} : H a = some (.lst vs) → Reps G F l vs → AR G F al H (.own l) (.ref a) [a]
  | exc {c : Nat} {d : D} {a dx C : Addr} {v : V} : G.exA c = some C → H dx = some (.xd [(G.xf c, v)]) → Rep G F d v → AR G F al H (.exc c d) (.ref a) [dx]
/-- fields -/
inductive FR (G : Gx) (F : Hp) (al : List Addr) (H : Hp) : List (Nat × A) → List (Str × V) → List Addr → Prop
  | nil : FR G F al H [] [] []
  | cons {f : Nat} {a : A} {v : V} {fs : List (Nat × A)} {fl : List (Str × V)} {p q : List Addr} : (∀ n, a ≠ .ref n) → AR G F al H a v p → FR G F al H fs fl q → FR G F al H ((f, a) :: fs) ((G.nm f, v) :: fl) (p ++ q)
/-- an object of the store -/
inductive SOR (G : Gx) (F : Hp) (al : List Addr) (H : Hp) : SO → Addr → List Addr → Prop
  | lst {a : Addr} {l : List D} {vs : List V} : H a = some (.lst vs) → Reps G F l vs → SOR G F al H (.lst l) a [a]
  | ins {c : Nat} {cl : Cl} {a C dx : Addr} {fs : List (Nat × A)} {fl : List (Str × V)} {p : List Addr} : G.Γ.cl c = some cl → (∀ q ∈ fs, q.1 ∈ cl.flds) → G.clA c = some C → H a = some (.ins C dx fl) → H dx = some (.own a) → FR G F al H fs fl p → SOR G F al H (.ins c fs) a (a :: dx :: p)
inductive SS (G : Gx) (F : Hp) (al : List Addr) (H : Hp) : Sto → List Addr → List Addr → Prop
  | nil : SS G F al H [] [] []
  | cons {o : SO} {a : Addr} {S : Sto} {as p q : List Addr} : SOR G F al H o a p → SS G F al H S as q → SS G F al H (o :: S) (a :: as) (p ++ q)
/-- slots -/
inductive LR (G : Gx) (F : Hp) (al : List Addr) (H : Hp) : Rho → L2.St → List Addr → Prop
  | nil : LR G F al H [] [] []
  | no {x : Option V} {ρ : Rho} {σ : L2.St} {q : List Addr} : LR G F al H ρ σ q → LR G F al H (none :: ρ) (x :: σ) q
  | one {a : A} {v : V} {ρ : Rho} {σ : L2.St} {p q : List Addr} : AR G F al H a v p → LR G F al H ρ σ q → LR G F al H (some a :: ρ) (some v :: σ) (p ++ q)

/-- the store as it lies -/
structure StOk (G : Gx) (W : Wd) (H : Hp) (S : Sto) : Prop where
  st : SS G W.F W.al H S W.al W.fp
  nd : W.fp.Nodup
  fr : ∀ a ∈ W.fp, W.F a = none
  sub : Ext W.F H
/-- the store and the slots -/
structure Ok (G : Gx) (W : Wd) (H : Hp) (ρ : Rho) (σ : L2.St) (S : Sto) (L : List Addr) : Prop where
  s : StOk G W H S
  l : LR G W.F W.al H ρ σ L
  nd : L.Nodup
  dj : ∀ a ∈ L, a ∉ W.fp
  fr : ∀ a ∈ L, W.F a = none
/-- what a run leaves -/
structure Xt (W : Wd) (H : Hp) (W' : Wd) (H' : Hp) : Prop where
  f : Ext W.F W'.F
  al : ∃ l, W'.al = W.al ++ l
  keep : ∀ a o, H a = some o → a ∉ W.fp → H' a = some o
  live : ∀ a o, H a = some o → ∃ o', H' a = some o'
  fp : ∀ a ∈ W'.fp, a ∈ W.fp ∨ H a = none
  fz : ∀ a o, W'.F a = some o → W.F a = some o ∨ H a = none ∨ a ∈ W.fp
section
variable {G : Gx} {W W1 W2 W' : Wd} {H H1 H2 H' : Hp} {ρ : Rho} {σ : L2.St} {S S' : Sto} {L : List Addr} {F F' : Hp} {al al' : List Addr}
theorem Xt.refl : Xt W H W H := ⟨Ext.rfl', ⟨[], by simp⟩, fun _ _ h _ => h, fun _ o h => ⟨o, h⟩, fun _ h => .inl h, fun _ _ h => .inl h⟩
theorem Xt.dead (x : Xt W H W1 H1) {a : Addr} (h : H1 a = none) : H a = none := by
  cases e : H a with
  | none => rfl
  | some o =>
    obtain ⟨o', h'⟩ := x.live a o e
    rw [h] at h'; cases h'
theorem Xt.trans (x : Xt W H W1 H1) (y : Xt W1 H1 W2 H2) : Xt W H W2 H2 where
  f := x.f.trans y.f
  al := by
    obtain ⟨l, e⟩ := x.al
    obtain ⟨m, e'⟩ := y.al
    exact ⟨l ++ m, by rw [e', e, List.append_assoc]⟩
  keep := fun a o h n => y.keep a o (x.keep a o h n) fun z => by
    rcases x.fp a z with q | q
    · exact n q
    · rw [h] at q; cases q
  live := fun a o h => by
    obtain ⟨o', h'⟩ := x.live a o h
    exact y.live a o' h'
  fp := fun a h => by
    rcases y.fp a h with q | q
    · exact x.fp a q
    · exact .inr (x.dead q)
  fz := fun a o h => by
    rcases y.fz a o h with q | q | q
    · exact x.fz a o q
    · exact .inr (.inl (x.dead q))
    · rcases x.fp a q with q | q
      · exact .inr (.inr q)
      · exact .inr (.inl q)
theorem get_pre {α : Type} {l m : List α} {n : Nat} {a : α} (h : l[n]? = some a) : (l ++ m)[n]? = some a := by
  have := List.getElem?_eq_some_iff.mp h
  rw [List.getElem?_append_left this.1]; exact h
theorem AR.live {a : A} {v : V} {p : List Addr} (h : AR G F al H a v p) : ∀ b ∈ p, ∃ o, H b = some o := by
  intro b hb
  cases h with
  | val _ => simp at hb
  | ref _ => simp at hb
  | own h _ => simp at hb; subst hb; exact ⟨_, h⟩
  | exc _ h _ => simp at hb; subst hb; exact ⟨_, h⟩
theorem AR.mono {a : A} {v : V} {p : List Addr} (h : AR G F al H a v p) (e : Ext F F') (ea : ∃ l, al' = al ++ l) (k : ∀ b ∈ p, ∀ o, H b = some o → H' b = some o) : AR G F' al' H' a v p := by
  cases h with
  | val h => exact .val (h.mono e)
  | ref h => obtain ⟨l, rfl⟩ := ea; exact .ref (get_pre h)
  | own h r => exact .own (k _ (by simp) _ h) (r.mono e)
  | exc h1 h2 r => exact .exc h1 (k _ (by simp) _ h2) (r.mono e)
theorem FR.mono {fs : List (Nat × A)} {fl : List (Str × V)} {p : List Addr} (h : FR G F al H fs fl p) (e : Ext F F') (ea : ∃ l, al' = al ++ l) (k : ∀ b ∈ p, ∀ o, H b = some o → H' b = some o) : FR G F' al' H' fs fl p := by
  induction h with
  | nil => exact .nil
  | cons hn h r ih => exact .cons hn (h.mono e ea fun b hb => k b (List.mem_append_left _ hb)) (ih fun b hb => k b (List.mem_append_right _ hb))
theorem SOR.mono {o : SO} {a : Addr} {p : List Addr} (h : SOR G F al H o a p) (e : Ext F F') (ea : ∃ l, al' = al ++ l) (k : ∀ b ∈ p, ∀ o, H b = some o → H' b = some o) : SOR G F' al' H' o a p := by
  cases h with
  | lst h r => exact .lst (k _ (by simp) _ h) (r.mono e)
  | ins g1 g2 h1 h2 h3 r => exact .ins g1 g2 h1 (k _ (by simp) _ h2) (k _ (by simp) _ h3) (r.mono e ea fun b hb => k b (by simp [hb]))
theorem SS.mono {S : Sto} {as p : List Addr} (h : SS G F al H S as p) (e : Ext F F') (ea : ∃ l, al' = al ++ l) (k : ∀ b ∈ p, ∀ o, H b = some o → H' b = some o) : SS G F' al' H' S as p := by
  induction h with
  | nil => exact .nil
  | cons h r ih => exact .cons (h.mono e ea fun b hb => k b (List.mem_append_left _ hb)) (ih fun b hb => k b (List.mem_append_right _ hb))
theorem LR.mono (h : LR G F al H ρ σ L) (e : Ext F F') (ea : ∃ l, al' = al ++ l) (k : ∀ b ∈ L, ∀ o, H b = some o → H' b = some o) : LR G F' al' H' ρ σ L := by
  induction h with
  | nil => exact .nil
  | no h ih => exact .no (ih k)
  | one h r ih => exact .one (h.mono e ea fun b hb => k b (List.mem_append_left _ hb)) (ih fun b hb => k b (List.mem_append_right _ hb))
theorem LR.live (h : LR G F al H ρ σ L) : ∀ b ∈ L, ∃ o, H b = some o := by
  induction h with
  | nil => intro b hb; simp at hb
  | no h ih => exact ih
  | one h r ih =>
    intro b hb
    rcases List.mem_append.mp hb with z | z
    · exact h.live b z
    · exact ih b z
theorem LR.length (h : LR G F al H ρ σ L) : ρ.length = σ.length := by
  induction h with
  | nil => rfl
  | no _ ih => simp [ih]
  | one _ _ ih => simp [ih]
/-- the slots stand -/
theorem Ok.ext (o : Ok G W H ρ σ S L) (s : StOk G W' H' S') (x : Xt W H W' H') : Ok G W' H' ρ σ S' L where
  s := s
  l := o.l.mono x.f x.al fun b hb ob e => x.keep b ob e (o.dj b hb)
  nd := o.nd
  dj := fun a h z => by
    rcases x.fp a z with q | q
    · exact o.dj a h q
    · obtain ⟨ob, e⟩ := o.l.live a h
      rw [q] at e; cases e
  fr := fun a h => by
    cases e : W'.F a with
    | none => rfl
    | some ob =>
      rcases x.fz a ob e with q | q | q
      · rw [o.fr a h] at q; cases q
      · obtain ⟨ob', e'⟩ := o.l.live a h
        rw [q] at e'; cases e'
      · exact absurd q (o.dj a h)
theorem LR.get (h : LR G F al H ρ σ L) {i : Nat} {a : A} (e : ρ[i]? = some (some a)) : ∃ v p, σ[i]? = some (some v) ∧ AR G F al H a v p ∧ ∀ b ∈ p, b ∈ L := by
  induction h generalizing i with
  | nil => simp at e
  | no h ih =>
    cases i with
    | zero => simp at e
    | succ i =>
      obtain ⟨v, p, h1, h2, h3⟩ := ih (i := i) (by simpa using e)
      exact ⟨v, p, by simpa using h1, h2, h3⟩
  | one h r ih =>
    cases i with
    | zero => simp at e; subst e; exact ⟨_, _, rfl, h, fun b hb => List.mem_append_left _ hb⟩
    | succ i =>
      obtain ⟨v, p, h1, h2, h3⟩ := ih (i := i) (by simpa using e)
      exact ⟨v, p, by simpa using h1, h2, fun b hb => List.mem_append_right _ (h3 b hb)⟩
end

/-- the value of an expression: data, a place of the store -/
def AV (G : Gx) (W : Wd) : A → V → Prop
  | .val d, v => Rep G W.F d v
  | .ref n, v => ∃ a, W.al[n]? = some a ∧ v = .ref a
  | _, _ => False
theorem AV.mono {G : Gx} {W W' : Wd} {H H' : Hp} {a : A} {v : V} (h : AV G W a v) (x : Xt W H W' H') : AV G W' a v := by
  cases a with
  | val d => exact Rep.mono x.f h
  | ref n =>
    obtain ⟨a, h1, h2⟩ := h
    obtain ⟨l, e⟩ := x.al
    exact ⟨a, by rw [e]; exact get_pre h1, h2⟩
  | own _ => exact h
  | dic _ _ => exact h
  | fdic _ _ => exact h
  | exc _ _ => exact h
inductive AVs (G : Gx) (W : Wd) : List A → List V → Prop
  | nil : AVs G W [] []
  | cons {a : A} {v : V} {as : List A} {vs : List V} : AV G W a v → AVs G W as vs → AVs G W (a :: as) (v :: vs)
theorem AVs.mono {G : Gx} {W W' : Wd} {H H' : Hp} {as : List A} {vs : List V} (h : AVs G W as vs) (x : Xt W H W' H') : AVs G W' as vs := by
  induction h with
  | nil => exact .nil
  | cons h _ ih => exact .cons (h.mono x) ih
/-- an exception in the air -/
def XR (G : Gx) (W : Wd) (H : Hp) (c : Nat) (d : D) (cls : Value) (dx : Option Addr) : Prop :=
  ∃ C a v, G.exA c = some C ∧ cls = .ref C ∧ dx = some a ∧ H a = some (.xd [(G.xf c, v)]) ∧ Rep G W.F d v

/-- what is wanted behind an expression that ends so -/
def Good {α β : Type} (G : Gx) (WX : WX) (RL : Wd → Hp → α → β → Prop) (σ : L2.St) (W : Wd) (H : Hp) (r : R α) (Q : β → Hp → Prop) : Prop := match r with
  | .ok a S' => ∀ v H' W', StOk G W' H' S' → Xt W H W' H' → RL W' H' a v → Q v H'
  | .ex c d S' => ∀ cls dx H' W', StOk G W' H' S' → Xt W H W' H' → XR G W' H' c d cls dx → WX cls dx σ H'
  | .st => False
section
variable {α β α' β' : Type} {G : Gx} {WXx : WX} {RL : Wd → Hp → α → β → Prop} {RL' : Wd → Hp → α' → β' → Prop} {σ : L2.St} {W W1 W' : Wd} {H H1 H' : Hp} {r : R α} {Q Q' : β → Hp → Prop}
theorem Good.re (g : Good G WXx RL σ W H r Q) (x : Xt W H W1 H1) : Good G WXx RL σ W1 H1 r Q := by
  cases r with
  | ok a S' => exact fun v H' W' s y h => g v H' W' s (x.trans y) h
  | ex c d S' => exact fun cls dx H' W' s y h => g cls dx H' W' s (x.trans y) h
  | st => exact g
theorem Good.mono (g : Good G WXx RL σ W H r Q) (h : ∀ v H', Q v H' → Q' v H') : Good G WXx RL σ W H r Q' := by
  cases r with
  | ok a S' => exact fun v H' W' s y z => h _ _ (g v H' W' s y z)
  | ex c d S' => exact g
  | st => exact g
theorem Good.bind {r : R α'} {f : α' → Sto → R α} {Q1 : β' → Hp → Prop} (g : Good G WXx RL σ W H (r.bind f) Q)
    (h : ∀ a S1 v H1 W1, StOk G W1 H1 S1 → Xt W H W1 H1 → RL' W1 H1 a v → Good G WXx RL σ W1 H1 (f a S1) Q → Q1 v H1) : Good G WXx RL' σ W H r Q1 := by
  cases r with
  | ok a S' => exact fun v H' W' s y z => h a S' v H' W' s y z (Good.re (r := f a S') g y)
  | ex c d S' => exact g
  | st => exact g
end
abbrev RA (G : Gx) : Wd → Hp → A → V → Prop := fun W _ => AV G W
abbrev RAs (G : Gx) : Wd → Hp → List A → List V → Prop := fun W _ => AVs G W

/-! ### the readings -/
/-- what a body is run with: the row, the evaluator, what is wanted of exceptions -/
structure Cc where
  G : Gx
  X : Ev
  wx : WX
def tE (c : Cc) (e : E) : TE := fun σ H Q => ∃ ρ S W L, Ok c.G W H ρ σ S L ∧ Good c.G c.wx (RA c.G) σ W H (evalE c.X e ρ S) Q
def tEs (c : Cc) (es : List E) : TA := fun σ H Q => ∃ ρ S W L, Ok c.G W H ρ σ S L ∧ Good c.G c.wx (RAs c.G) σ W H (evalEs c.X es ρ S) Q
/-- a test -/
def tT (c : Cc) (e : E) : TT := fun σ H Q => ∃ ρ S W L, Ok c.G W H ρ σ S L ∧ Good c.G c.wx (fun _ _ a b => a = .val (.bl b)) σ W H (evalE c.X e ρ S) Q ∧
  (∀ a S', evalE c.X e ρ S = .ok a S' → ∃ b, a = .val (.bl b))
end Mn

set_option maxRecDepth 100000
set_option maxHeartbeats 1000000
/-! soundness, one construct after another -/
namespace Mn
open PySem PySem.Spec PyProof.Rows L2

theorem PE.imp {X : L2.Cx} {e : Expr} {t t' : TE} (h : PE X e t) (i : ∀ σ H Q, t' σ H Q → t σ H Q) : PE X e t' := ⟨fun pins s σ H Q I q => h.run pins s σ H Q I (i σ H Q q)⟩
theorem PA.imp {X : L2.Cx} {es : List Expr} {t t' : TA} (h : PA X es t) (i : ∀ σ H Q, t' σ H Q → t σ H Q) : PA X es t' := ⟨fun pos pins s σ H Q I q => h.run pos pins s σ H Q I (i σ H Q q)⟩
theorem PT.imp {X : L2.Cx} {e : Expr} {t t' : TT} (h : PT X e t) (i : ∀ σ H Q, t' σ H Q → t σ H Q) : PT X e t' := ⟨fun pins s σ H Q I q => h.run pins s σ H Q I (i σ H Q q)⟩

section
variable {G : Gx} {W : Wd} {H : Hp} {S : Sto} {p : Addr} {o : HO} {F : Hp} {al : List Addr} {ρ : Rho} {σ : L2.St} {L : List Addr}
theorem FR.live {fs : List (Nat × A)} {fl : List (Str × V)} {q : List Addr} (h : FR G F al H fs fl q) : ∀ b ∈ q, ∃ o, H b = some o := by
  induction h with
  | nil => intro b hb; simp at hb
  | cons _ h _ ih =>
    intro b hb
    rcases List.mem_append.mp hb with z | z
    · exact h.live b z
    · exact ih b z
theorem SOR.live {o : SO} {a : Addr} {q : List Addr} (h : SOR G F al H o a q) : ∀ b ∈ q, ∃ o, H b = some o := by
  intro b z
  cases h with
  | lst h _ => simp at z; subst z; exact ⟨_, h⟩
  | ins _ _ _ h1 h2 r =>
    rcases List.mem_cons.mp z with z | z
    · subst z; exact ⟨_, h1⟩
    · rcases List.mem_cons.mp z with z | z
      · subst z; exact ⟨_, h2⟩
      · exact r.live b z
theorem SS.live {as q : List Addr} (h : SS G F al H S as q) : ∀ b ∈ q, ∃ o, H b = some o := by
  induction h with
  | nil => intro b hb; simp at hb
  | cons h r ih =>
    intro b hb
    rcases List.mem_append.mp hb with z | z
    · exact h.live b z
    · exact ih b z
/-- a new frozen object -/
theorem StOk.lay (s : StOk G W H S) (hp : H p = none) : StOk G { W with F := upd W.F p o } (upd H p o) S where
  st := s.st.mono (Ext.upd (by
    cases e : W.F p with
    | none => rfl
    | some u => rw [s.sub p u e] at hp; cases hp)) ⟨[], by simp⟩ fun b hb ob e => by
      rw [upd_ne]; exact e
      rintro rfl; rw [hp] at e; cases e
  nd := s.nd
  fr := fun a h => by
    have : a ≠ p := by
      rintro rfl
      obtain ⟨ob, e⟩ := s.st.live a h
      rw [hp] at e; cases e
    show upd W.F p o a = none
    rw [upd_ne this]
    exact s.fr a h
  sub := fun a u e => by
    have e' : upd W.F p o a = some u := e
    by_cases h : a = p
    · subst h; rw [upd_same] at e' ⊢; exact e'
    · rw [upd_ne h] at e' ⊢; exact s.sub a u e'
theorem StOk.dead (s : StOk G W H S) (hp : H p = none) : W.F p = none := by
  cases e : W.F p with
  | none => rfl
  | some u => rw [s.sub p u e] at hp; cases hp
theorem Xt.lay (s : StOk G W H S) (hp : H p = none) : Xt W H { W with F := upd W.F p o } (upd H p o) where
  f := Ext.upd (s.dead hp)
  al := ⟨[], by simp⟩
  keep := fun a u e _ => by rw [upd_ne]; exact e; rintro rfl; rw [hp] at e; cases e
  live := fun a u e => ⟨u, by rw [upd_ne]; exact e; rintro rfl; rw [hp] at e; cases e⟩
  fp := fun a h => .inl h
  fz := fun a u e => by
    have e' : upd W.F p o a = some u := e
    by_cases h : a = p
    · subst h; exact .inr (.inl hp)
    · rw [upd_ne h] at e'; exact .inl e'
end
theorem AVs.vals {G : Gx} {W : Wd} : ∀ {as : List A} {vs : List V} {ds : List D}, AVs G W as vs → vals as = some ds → Reps G W.F ds vs
  | _, _, _, .nil, h => by simp [Mn.vals] at h; subst h; exact .nil
  | a :: as, _, ds, .cons h r, e => by
    cases a with
    | val d =>
      simp only [Mn.vals, Option.map_eq_some_iff] at e
      obtain ⟨es, e1, rfl⟩ := e
      exact .cons h (AVs.vals r e1)
    | ref _ => simp [Mn.vals] at e
    | own _ => simp [Mn.vals] at e
    | dic _ _ => simp [Mn.vals] at e
    | fdic _ _ => simp [Mn.vals] at e
    | exc _ _ => simp [Mn.vals] at e
theorem AVs.length {G : Gx} {W : Wd} {as : List A} {vs : List V} (h : AVs G W as vs) : as.length = vs.length := by
  induction h with
  | nil => rfl
  | cons _ _ ih => simp [ih]

/-! ### names, constants -/
section
variable {c : Cc} {X : L2.Cx}
theorem Good.val {σ : L2.St} {W : Wd} {H : Hp} {S : Sto} {d : D} {v : V} {Q : VK} (s : StOk c.G W H S) (g : Good c.G c.wx (RA c.G) σ W H (.ok (.val d) S) Q) (h : Rep c.G W.F d v) : Q v H :=
  g v H W s Xt.refl h
theorem snd_var {i : Nat} {x : Str} {pos : Pos} (hN : X.N[i]? = some x) (hv : Vis X.env.scope x) (hd : (x == ("__debug__" : Str)) = false) (hcd : (x == ("__classdict__" : Str)) = false) : PE X (.Name x pos) (tE c (.var i)) := by
  refine PE.imp (pe_var hN hv hd hcd) fun σ H Q h => ?_
  obtain ⟨ρ, S, W, L, ok, g⟩ := h
  unfold evalE at g
  cases e : ρ[i]? with
  | none => rw [e] at g; exact g.elim
  | some o =>
    cases o with
    | none => rw [e] at g; exact g.elim
    | some a =>
      obtain ⟨v, p, h1, h2, h3⟩ := ok.l.get e
      rw [e] at g
      cases h2 with
      | val h => exact ⟨v, h1, g v H W ok.s Xt.refl h⟩
      | ref h => exact ⟨_, h1, g _ H W ok.s Xt.refl ⟨_, h, rfl⟩⟩
      | own _ _ => exact g.elim
      | exc _ _ _ => exact g.elim
theorem snd_k {e : Expr} {d : D} {v : V} (h : PE X e (tC v)) (hr : ∀ F, Rep c.G F d v) : PE X e (tE c (.k d)) := by
  refine PE.imp h fun σ H Q h => ?_
  obtain ⟨ρ, S, W, L, ok, g⟩ := h
  unfold evalE at g
  exact Good.val ok.s g (hr _)

/-! ### argument lists, displays -/
theorem snd_nil : PA X [] (tEs c []) := PA.imp pa_nil fun σ H Q h => by
  obtain ⟨ρ, S, W, L, ok, g⟩ := h
  unfold evalEs at g
  exact g [] H W ok.s Xt.refl .nil
theorem snd_cons {e : Expr} {es : List Expr} {m : E} {ms : List E} (he : PE X e (tE c m)) (hs : PA X es (tEs c ms)) (hst : starEach (e :: es) X.env = (false, eval e X.env) :: starEach es X.env) : PA X (e :: es) (tEs c (m :: ms)) := by
  refine PA.imp (pa_cons he hs hst) fun σ H Q h => ?_
  obtain ⟨ρ, S, W, L, ok, g⟩ := h
  unfold evalEs at g
  refine ⟨ρ, S, W, L, ok, g.bind fun a S1 v H1 W1 s1 x1 r1 g1 => ?_⟩
  refine ⟨ρ, S1, W1, L, ok.ext s1 x1, g1.bind fun as S2 vs H2 W2 s2 x2 r2 g2 => ?_⟩
  exact g2 (v :: vs) H2 W2 s2 Xt.refl (.cons (AV.mono r1 x2) r2)
theorem evalEs_len {Y : Ev} : ∀ {ms : List E} {ρ : Rho} {S S' : Sto} {as : List A}, evalEs Y ms ρ S = .ok as S' → as.length = ms.length
  | [], ρ, S, S', as, h => by simp [evalEs] at h; simp [← h.1]
  | m :: ms, ρ, S, S', as, h => by
    simp only [evalEs] at h
    cases e : evalE Y m ρ S with
    | ok a S1 =>
      rw [e] at h
      simp only [R.bind] at h
      cases e2 : evalEs Y ms ρ S1 with
      | ok bs S2 =>
        rw [e2] at h
        simp only [R.bind, R.ok.injEq] at h
        have := evalEs_len e2
        rw [← h.1]; simp [this]
      | ex _ _ _ => rw [e2] at h; simp [R.bind] at h
      | st => rw [e2] at h; simp [R.bind] at h
    | ex _ _ _ => rw [e] at h; simp [R.bind] at h
    | st => rw [e] at h; simp [R.bind] at h
theorem snd_tup {es : List Expr} {ms : List E} {k : Nat} {pos : Pos} (h : PA X es (tEs c ms)) (hl : ms.length ≤ 1000) : PE X (.Tuple es k pos) (tE c (.tup ms)) := by
  refine PE.imp (pe_tup h) fun σ H Q h => ?_
  obtain ⟨ρ, S, W, L, ok, g⟩ := h
  unfold evalE at g
  show tEs c ms σ H _
  cases ev : evalEs c.X ms ρ S with
  | st => rw [ev] at g; exact g.elim
  | ex k d S' => rw [ev] at g; exact ⟨ρ, S, W, L, ok, by rw [ev]; exact g⟩
  | ok as S' =>
    have hlen := evalEs_len ev
    refine ⟨ρ, S, W, L, ok, ?_⟩
    rw [ev] at g ⊢
    intro vs H1 W1 s1 x1 r1
    have e1 := r1.length
    refine ⟨Nat.le_trans (by omega) (Nat.le_of_lt (small1000 (n := 1000) (Nat.le_refl _))), fun p hp => ?_⟩
    have g' : Good c.G c.wx (RA c.G) σ W H (R.d ((vals as).map .tup) S') Q := g
    cases ed : vals as with
    | none => rw [ed] at g'; exact g'.elim
    | some ds =>
      rw [ed] at g'
      refine g' (.ref p) _ { W1 with F := upd W1.F p (.tup vs) } (s1.lay hp) (x1.trans (Xt.lay s1 hp)) ?_
      exact .tup (SqT.of upd_same) ((r1.vals ed).mono (Ext.upd (s1.dead hp)))
theorem snd_lst {es : List Expr} {ms : List E} {pos : Pos} (h : PA X es (tEs c ms)) (hl : ms.length ≤ 1000) : PE X (.List es pos) (tE c (.lst ms)) := by
  refine PE.imp (pe_lst h) fun σ H Q h => ?_
  obtain ⟨ρ, S, W, L, ok, g⟩ := h
  unfold evalE at g
  show tEs c ms σ H _
  cases ev : evalEs c.X ms ρ S with
  | st => rw [ev] at g; exact g.elim
  | ex k d S' => rw [ev] at g; exact ⟨ρ, S, W, L, ok, by rw [ev]; exact g⟩
  | ok as S' =>
    have hlen := evalEs_len ev
    refine ⟨ρ, S, W, L, ok, ?_⟩
    rw [ev] at g ⊢
    intro vs H1 W1 s1 x1 r1
    have e1 := r1.length
    refine ⟨Nat.le_trans (by omega) (Nat.le_of_lt (small1000 (n := 1000) (Nat.le_refl _))), fun p hp => ?_⟩
    have g' : Good c.G c.wx (RA c.G) σ W H (R.d ((vals as).map .lst) S') Q := g
    cases ed : vals as with
    | none => rw [ed] at g'; exact g'.elim
    | some ds =>
      rw [ed] at g'
      refine g' (.ref p) _ { W1 with F := upd W1.F p (.lst vs) } (s1.lay hp) (x1.trans (Xt.lay s1 hp)) ?_
      exact .lst (.inl upd_same) ((r1.vals ed).mono (Ext.upd (s1.dead hp)))
end
end Mn

set_option maxRecDepth 100000
set_option maxHeartbeats 1000000
/-! the row's facts; built-ins of one argument -/
namespace Mn
open PySem PySem.Spec PyProof.Rows L2

/-- a class of the text -/
structure ClsOk (K : PySem.W.Frag) (G : Gx) (c : Nat) (cl : Cl) (C : Addr) : Prop where
  cls : Cls K C
  no : ∀ f ∈ cl.flds, NoAttr K C (G.nm f)
  ca : PySem.W.findIn K (.ref C) "__class__" = some (some (.builtin "object.__class__"))
  cg : PySem.W.specialIn K (.builtin "object.__class__") "__get__" = some (some (.builtin "getset_descriptor.__get__"))
  ct : PySem.W.takesIn K (.builtin "object.__class__") = some true
  cm : PySem.W.mroIn K C (.type "object") = some true
  isb : ∀ t ∈ (["int", "bool", "tuple", "list", "str"] : List String), PySem.W.kitOne K (.ref C) (.type t) = some false
  isc : ∀ t ∈ (["NoneType", "bool", "int", "str", "list", "tuple"] : List String), PySem.W.kitOne K (.type t) (.ref C) = some false
structure RowOk (mg : Str → Option Value) (rc : RC) (G : Gx) : Prop where
  gl : ∀ x g, rc.gl.lookup x = some g → (match g with
    | .fn f => ∃ a, G.fnA f = some a ∧ mg x = some (.ref a)
    | .cls c => ∃ C, G.clA c = some C ∧ mg x = some (.ref C)
    | .con d => ∃ u v, mg x = some u ∧ RelV v u ∧ ∀ F, Rep G F d v
    | .exc c => ∃ C, G.exA c = some C ∧ mg x = some (.ref C))
  bl : ∀ x ∈ rc.blt, mg x = none
  nms : ∀ x f, rc.ats.lookup x = some f → G.nm f = x
  inj : ∀ c cl, G.Γ.cl c = some cl → ∀ f ∈ cl.flds, ∀ g ∈ cl.flds, G.nm f = G.nm g → f = g
  cl : ∀ c C, G.clA c = some C → ∃ cl, G.Γ.cl c = some cl ∧ ClsOk G.K G c cl C
  clc : ∀ c C c' C', G.clA c = some C → G.clA c' = some C' → PySem.W.kitOne G.K (.ref C) (.ref C') = some (c == c')

/-- a thing that is looked at: data, a list that a place holds alone, a place of the store -/
inductive HR (G : Gx) (W : Wd) (H : Hp) : A → V → Prop
  | val {d : D} {v : V} : Rep G W.F d v → HR G W H (.val d) v
  | ref {n : Nat} {a : Addr} : W.al[n]? = some a → HR G W H (.ref n) (.ref a)
  | own {a : Addr} {l : List D} {vs : List V} : H a = some (.lst vs) → Reps G W.F l vs → HR G W H (.own l) (.ref a)
theorem HR.ofAV {G : Gx} {W : Wd} {H : Hp} {a : A} {v : V} (h : AV G W a v) : HR G W H a v := by
  cases a with
  | val d => exact .val h
  | ref n =>
    obtain ⟨a, h1, rfl⟩ := h
    exact .ref h1
  | own _ => exact h.elim
  | dic _ _ => exact h.elim
  | fdic _ _ => exact h.elim
  | exc _ _ => exact h.elim

/-- what a built-in with the answer d gives -/
def Ans (G : Gx) (W : Wd) (H : Hp) (S : Sto) (d : D) (Q : VK) : Prop := ∀ v' H' W', StOk G W' H' S → Xt W H W' H' → Rep G W'.F d v' → Q v' H'
/-- one argument that is looked at -/
def r1 (G : Gx) (o : P1) : List V → Hp → VK → Prop := fun xs H Q => ∃ v h W S d, xs = [v] ∧ StOk G W H S ∧ HR G W H h v ∧ look1 G.Γ o h = some d ∧ Ans G W H S d Q
theorem CallR.imp {X : L2.Cx} {f : Value} {r r' : List V → Hp → VK → Prop} (h : CallR X f r) (i : ∀ xs H Q, r' xs H Q → r xs H Q) : CallR X f r' := fun pins s σ H xs us Q I r q => h pins s σ H xs us Q I r (i xs H Q q)
section
variable {G : Gx} {W : Wd} {H : Hp} {S : Sto} {d : D} {Q : VK} {v : V} {h : A}
theorem Ans.now (a : Ans G W H S d Q) (s : StOk G W H S) (r : Rep G W.F d v) : Q v H := a v H W s Xt.refl r
theorem Ans.lay {p : Addr} {o : HO} (a : Ans G W H S d Q) (s : StOk G W H S) (hp : H p = none) (r : Rep G (upd W.F p o) d (.ref p)) : Q (.ref p) (upd H p o) :=
  a _ _ _ (s.lay hp) (Xt.lay s hp) r
/-- a list to be read -/
theorem HR.list (hs : StOk G W H S) {l : List D} (r : HR G W H h v) (e : h = .own l ∨ h = .val (.lst l)) : ∃ a vs, v = .ref a ∧ SqL G.K H a vs ∧ Reps G W.F l vs := by
  rcases e with rfl | rfl
  · cases r with
    | own h1 h2 => exact ⟨_, _, rfl, SqL.of h1, h2⟩
  · cases r with
    | val r =>
      cases r with
      | lst h1 h2 => exact ⟨_, _, rfl, .inl (h1.ext hs.sub), h2⟩
theorem HR.tup (hs : StOk G W H S) {l : List D} (r : HR G W H (.val (.tup l)) v) : ∃ a vs, v = .ref a ∧ SqT G.K H a vs ∧ Reps G W.F l vs := by
  cases r with
  | val r =>
    cases r with
    | tup h1 h2 => exact ⟨_, _, rfl, h1.ext hs.sub, h2⟩
theorem HR.str {x : Str} (r : HR G W H (.val (.str x)) v) : v = .str x := by
  cases r with
  | val r => cases r; rfl
theorem HR.int {x : Int} (r : HR G W H (.val (.int x)) v) : v = .int x := by
  cases r with
  | val r => cases r; rfl
theorem HR.bl {x : Bool} (r : HR G W H (.val (.bl x)) v) : v = .bl x := by
  cases r with
  | val r => cases r; rfl
/-- what look1 asks -/
theorem look1_cases {o : P1} (e : look1 G.Γ o h = some d) (h1 : o ≠ .isN) (h2 : o ≠ .notN) : (∃ x, h = .val x ∧ prim1 G.Γ o x = some d) ∨ (∃ l, h = .own l ∧ prim1 G.Γ o (.lst l) = some d) ∨ ∃ ks vs, h = .dic ks vs ∨ h = .fdic ks vs := by
  cases h with
  | val x => exact .inl ⟨x, rfl, e⟩
  | own l =>
    refine .inr (.inl ⟨l, rfl, ?_⟩)
    cases o <;> first | exact e | (simp [look1] at e)
  | ref n => cases o <;> first | exact absurd rfl h1 | exact absurd rfl h2 | (simp [look1] at e; done)
  | dic ks vs => exact .inr (.inr ⟨ks, vs, .inl rfl⟩)
  | fdic ks vs => exact .inr (.inr ⟨ks, vs, .inr rfl⟩)
  | exc _ _ => simp [look1] at e
theorem HR.nodic {ks vs : List D} (r : HR G W H h v) (e : h = .dic ks vs ∨ h = .fdic ks vs) : False := by
  rcases e with rfl | rfl <;> cases r
end
section
variable {X : L2.Cx} {G : Gx}
theorem cr_len (hK : X.K = G.K) : CallR X (.builtin "len") (r1 G .len) := CallR.imp call_len fun xs H Q q => by
  obtain ⟨v, h, W, S, d, rfl, s, r, e, a⟩ := q
  rcases look1_cases e (by simp) (by simp) with ⟨x, rfl, f⟩ | ⟨l, rfl, f⟩ | ⟨ks, vs, z⟩
  · cases x with
    | str x =>
      simp only [prim1, lenOk, Option.ite_none_right_eq_some, decide_eq_true_eq, Option.some.injEq] at f
      obtain ⟨e1, rfl⟩ := f
      obtain rfl := r.str
      exact ⟨_, _, rfl, ⟨e1, rfl⟩, a.now s (.int _)⟩
    | tup l =>
      simp only [prim1, Option.some.injEq] at f
      subst f
      obtain ⟨p, vs, rfl, h1, h2⟩ := r.tup s
      exact ⟨_, vs.length, rfl, .inr ⟨vs, by rw [hK]; exact h1, rfl⟩, by rw [← h2.length]; exact a.now s (.int _)⟩
    | lst l =>
      simp only [prim1, Option.some.injEq] at f
      subst f
      obtain ⟨p, vs, rfl, h1, h2⟩ := r.list s (.inr rfl)
      exact ⟨_, vs.length, rfl, .inl ⟨vs, by rw [hK]; exact h1, rfl⟩, by rw [← h2.length]; exact a.now s (.int _)⟩
    | _ => simp [prim1] at f
  · simp only [prim1, Option.some.injEq] at f
    subst f
    obtain ⟨p, vs, rfl, h1, h2⟩ := r.list s (.inl rfl)
    exact ⟨_, vs.length, rfl, .inl ⟨vs, by rw [hK]; exact h1, rfl⟩, by rw [← h2.length]; exact a.now s (.int _)⟩
  · exact (r.nodic z).elim
theorem cr_abs : CallR X (.builtin "abs") (r1 G .abs) := CallR.imp call_abs fun xs H Q q => by
  obtain ⟨v, h, W, S, d, rfl, s, r, e, a⟩ := q
  rcases look1_cases e (by simp) (by simp) with ⟨x, rfl, f⟩ | ⟨l, rfl, f⟩ | ⟨ks, vs, z⟩
  · cases x with
    | int x =>
      simp only [prim1, Option.some.injEq] at f
      subst f
      obtain rfl := r.int
      exact ⟨_, rfl, a.now s (.int _)⟩
    | _ => simp [prim1] at f
  · simp [prim1] at f
  · exact (r.nodic z).elim
theorem cr_tuple (hK : X.K = G.K) : CallR X (.type "tuple") (r1 G .toTup) := CallR.imp call_tuple_of fun xs H Q q => by
  obtain ⟨v, h, W, S, d, rfl, s, r, e, a⟩ := q
  rw [hK]
  rcases look1_cases e (by simp) (by simp) with ⟨x, rfl, f⟩ | ⟨l, rfl, f⟩ | ⟨ks, vs, z⟩
  · cases x with
    | tup l =>
      simp only [prim1, Option.some.injEq] at f
      subst f
      obtain ⟨p, vs, rfl, h1, h2⟩ := r.tup s
      refine ⟨_, vs, rfl, .inr ⟨h1, ?_⟩⟩
      cases r with
      | val r => exact a.now s r
    | lst l =>
      simp only [prim1, Option.some.injEq] at f
      subst f
      obtain ⟨p, vs, rfl, h1, h2⟩ := r.list s (.inr rfl)
      exact ⟨_, vs, rfl, .inl ⟨h1, fun q hq => a.lay s hq (.tup (SqT.of upd_same) (h2.mono (Ext.upd (s.dead hq))))⟩⟩
    | _ => simp [prim1] at f
  · simp only [prim1, Option.some.injEq] at f
    subst f
    obtain ⟨p, vs, rfl, h1, h2⟩ := r.list s (.inl rfl)
    exact ⟨_, vs, rfl, .inl ⟨h1, fun q hq => a.lay s hq (.tup (SqT.of upd_same) (h2.mono (Ext.upd (s.dead hq))))⟩⟩
  · exact (r.nodic z).elim
theorem reps_bls {F : Hp} : ∀ {l : List D} {vs : List V} {b : Bool}, Reps G F l vs → allBl l = some b → ∃ bs : List Bool, vs = bs.map V.bl ∧ b = bs.all id
  | _, _, b, .nil, h => by simp [allBl] at h; exact ⟨[], rfl, by simp [h]⟩
  | d :: l, _, b, .cons h r, e => by
    cases d with
    | bl x =>
      simp only [allBl, Option.map_eq_some_iff] at e
      obtain ⟨b', e1, rfl⟩ := e
      obtain ⟨bs, rfl, rfl⟩ := reps_bls r e1
      cases h
      exact ⟨x :: bs, rfl, by simp⟩
    | _ => simp [allBl] at e
theorem reps_blsA {F : Hp} : ∀ {l : List D} {vs : List V} {b : Bool}, Reps G F l vs → anyBl l = some b → ∃ bs : List Bool, vs = bs.map V.bl ∧ b = bs.any id
  | _, _, b, .nil, h => by simp [anyBl] at h; exact ⟨[], rfl, by simp [h]⟩
  | d :: l, _, b, .cons h r, e => by
    cases d with
    | bl x =>
      simp only [anyBl, Option.map_eq_some_iff] at e
      obtain ⟨b', e1, rfl⟩ := e
      obtain ⟨bs, rfl, rfl⟩ := reps_blsA r e1
      cases h
      exact ⟨x :: bs, rfl, by simp⟩
    | _ => simp [anyBl] at e
theorem cr_allM (hK : X.K = G.K) (hc : X.calm = true) : CallR X (.builtin "all") (r1 G .all) := CallR.imp (cr_all hc) fun xs H Q q => by
  obtain ⟨v, h, W, S, d, rfl, s, r, e, a⟩ := q
  rw [hK]
  have go : ∀ l, prim1 G.Γ .all (.lst l) = some d → (h = .own l ∨ h = .val (.lst l)) → rAll G.K [v] H Q := fun l e z => by
    simp only [prim1, Option.map_eq_some_iff] at e
    obtain ⟨b, e1, rfl⟩ := e
    obtain ⟨p, vs, rfl, h1, h2⟩ := r.list s z
    obtain ⟨bs, rfl, rfl⟩ := reps_bls h2 e1
    exact ⟨p, bs, rfl, h1, a.now s (.bl _)⟩
  rcases look1_cases e (by simp) (by simp) with ⟨x, rfl, f⟩ | ⟨l, rfl, f⟩ | ⟨ks, vs, z⟩
  · cases x with
    | lst l => exact go l f (.inr rfl)
    | _ => simp [prim1] at f
  · exact go l f (.inl rfl)
  · exact (r.nodic z).elim
theorem cr_anyM (hK : X.K = G.K) (hc : X.calm = true) : CallR X (.builtin "any") (r1 G .any) := CallR.imp (cr_any hc) fun xs H Q q => by
  obtain ⟨v, h, W, S, d, rfl, s, r, e, a⟩ := q
  rw [hK]
  have go : ∀ l, prim1 G.Γ .any (.lst l) = some d → (h = .own l ∨ h = .val (.lst l)) → rAny G.K [v] H Q := fun l e z => by
    simp only [prim1, Option.map_eq_some_iff] at e
    obtain ⟨b, e1, rfl⟩ := e
    obtain ⟨p, vs, rfl, h1, h2⟩ := r.list s z
    obtain ⟨bs, rfl, rfl⟩ := reps_blsA h2 e1
    exact ⟨p, bs, rfl, h1, a.now s (.bl _)⟩
  rcases look1_cases e (by simp) (by simp) with ⟨x, rfl, f⟩ | ⟨l, rfl, f⟩ | ⟨ks, vs, z⟩
  · cases x with
    | lst l => exact go l f (.inr rfl)
    | _ => simp [prim1] at f
  · exact go l f (.inl rfl)
  · exact (r.nodic z).elim
/-- int(n), int(b), int(text) -/
theorem cr_int (hn : X.base.NoDigits) : CallR X (.type "int") (r1 G .toInt) := by
  intro pins s0 σ H xs us Q I rv q
  obtain ⟨v, h, W, S, d, rfl, s, r, e, a⟩ := q
  rcases look1_cases e (by simp) (by simp) with ⟨x, rfl, f⟩ | ⟨l, rfl, f⟩ | ⟨ks, vs, z⟩
  · cases x with
    | int x =>
      simp only [prim1, Option.some.injEq] at f
      subst f
      obtain rfl := r.int
      exact call_int1 pins s0 σ H _ us Q I rv (.inl ⟨_, rfl, a.now s (.int _)⟩)
    | bl x =>
      simp only [prim1, Option.some.injEq] at f
      subst f
      obtain rfl := r.bl
      exact call_int1 pins s0 σ H _ us Q I rv (.inr ⟨_, rfl, a.now s (.int _)⟩)
    | str x =>
      simp only [prim1, lenOk, Option.ite_none_right_eq_some, decide_eq_true_eq, Option.map_eq_some_iff] at f
      obtain ⟨e1, n, e2, rfl⟩ := f
      obtain rfl := r.str
      obtain ⟨u, rfl, t, rfl⟩ := vals1 rv
      exact call_textL (hn.keeps I.bk) e2 e1 ⟨.int n, H, I.tok _, ⟨_, rfl⟩, a.now s (.int _)⟩
    | _ => simp [prim1] at f
  · simp [prim1] at f
  · exact (r.nodic z).elim
theorem two7000 : 2 ^ 7000 ≤ 10 ^ 4300 := by decide +kernel
theorem cr_str (hc : X.calm = true) (hn : X.base.NoDigits) : CallR X (.type "str") (r1 G .toStr) := by
  intro pins s0 σ H xs us Q I rv q
  obtain ⟨v, h, W, S, d, rfl, s, r, e, a⟩ := q
  rcases look1_cases e (by simp) (by simp) with ⟨x, rfl, f⟩ | ⟨l, rfl, f⟩ | ⟨ks, vs, z⟩
  · cases x with
    | int x =>
      simp only [prim1, Option.ite_none_right_eq_some, decide_eq_true_eq, Option.some.injEq] at f
      obtain ⟨e1, rfl⟩ := f
      obtain rfl := r.int
      obtain ⟨u, rfl, t, rfl⟩ := vals1 rv
      have lt : x.natAbs < 10 ^ 4300 := Nat.lt_of_lt_of_le (lt_of_log2 e1) two7000
      refine str_of_int_or (I.ok.hd hc) (hn.keeps I.bk) (fun _ => ⟨.str _, H, I.tok _, ⟨_, rfl⟩, a.now s (.str _)⟩) fun hge => ?_
      exact absurd lt (Nat.not_lt.mpr hge)
    | _ => simp [prim1] at f
  · simp [prim1] at f
  · exact (r.nodic z).elim
/-- the type of what is looked at -/
theorem ty_of {W : Wd} {H : Hp} {S : Sto} {rc : RC} {mg : Str → Option Value} (R : RowOk mg rc G) (s : StOk G W H S) {d : D} {v : V} (r : Rep G W.F d v) {n : Nat} {b : Bool} (hb : isTy n d = some b) :
    ∃ t, TyX G.K H v t ∧ ((∃ c l C, d = .obj c l ∧ G.clA c = some C ∧ t = .ref C) ∨ ∃ nm ∈ (["NoneType", "bool", "int", "str", "list", "tuple"] : List String), t = .type nm ∧
      (d = .non → nm = "NoneType") ∧ (∀ i, d = .int i → nm = "int") ∧ (∀ i, d = .bl i → nm = "bool") ∧ (∀ i, d = .str i → nm = "str") ∧ (∀ i, d = .tup i → nm = "tuple") ∧ (∀ i, d = .lst i → nm = "list") ∧ (∀ c l, d ≠ .obj c l)) := by
  cases r with
  | non => exact ⟨_, .base .non, .inr ⟨"NoneType", by simp, rfl, by simp⟩⟩
  | bl b => exact ⟨_, .base (.bl b), .inr ⟨"bool", by simp, rfl, by simp⟩⟩
  | int b => exact ⟨_, .base (.int b), .inr ⟨"int", by simp, rfl, by simp⟩⟩
  | str b => exact ⟨_, .base (.str b), .inr ⟨"str", by simp, rfl, by simp⟩⟩
  | tup h _ =>
    refine ⟨.type "tuple", ?_, .inr ⟨"tuple", by simp, rfl, by simp⟩⟩
    rcases h with (h | ⟨o, h⟩) | ⟨o, its, k, h1, h2, _⟩
    · exact .base (.tup (s.sub _ _ h))
    · exact .fTuple (s.sub _ _ h)
    · exact .kTuple h1 h2
  | lst h _ =>
    refine ⟨.type "list", ?_, .inr ⟨"list", by simp, rfl, by simp⟩⟩
    rcases h with h | ⟨o, h⟩
    · exact .base (.lst (s.sub _ _ h))
    · exact .base (.frz (s.sub _ _ h))
  | obj h1 h2 h3 h4 h5 h6 =>
    obtain ⟨cl, e1, k⟩ := R.cl _ _ h2
    exact ⟨_, .base (.ins (s.sub _ _ h3) k.cls k.ca k.cg k.ct k.cm), .inl ⟨_, _, _, rfl, h2, rfl⟩⟩
  | fn _ => simp [isTy] at hb
  | cls _ => simp [isTy] at hb
def tyNm : Nat → String
  | 0 => "int"
  | 1 => "bool"
  | 2 => "tuple"
  | 3 => "list"
  | _ => "str"
def isP (n : Nat) : P1 := match n with
  | 0 => .isInt
  | 1 => .isBool
  | 2 => .isTup
  | 3 => .isLst
  | _ => .isStr
theorem kit_ok {rc : RC} {mg : Str → Option Value} (R : RowOk mg rc G) {n : Nat} (hn : n < 5) {W : Wd} {H : Hp} {S : Sto} (s : StOk G W H S) {d : D} {v : V} (r : Rep G W.F d v) {b : Bool} (hb : isTy n d = some b) :
    ∃ t, TyX G.K H v t ∧ PySem.W.kitOne G.K t (.type (tyNm n)) = some b := by
  obtain ⟨t, h1, h2⟩ := ty_of R s r hb
  refine ⟨t, h1, ?_⟩
  have hn' : n = 0 ∨ n = 1 ∨ n = 2 ∨ n = 3 ∨ n = 4 := by omega
  rcases h2 with ⟨c, l, C, rfl, h2, rfl⟩ | ⟨nm, _, rfl, q1, q2, q3, q4, q5, q6, q7⟩
  · obtain ⟨cl, _, k⟩ := R.cl _ _ h2
    have : b = false := by simpa [isTy] using hb.symm
    subst this
    exact k.isb _ (by rcases hn' with rfl | rfl | rfl | rfl | rfl <;> simp [tyNm])
  · refine kit_ty ?_
    cases d with
    | non => obtain rfl := q1 rfl; simp only [isTy, Option.some.injEq] at hb; subst hb; rcases hn' with rfl | rfl | rfl | rfl | rfl <;> decide +kernel
    | int i => obtain rfl := q2 i rfl; simp only [isTy, Option.some.injEq] at hb; subst hb; rcases hn' with rfl | rfl | rfl | rfl | rfl <;> decide +kernel
    | bl i => obtain rfl := q3 i rfl; simp only [isTy, Option.some.injEq] at hb; subst hb; rcases hn' with rfl | rfl | rfl | rfl | rfl <;> decide +kernel
    | str i => obtain rfl := q4 i rfl; simp only [isTy, Option.some.injEq] at hb; subst hb; rcases hn' with rfl | rfl | rfl | rfl | rfl <;> decide +kernel
    | tup i => obtain rfl := q5 i rfl; simp only [isTy, Option.some.injEq] at hb; subst hb; rcases hn' with rfl | rfl | rfl | rfl | rfl <;> decide +kernel
    | lst i => obtain rfl := q6 i rfl; simp only [isTy, Option.some.injEq] at hb; subst hb; rcases hn' with rfl | rfl | rfl | rfl | rfl <;> decide +kernel
    | obj c l => exact absurd rfl (q7 c l)
    | fn _ => simp [isTy] at hb
    | cls _ => simp [isTy] at hb
end
end Mn

set_option maxRecDepth 100000
set_option maxHeartbeats 1000000
/-! what is looked at: a slot, a field, a value -/
namespace Mn
open PySem PySem.Spec PyProof.Rows L2

inductive LK where
  | s (i : Nat) | f (m : E) (f : Nat) | e (m : E)
def evalL (X : Ev) : LK → Rho → Sto → R A
  | .s i, ρ, S => R.ofO S (heldS S ρ i)
  | .f m f, ρ, S => (evalE X m ρ S).bind fun x S1 => R.ofO S1 (heldF X.Γ S1 x f)
  | .e m, ρ, S => evalE X m ρ S
def mk1 (o : P1) : LK → E
  | .s i => .b1 o i
  | .f m f => .f1 o m f
  | .e m => .p1 o m
theorem eval_mk1 (X : Ev) (o : P1) (l : LK) (ρ : Rho) (S : Sto) : evalE X (mk1 o l) ρ S = (evalL X l ρ S).bind fun h S1 => R.d (look1 X.Γ o h) S1 := by
  cases l with
  | s i =>
    simp only [mk1, evalE, evalL]
    cases heldS S ρ i <;> rfl
  | f m f =>
    simp only [mk1, evalE, evalL]
    cases evalE X m ρ S with
    | ok x S1 =>
      simp only [R.bind]
      cases heldF X.Γ S1 x f <;> rfl
    | ex _ _ _ => rfl
    | st => rfl
  | e m => simp only [mk1, evalE, evalL]
def tL (c : Cc) (l : LK) : TE := fun σ H Q => ∃ ρ S W L, Ok c.G W H ρ σ S L ∧ Good c.G c.wx (fun W H => HR c.G W H) σ W H (evalL c.X l ρ S) Q
section
variable {G : Gx} {F : Hp} {al : List Addr} {H : Hp}
theorem SS.get : ∀ {S : Sto} {as q : List Addr}, SS G F al H S as q → ∀ {n : Nat} {o : SO}, S[n]? = some o → ∃ a p, as[n]? = some a ∧ SOR G F al H o a p ∧ ∀ b ∈ p, b ∈ q
  | _, _, _, .nil, n, o, h => by simp at h
  | _, _, _, .cons h r, 0, o, e => by simp at e; subst e; exact ⟨_, _, rfl, h, fun b hb => List.mem_append_left _ hb⟩
  | _, _, _, .cons h r, n + 1, o, e => by
    obtain ⟨a, p, h1, h2, h3⟩ := SS.get r (n := n) (by simpa using e)
    exact ⟨a, p, by simpa using h1, h2, fun b hb => List.mem_append_right _ (h3 b hb)⟩
theorem SS.length {S : Sto} {as q : List Addr} (h : SS G F al H S as q) : S.length = as.length := by
  induction h with
  | nil => rfl
  | cons _ _ ih => simp [ih]
/-- a field, by its name -/
theorem FR.look {fs : List (Nat × A)} {fl : List (Str × V)} {q : List Addr} (h : FR G F al H fs fl q) {fds : List Nat} (hk : ∀ p ∈ fs, p.1 ∈ fds) (inj : ∀ f ∈ fds, ∀ g ∈ fds, G.nm f = G.nm g → f = g) {f : Nat} (hf : f ∈ fds) {a : A} (e : fs.lookup f = some a) :
    ∃ v p, fl.lookup (G.nm f) = some v ∧ AR G F al H a v p ∧ ∀ b ∈ p, b ∈ q := by
  induction h with
  | nil => simp at e
  | @cons g x v fs fl p q hnr h r ih =>
    by_cases hg : f = g
    · subst hg
      simp only [List.lookup, beq_self_eq_true, Option.some.injEq] at e
      subst e
      exact ⟨v, p, by simp [List.lookup], h, fun b hb => List.mem_append_left _ hb⟩
    · have e' : fs.lookup f = some a := by
        have : (f == g) = false := by simpa using hg
        simpa only [List.lookup, this] using e
      obtain ⟨v', p', h1, h2, h3⟩ := ih (fun z hz => hk z (List.mem_cons_of_mem _ hz)) e'
      have hn : (G.nm f == G.nm g) = false := by
        rw [beq_eq_false_iff_ne]
        exact fun z => hg (inj f hf g (hk (g, x) List.mem_cons_self) z)
      exact ⟨v', p', by simpa only [List.lookup, hn] using h1, h2, fun b hb => List.mem_append_right _ (h3 b hb)⟩
/-- a field of data -/
theorem zip_look {vs : List V} {ds : List D} : ∀ {fds : List Nat}, (∀ f ∈ fds, ∀ g ∈ fds, G.nm f = G.nm g → f = g) → vs.length = fds.length → Reps G F ds vs → ∀ {f i : Nat}, fds.idxOf? f = some i → ∀ {d : D}, ds[i]? = some d →
    ∃ v, ((fds.map G.nm).zip vs).lookup (G.nm f) = some v ∧ Rep G F d v := by
  induction vs generalizing ds with
  | nil =>
    intro fds _ hl r f i e d hd
    cases r
    simp at hd
  | cons v vs ih =>
    intro fds inj hl r f i e d hd
    cases fds with
    | nil => simp at hl
    | cons g fds =>
      cases r with
      | @cons d0 _ ds _ h r =>
        rw [List.idxOf?_cons] at e
        by_cases hg : (g == f) = true
        · rw [if_pos hg] at e
          cases e
          simp at hd
          subst hd
          have : g = f := by simpa using hg
          subst this
          exact ⟨v, by simp [List.lookup], h⟩
        · rw [if_neg hg] at e
          cases e2 : fds.idxOf? f with
          | none => rw [e2] at e; simp at e
          | some j =>
            rw [e2] at e
            simp at e
            subst e
            have hf : f ∈ fds := by
              have := List.mem_of_getElem? (l := fds) (i := j) (a := f) (by
                have h := List.findIdx?_eq_some_iff_getElem.mp (show fds.findIdx? (· == f) = some j from e2)
                obtain ⟨h1, h2, _⟩ := h
                rw [List.getElem?_eq_getElem h1]
                simpa using h2)
              exact this
            obtain ⟨v', h1, h2⟩ := ih (fun a ha b hb => inj a (List.mem_cons_of_mem _ ha) b (List.mem_cons_of_mem _ hb)) (by simpa using hl) r e2 (by simpa using hd)
            have hn : (G.nm f == G.nm g) = false := by
              rw [beq_eq_false_iff_ne]
              intro z
              have := inj f (List.mem_cons_of_mem _ hf) g List.mem_cons_self z
              subst this
              simp at hg
            exact ⟨v', by simpa only [List.map_cons, List.zip_cons_cons, List.lookup, hn] using h1, h2⟩
theorem idx_mem {fds : List Nat} {f i : Nat} (e : fds.idxOf? f = some i) : f ∈ fds := by
  have h := List.findIdx?_eq_some_iff_getElem.mp (show fds.findIdx? (· == f) = some i from e)
  obtain ⟨h1, h2, _⟩ := h
  have : fds[i] = f := by simpa using h2
  rw [← this]
  exact List.getElem_mem h1
end
section
variable {c : Cc} {X : L2.Cx} {rc : RC}
/-- a slot is looked at -/
theorem snd_lkS {i : Nat} {x : Str} {pos : Pos} (hN : X.N[i]? = some x) (hv : Vis X.env.scope x) (hd : (x == ("__debug__" : Str)) = false) (hcd : (x == ("__classdict__" : Str)) = false) : PE X (.Name x pos) (tL c (.s i)) := by
  refine PE.imp (pe_var hN hv hd hcd) fun σ H Q h => ?_
  obtain ⟨ρ, S, W, L, ok, g⟩ := h
  simp only [evalL, heldS] at g
  cases e : ρ[i]? with
  | none => rw [e] at g; exact g.elim
  | some o =>
    cases o with
    | none => rw [e] at g; exact g.elim
    | some a =>
      obtain ⟨v, p, h1, h2, h3⟩ := ok.l.get e
      rw [e] at g
      refine ⟨v, h1, ?_⟩
      cases h2 with
      | val h => exact g v H W ok.s Xt.refl (.val h)
      | @ref n a h =>
        simp only at g
        cases e2 : S[n]? with
        | none => rw [e2] at g; exact g _ H W ok.s Xt.refl (.ref h)
        | some o =>
          rw [e2] at g
          obtain ⟨a', p', h4, h5, _⟩ := ok.s.st.get e2
          rw [h] at h4; cases h4
          cases h5 with
          | lst k1 k2 => exact g _ H W ok.s Xt.refl (.own k1 k2)
          | ins _ _ _ _ _ _ => exact g _ H W ok.s Xt.refl (.ref h)
      | own k1 k2 => exact g _ H W ok.s Xt.refl (.own k1 k2)
      | exc _ _ _ => exact g.elim
theorem snd_lkE {e : Expr} {m : E} (h : PE X e (tE c m)) : PE X e (tL c (.e m)) := PE.imp h fun σ H Q q => by
  obtain ⟨ρ, S, W, L, ok, g⟩ := q
  refine ⟨ρ, S, W, L, ok, ?_⟩
  simp only [evalL] at g
  cases ev : evalE c.X m ρ S with
  | ok a S' => rw [ev] at g; exact fun v H' W' s x r => g v H' W' s x (HR.ofAV r)
  | ex _ _ _ => rw [ev] at g; exact g
  | st => rw [ev] at g; exact g
/-- what an attribute is, for pe_fld -/
theorem fld_reads (RO : RowOk X.mg rc c.G) (hK : X.K = c.G.K) {W : Wd} {H : Hp} {S : Sto} (s : StOk c.G W H S) {x h : A} {v : V} {f : Nat} (r : AV c.G W x v) (e : heldF c.X.Γ S x f = some h) (hΓ : c.X.Γ = c.G.Γ) :
    ∃ a C dx fs u, v = .ref a ∧ H a = some (.ins C dx fs) ∧ Cls X.K C ∧ NoAttr X.K C (c.G.nm f) ∧ fs.lookup (c.G.nm f) = some u ∧ HR c.G W H h u := by
  rw [hΓ] at e
  cases x with
  | val d =>
    cases d with
    | obj k l =>
      simp only [heldF] at e
      cases e1 : c.G.Γ.cl k with
      | none => rw [e1] at e; simp at e
      | some cl =>
        rw [e1] at e
        simp only at e
        cases e2 : cl.flds.idxOf? f with
        | none => rw [e2] at e; simp at e
        | some i =>
          rw [e2] at e
          simp only [Option.map_eq_some_iff] at e
          obtain ⟨d, e3, rfl⟩ := e
          cases r with
          | obj g1 g2 g3 g4 g5 g6 =>
            replace g1 := g1.1
            rw [e1] at g1; cases g1
            obtain ⟨cl', q1, q⟩ := RO.cl _ _ g2
            rw [e1] at q1; cases q1
            obtain ⟨u, h1, h2⟩ := zip_look (RO.inj _ _ e1) g5 g6 e2 e3
            exact ⟨_, _, _, _, u, rfl, s.sub _ _ g3, by rw [hK]; exact q.cls, by rw [hK]; exact q.no f (idx_mem e2), h1, .val h2⟩
    | _ => simp [heldF] at e
  | ref n =>
    obtain ⟨a, h1, rfl⟩ := r
    simp only [heldF, fieldS] at e
    cases e1 : S[n]? with
    | none => rw [e1] at e; simp at e
    | some o =>
      rw [e1] at e
      cases o with
      | lst _ => simp at e
      | ins k fs =>
        simp only at e
        obtain ⟨a', p, k1, k2, k3⟩ := s.st.get e1
        rw [h1] at k1; cases k1
        cases k2 with
        | @ins _ cl _ C dx _ fl q g1 g2 g3 g4 g5 g6 =>
          rw [g1] at e
          simp only at e
          by_cases hc : (cl.flds.contains f) = true
          · rw [if_pos hc] at e
            have hm : f ∈ cl.flds := by simpa using hc
            obtain ⟨cl', q1, q'⟩ := RO.cl _ _ g3
            rw [g1] at q1; cases q1
            cases e2 : fs.lookup f with
            | none => rw [e2] at e; simp at e
            | some b =>
              rw [e2] at e
              obtain ⟨u, p', l1, l2, _⟩ := g6.look g2 (RO.inj _ _ g1) hm e2
              refine ⟨_, _, _, _, u, rfl, g4, by rw [hK]; exact q'.cls, by rw [hK]; exact q'.no f hm, l1, ?_⟩
              cases l2 with
              | val r => simp only [Option.some.injEq] at e; subst e; exact .val r
              | ref r => simp at e
              | own r1 r2 => simp only [Option.some.injEq] at e; subst e; exact .own r1 r2
              | exc _ _ _ => simp at e
          · rw [if_neg hc] at e; simp at e
  | own _ => exact r.elim
  | dic _ _ => exact r.elim
  | fdic _ _ => exact r.elim
  | exc _ _ => exact r.elim
theorem snd_lkF (RO : RowOk X.mg rc c.G) (hK : X.K = c.G.K) (hΓ : c.X.Γ = c.G.Γ) {a : Expr} {x : Str} {f : Nat} {m : E} {pos : Pos} (h : PE X a (tE c m)) (hf : rc.ats.lookup x = some f) (hb : attributeBase a x X.env (eval a X.env) = eval a X.env) :
    PE X (.Attribute a x pos) (tL c (.f m f)) := PE.imp (pe_fld h hb) fun σ H Q q => by
  obtain ⟨ρ, S, W, L, ok, g⟩ := q
  simp only [evalL] at g
  show tE c m σ H _
  refine ⟨ρ, S, W, L, ok, g.bind fun y S1 v H1 W1 s1 x1 r1 g1 => ?_⟩
  cases e : heldF c.X.Γ S1 y f with
  | none => rw [e] at g1; exact g1.elim
  | some h =>
    rw [e] at g1
    obtain ⟨a, C, dx, fs, u, rfl, e1, e2, e3, e4, e5⟩ := fld_reads RO hK s1 r1 e hΓ
    rw [RO.nms x f hf] at e3 e4
    exact ⟨a, C, dx, fs, u, rfl, e1, e2, e3, e4, g1 u H1 W1 s1 Xt.refl e5⟩
theorem snd_fld (RO : RowOk X.mg rc c.G) (hK : X.K = c.G.K) (hΓ : c.X.Γ = c.G.Γ) {a : Expr} {x : Str} {f : Nat} {m : E} {pos : Pos} (h : PE X a (tE c m)) (hf : rc.ats.lookup x = some f) (hb : attributeBase a x X.env (eval a X.env) = eval a X.env) :
    PE X (.Attribute a x pos) (tE c (.fld m f)) := PE.imp (snd_lkF RO hK hΓ h hf hb) fun σ H Q q => by
  obtain ⟨ρ, S, W, L, ok, g⟩ := q
  refine ⟨ρ, S, W, L, ok, ?_⟩
  simp only [evalE, evalL] at g ⊢
  cases ev : evalE c.X m ρ S with
  | ex _ _ _ => rw [ev] at g; exact g
  | st => rw [ev] at g; exact g
  | ok y S1 =>
    rw [ev] at g
    simp only [Mn.R.bind] at g ⊢
    cases y with
    | val d =>
      cases d with
      | obj k l =>
        simp only [heldF] at g ⊢
        cases e1 : c.X.Γ.cl k with
        | none => rw [e1] at g; exact g.elim
        | some cl =>
          rw [e1] at g
          simp only at g ⊢
          cases e2 : cl.flds.idxOf? f with
          | none => rw [e2] at g; exact g.elim
          | some i =>
            rw [e2] at g
            simp only at g ⊢
            cases e3 : l[i]? with
            | none => rw [e3] at g; exact g.elim
            | some d =>
              rw [e3] at g
              intro v H' W' s x r
              cases r with
              | val r => exact g v H' W' s x r
      | _ => exact g.elim
    | ref n =>
      simp only [heldF] at g ⊢
      cases e1 : fieldS c.X.Γ S1 n f with
      | none => rw [e1] at g; exact g.elim
      | some b =>
        rw [e1] at g
        cases b with
        | val d =>
          intro v H' W' s x r
          cases r with
          | val r => exact g v H' W' s x r
        | _ => exact g.elim
    | _ => exact g.elim
/-- one argument that is looked at, of a built-in -/
theorem snd_c1 {e a : Expr} {l : LK} {o : P1} (hΓ : c.X.Γ = c.G.Γ) (ha : PE X a (tL c l)) (hop : ∀ t : TE, PE X a t → PE X e (fun σ H Q => t σ H fun v H1 => r1 c.G o [v] H1 Q)) : PE X e (tE c (mk1 o l)) := by
  refine PE.imp (hop _ ha) fun σ H Q q => ?_
  obtain ⟨ρ, S, W, L, ok, g⟩ := q
  rw [eval_mk1] at g
  refine ⟨ρ, S, W, L, ok, g.bind fun h S1 v H1 W1 s1 x1 r1 g1 => ?_⟩
  rw [hΓ] at g1
  cases e1 : look1 c.G.Γ o h with
  | none => rw [e1] at g1; exact g1.elim
  | some d =>
    rw [e1] at g1
    exact ⟨v, h, W1, S1, d, rfl, s1, r1, e1, fun v' H' W' s x r => g1 v' H' W' s x r⟩
/-- f(a), f a built-in function | type -/
theorem hop_B {a : Expr} {x : Str} {o : P1} {id : String} {p pos : Pos} (hc : CallR X (.builtin id) (r1 c.G o)) (hg : Gl X x) (hm : X.mg x = none) (hv : bootBuiltins x = some (.builtin id)) (hn : x ≠ "__name__") (hdb : (x == ("__debug__" : Str)) = false)
    (he : starEach (a :: []) X.env = (false, eval a X.env) :: starEach [] X.env) : ∀ t : TE, PE X a t → PE X (.Call (.Name x p) [a] [] pos) (fun σ H Q => t σ H fun v H1 => r1 c.G o [v] H1 Q) :=
  fun t h => pe_callB hc hg hm hv (pa_cons h pa_nil he) hn hdb he
theorem hop_T {a : Expr} {x : Str} {o : P1} {T : String} {p pos : Pos} (hc : CallR X (.type T) (r1 c.G o)) (hg : Gl X x) (hm : X.mg x = none) (hv : bootBuiltins x = some (.type T)) (hn : x ≠ "__name__") (hdb : (x == ("__debug__" : Str)) = false)
    (he : starEach (a :: []) X.env = (false, eval a X.env) :: starEach [] X.env) : ∀ t : TE, PE X a t → PE X (.Call (.Name x p) [a] [] pos) (fun σ H Q => t σ H fun v H1 => r1 c.G o [v] H1 Q) :=
  fun t h => pe_callTy hc hg hm hv (pa_cons h pa_nil he) hn hdb he
/-- is None -/
theorem hop_isN {a : Expr} {j : Nat} {p pos : Pos} : ∀ t : TE, PE X a t → (∀ σ H Q Q', (∀ v H1, Q v H1 → Q' v H1) → t σ H Q → t σ H Q') → PE X (.Compare a [.Is] [.Constant .none j p] pos) (fun σ H Q => t σ H fun v H1 => r1 c.G .isN [v] H1 Q) :=
  fun t h mono => PE.imp (pe_cmp (pc_isN h) rfl) fun σ H Q q => mono σ H _ _ (fun v H1 z => by
    obtain ⟨v', h, W, S, d, e0, s, r, e, a⟩ := z
    cases e0
    cases r with
    | val r => cases r <;> (simp only [look1, prim1, Option.some.injEq] at e; subst e; exact a.now s (.bl _))
    | ref r => simp only [look1, Option.some.injEq] at e; subst e; exact a.now s (.bl _)
    | own r1 r2 => simp only [look1, prim1, Option.some.injEq] at e; subst e; exact a.now s (.bl _)) q
theorem hop_notN {a : Expr} {j : Nat} {p pos : Pos} : ∀ t : TE, PE X a t → (∀ σ H Q Q', (∀ v H1, Q v H1 → Q' v H1) → t σ H Q → t σ H Q') → PE X (.Compare a [.IsNot] [.Constant .none j p] pos) (fun σ H Q => t σ H fun v H1 => r1 c.G .notN [v] H1 Q) :=
  fun t h mono => PE.imp (pe_cmp (pc_notN h) rfl) fun σ H Q q => mono σ H _ _ (fun v H1 z => by
    obtain ⟨v', h, W, S, d, e0, s, r, e, a⟩ := z
    cases e0
    cases r with
    | val r => cases r <;> (simp only [look1, prim1, Option.some.injEq] at e; subst e; exact a.now s (.bl _))
    | ref r => simp only [look1, Option.some.injEq] at e; subst e; exact a.now s (.bl _)
    | own r1 r2 => simp only [look1, prim1, Option.some.injEq] at e; subst e; exact a.now s (.bl _)) q
theorem tL_mono {l : LK} {σ : L2.St} {H : Hp} {Q Q' : VK} (h : ∀ v H1, Q v H1 → Q' v H1) (q : tL c l σ H Q) : tL c l σ H Q' := by
  obtain ⟨ρ, S, W, L, ok, g⟩ := q
  exact ⟨ρ, S, W, L, ok, g.mono h⟩
end
end Mn

set_option maxRecDepth 100000
set_option maxHeartbeats 1000000
/-! operators, tests -/
namespace Mn
open PySem PySem.Spec PyProof.Rows L2

/-- the answer of a test -/
def testR (r : R A) : R Bool := r.bind fun a S => match a with | .val (.bl b) => .ok b S | _ => .st
abbrev RB : Wd → Hp → Bool → Bool → Prop := fun _ _ a b => b = a
def tTs (c : Cc) (m : E) : TT := fun σ H Q => ∃ ρ S W L, Ok c.G W H ρ σ S L ∧ Good c.G c.wx RB σ W H (testR (evalE c.X m ρ S)) Q
/-- an expression is sound: as a value, as a test -/
structure Snd (c : Cc) (X : L2.Cx) (e : Expr) (m : E) : Prop where
  pe : PE X e (tE c m)
  pt : PT X e (tTs c m)
section
variable {c : Cc} {X : L2.Cx} {rc : RC}
theorem tTs_of {m : E} {σ : L2.St} {H : Hp} {Q : Bool → Hp → Prop} (q : tTs c m σ H Q) : tE c m σ H (fun x H1 => ∃ k, x = .bl k ∧ Q k H1) := by
  obtain ⟨ρ, S, W, L, ok, g⟩ := q
  refine ⟨ρ, S, W, L, ok, ?_⟩
  unfold testR at g
  cases ev : evalE c.X m ρ S with
  | ex _ _ _ => rw [ev] at g; exact g
  | st => rw [ev] at g; exact g
  | ok a S1 =>
    rw [ev] at g
    cases a with
    | val d =>
      cases d with
      | bl b =>
        intro v H' W' s x r
        cases r
        exact ⟨b, rfl, g b H' W' s x rfl⟩
      | _ => exact g.elim
    | _ => exact g.elim
theorem Snd.plain {e : Expr} {m : E} (h : PE X e (tE c m)) (he : ∀ whole, isTrue e X.env whole = (do let v ← whole; standAt e.pos; holding [v] (truthy v))) : Snd c X e m :=
  ⟨h, PT.imp (pt_val h he) fun _ _ _ q => tTs_of q⟩
theorem Snd.cmp {a b : Expr} {op : CmpOp} {m : E} {pos : Pos} (h : PC X op a b (tE c m)) (h1 : behindInMarks op b = false) : Snd c X (.Compare a [op] [b] pos) m :=
  ⟨pe_cmp h h1, PT.imp (pt_cmp h h1) fun _ _ _ q => tTs_of q⟩
theorem PC.of {op : CmpOp} {r : R2} {a b : Expr} {ta tb : TE} (ho : OpR X (compareOp op) r) (ha : PE X a ta) (hb : PE X b tb) : PC X op a b (tOp r ta tb) :=
  ⟨fun pins s σ H Q I h => binT ha hb I h fun v u s2 x y H2 I2 rx ry q => ho pins s2 σ H2 x y v u Q I2 rx ry q⟩
theorem PC.imp {op : CmpOp} {a b : Expr} {t t' : TE} (h : PC X op a b t) (i : ∀ σ H Q, t' σ H Q → t σ H Q) : PC X op a b t' := ⟨fun pins s σ H Q I q => h.run pins s σ H Q I (i σ H Q q)⟩
theorem OpR.imp {f : Value → Value → Sem Value} {r r' : R2} (h : OpR X f r) (i : ∀ x y H Q, r' x y H Q → r x y H Q) : OpR X f r' := fun pins s σ H x y v u Q I rx ry q => h pins s σ H x y v u Q I rx ry (i x y H Q q)

/-- two data -/
def r2 (G : Gx) (k : Nat) (o : P2) : R2 := fun x y H Q => ∃ W S d e g, StOk G W H S ∧ Rep G W.F d x ∧ Rep G W.F e y ∧ prim2 G.Γ k o d e = some g ∧ Ans G W H S g Q
/-- from the parts to a two-place primitive -/
theorem snd_p2 {o : P2} {m n : E} (hΓ : c.X.Γ = c.G.Γ) {σ : L2.St} {H : Hp} {Q : VK} (q : tE c (.p2 o m n) σ H Q) : tOp (r2 c.G c.X.k o) (tE c m) (tE c n) σ H Q := by
  obtain ⟨ρ, S, W, L, ok, g⟩ := q
  simp only [evalE] at g
  refine ⟨ρ, S, W, L, ok, g.bind fun a S1 v H1 W1 s1 x1 r1 g1 => ?_⟩
  refine ⟨ρ, S1, W1, L, ok.ext s1 x1, g1.bind fun b S2 u H2 W2 s2 x2 r2 g2 => ?_⟩
  cases a with
  | val d =>
    cases b with
    | val e =>
      rw [hΓ] at g2
      cases ep : prim2 c.G.Γ c.X.k o d e with
      | none => simp only [ep] at g2; exact g2.elim
      | some g =>
        simp only [ep] at g2
        exact ⟨W2, S2, d, e, g, s2, Rep.mono x2.f r1, r2, ep, fun v' H' W' s x r => g2 v' H' W' s x r⟩
    | _ => exact g2.elim
  | _ => exact g2.elim
variable {G : Gx} {k : Nat}
theorem op_fdivM : OpR X (binaryOp .FloorDiv) (rI (fun _ j => j ≠ 0 ∧ j.natAbs.log2 < 9000) fun i j => .int (i.fdiv j)) := opI fun _ _ _ _ _ _ _ hc q => floordiv_int hc.1 q (.inl (PyProof.noPylong_of_log2 hc.2))
theorem or_fdiv : OpR X (binaryOp .FloorDiv) (r2 G k .fdiv) := OpR.imp op_fdivM fun x y H Q q => by
  obtain ⟨W, S, d, e, g, s, rd, re, ep, a⟩ := q
  cases d <;> first | (simp [prim2] at ep; done) | skip
  cases e <;> first | (simp [prim2] at ep; done) | skip
  simp only [prim2, divOk, Option.ite_none_right_eq_some, Option.some.injEq, Bool.and_eq_true, bne_iff_ne, decide_eq_true_eq] at ep
  obtain ⟨e1, rfl⟩ := ep
  cases rd; cases re
  exact ⟨_, _, rfl, rfl, e1, a.now s (.int _)⟩
theorem or_mod : OpR X (binaryOp .Mod) (r2 G k .mod) := OpR.imp op_modN fun x y H Q q => by
  obtain ⟨W, S, d, e, g, s, rd, re, ep, a⟩ := q
  cases d <;> first | (simp [prim2] at ep; done) | skip
  cases e <;> first | (simp [prim2] at ep; done) | skip
  simp only [prim2, Option.ite_none_right_eq_some, Option.some.injEq, bne_iff_ne] at ep
  obtain ⟨e1, rfl⟩ := ep
  cases rd; cases re
  exact ⟨_, _, rfl, rfl, e1, a.now s (.int _)⟩
theorem or_lt : OpR X (compareOp .Lt) (r2 G k .lt) := OpR.imp (OpR.or op_lt op_lt_str) fun x y H Q q => by
  obtain ⟨W, S, d, e, g, s, rd, re, ep, a⟩ := q
  cases d <;> first | (simp [prim2] at ep; done) | skip
  · cases e <;> first | (simp [prim2] at ep; done) | skip
    simp only [prim2, Option.some.injEq] at ep
    subst ep
    cases rd; cases re
    exact .inl ⟨_, _, rfl, rfl, a.now s (.bl _)⟩
  · cases e <;> first | (simp [prim2] at ep; done) | skip
    simp only [prim2, Option.some.injEq] at ep
    subst ep
    cases rd; cases re
    exact .inr ⟨_, _, rfl, rfl, a.now s (.bl _)⟩
theorem or_le : OpR X (compareOp .LtE) (r2 G k .le) := OpR.imp (OpR.or op_le op_le_str) fun x y H Q q => by
  obtain ⟨W, S, d, e, g, s, rd, re, ep, a⟩ := q
  cases d <;> first | (simp [prim2] at ep; done) | skip
  · cases e <;> first | (simp [prim2] at ep; done) | skip
    simp only [prim2, Option.some.injEq] at ep
    subst ep
    cases rd; cases re
    exact .inl ⟨_, _, rfl, rfl, a.now s (.bl _)⟩
  · cases e <;> first | (simp [prim2] at ep; done) | skip
    simp only [prim2, Option.some.injEq] at ep
    subst ep
    cases rd; cases re
    exact .inr ⟨_, _, rfl, rfl, a.now s (.bl _)⟩
theorem or_gt : OpR X (compareOp .Gt) (r2 G k .gt) := OpR.imp op_gt fun x y H Q q => by
  obtain ⟨W, S, d, e, g, s, rd, re, ep, a⟩ := q
  cases d <;> first | (simp [prim2] at ep; done) | skip
  cases e <;> first | (simp [prim2] at ep; done) | skip
  simp only [prim2, Option.some.injEq] at ep
  subst ep
  cases rd; cases re
  exact ⟨_, _, rfl, rfl, a.now s (.bl _)⟩
theorem or_ge : OpR X (compareOp .GtE) (r2 G k .ge) := OpR.imp op_ge fun x y H Q q => by
  obtain ⟨W, S, d, e, g, s, rd, re, ep, a⟩ := q
  cases d <;> first | (simp [prim2] at ep; done) | skip
  cases e <;> first | (simp [prim2] at ep; done) | skip
  simp only [prim2, Option.some.injEq] at ep
  subst ep
  cases rd; cases re
  exact ⟨_, _, rfl, rfl, a.now s (.bl _)⟩
/-- two data handed to a built-in -/
def r2c (G : Gx) (k : Nat) (o : P2) : List V → Hp → VK → Prop := fun xs H Q => ∃ x y, xs = [x, y] ∧ r2 G k o x y H Q
theorem cr_max2 (hc : X.calm = true) : CallR X (.builtin "max") (r2c G k .max2) := CallR.imp (call_max2 hc) fun xs H Q q => by
  obtain ⟨x, y, rfl, W, S, d, e, g, s, rd, re, ep, a⟩ := q
  cases d <;> first | (simp [prim2] at ep; done) | skip
  cases e <;> first | (simp [prim2] at ep; done) | skip
  simp only [prim2, Option.some.injEq] at ep
  subst ep
  cases rd; cases re
  exact ⟨_, _, rfl, a.now s (.int _)⟩
theorem cr_min2 (hc : X.calm = true) : CallR X (.builtin "min") (r2c G k .min2) := CallR.imp (call_min2 hc) fun xs H Q q => by
  obtain ⟨x, y, rfl, W, S, d, e, g, s, rd, re, ep, a⟩ := q
  cases d <;> first | (simp [prim2] at ep; done) | skip
  cases e <;> first | (simp [prim2] at ep; done) | skip
  simp only [prim2, Option.some.injEq] at ep
  subst ep
  cases rd; cases re
  exact ⟨_, _, rfl, a.now s (.int _)⟩
theorem snd_call2 {o : P2} {m n : E} {a b : Expr} {x : Str} {id : String} {p pos : Pos} (hΓ : c.X.Γ = c.G.Γ) (hc : CallR X (.builtin id) (r2c c.G c.X.k o)) (hg : Gl X x) (hm : X.mg x = none) (hv : bootBuiltins x = some (.builtin id)) (hn : x ≠ "__name__")
    (hdb : (x == ("__debug__" : Str)) = false) (ha : PE X a (tE c m)) (hb : PE X b (tE c n)) (h1 : starEach [a, b] X.env = (false, eval a X.env) :: starEach [b] X.env) (h2 : starEach [b] X.env = (false, eval b X.env) :: starEach [] X.env) :
    PE X (.Call (.Name x p) [a, b] [] pos) (tE c (.p2 o m n)) := by
  refine PE.imp (pe_callB hc hg hm hv (pa_cons ha (pa_cons hb pa_nil h2) h1) hn hdb h1 (by rw [h2]; rfl)) fun σ H Q q => ?_
  have q' := snd_p2 hΓ q
  show tE c m σ H fun x H1 => tE c n σ H1 fun y H2 => r2c c.G c.X.k o [x, y] H2 Q
  obtain ⟨ρ, S, W, L, ok, g⟩ := q'
  refine ⟨ρ, S, W, L, ok, g.mono fun v H1 q1 => ?_⟩
  obtain ⟨ρ, S, W, L, ok, g⟩ := q1
  exact ⟨ρ, S, W, L, ok, g.mono fun u H2 q2 => ⟨v, u, rfl, q2⟩⟩
/-! ### subscripts -/
theorem atI_rep {F : Hp} {l : List D} {vs : List V} (h : Reps G F l vs) {i : Int} {d : D} (e : L2.atI l i = some d) : ∃ v, L2.atI vs i = some v ∧ Rep G F d v := by
  unfold L2.atI at e ⊢
  rw [← h.length]
  cases e1 : L2.ixN l.length i with
  | none => rw [e1] at e; simp at e
  | some j =>
    rw [e1] at e
    exact h.get e
/-- what is looked at, with a datum -/
def r2h (G : Gx) (k : Nat) (o : P2) : R2 := fun x y H Q => ∃ W S h e g, StOk G W H S ∧ HR G W H h x ∧ Rep G W.F e y ∧ look2 G.Γ k o h e = some g ∧ Ans G W H S g Q
theorem ix_all (hK : X.K = G.K) : IxR X (r2h G k .idx) := by
  intro value slice pins s0 σ H x y v u Q I rx ry q hs
  obtain ⟨W, S, h, e, g, s, rd, re, ep, a⟩ := q
  refine ix_seq value slice pins s0 σ H x y v u Q I rx ry ?_ hs
  rw [hK]
  have go : ∀ l : List D, (h = .own l ∨ h = .val (.lst l)) → prim2 G.Γ k .idx (.lst l) e = some g → rIx G.K x y H Q := fun l z f => by
    cases e with
    | int i =>
      simp only [prim2] at f
      obtain ⟨p, vs, rfl, h1, h2⟩ := rd.list s z
      obtain ⟨v, e1, e2⟩ := atI_rep h2 f
      cases re
      exact .inl ⟨_, _, _, _, rfl, rfl, h1, e1, a.now s e2⟩
    | _ => simp [prim2] at f
  cases h with
  | val d =>
    cases d with
    | lst l => exact go l (.inr rfl) ep
    | tup l =>
      cases e with
      | int i =>
        simp only [look2, prim2] at ep
        obtain ⟨p, vs, rfl, h1, h2⟩ := rd.tup s
        obtain ⟨v, e1, e2⟩ := atI_rep h2 ep
        cases re
        exact .inr (.inl ⟨_, _, _, _, rfl, rfl, h1, e1, a.now s e2⟩)
      | _ => simp [look2, prim2] at ep
    | str z =>
      cases e with
      | int i =>
        simp only [look2, prim2, lenOk, Option.ite_none_right_eq_some, decide_eq_true_eq, Option.map_eq_some_iff] at ep
        obtain ⟨e1, ch, e2, rfl⟩ := ep
        obtain rfl := rd.str
        cases re
        exact .inr (.inr ⟨_, _, _, rfl, rfl, e1, e2, a.now s (.str _)⟩)
      | _ => simp [look2, prim2] at ep
    | _ => cases e <;> simp [look2, prim2] at ep
  | own l => exact go l (.inl rfl) ep
  | ref _ => simp [look2] at ep
  | dic _ _ => cases rd
  | fdic _ _ => cases rd
  | exc _ _ => cases rd
end
end Mn

set_option maxRecDepth 100000
set_option maxHeartbeats 2000000
/-! == and != where items may run an own __eq__: both answers -/
namespace Mn.EqI
open PySem PySem.SeqAt GQ
open AutoSeq1 (wpAny_loadPart')
open MeetsSeq MeetsSeq2 MeetsSeq3 SeqRoads2
section
variable {prog : Program} {w : World} {A : Around} {R : Result → Shared → Prop}
theorem tuple_eqI (l b : Addr) (items items2 : Array Value) (n n2 : Nat) (dd dd2 : Option Addr) (sl sl2 : Array (Option Value)) (e : Nat → Bool) (I : Nat → Shared → Prop)
    (turn : ∀ i (h1 : i < items.size) (h2 : i < items2.size) s, I i s → wpAny (model prog w) A.in1 (eqBool items[i] items2[i]) (fun r s' => r = e i ∧ I (i + 1) s') (fun e s' => R (.error e) s') s)
    (fin : ∀ i s, I i s → R (.ok (.ret (.bool ((List.range (min items.size items2.size)).all e && items.size == items2.size)))) s) {s : Shared}
    (hl1 : s.heap.get? l = some { cls := .type "tuple", dict := dd, data := .seq items n, slots := sl }) (hb1 : s.heap.get? b = some { cls := .type "tuple", dict := dd2, data := .seq items2 n2, slots := sl2 }) (h : I 0 s) :
    wpAny (model prog w) A.in1 (Builtin.«tuple.__eq__» ⟨[.ref l, .ref b], []⟩) (FinOf prog w A R) (fun e s' => R (.error e) s') s := by
  have f2 := AutoSeq1.sub_tuple_tuple
  have hZ : (items.toList.zip items2.toList).length = min items.size items2.size := by simp
  generalize hres : ((List.range (min items.size items2.size)).all e && items.size == items2.size) = res at fin
  have h0 := h
  obtain ⟨hp, g, d, tk, os⟩ := s
  wp_walk using wpAny_loadPart' hl1, wpAny_loadPart' hb1, wpAny_forIn_list _ (fun rest b s' => b.1 = none ∧ ∃ i, rest = (items.toList.zip items2.toList).drop i ∧ I i s' ∧
    (((List.range (min items.size items2.size)).drop i).all e && items.size == items2.size) = res) _
  case turn =>
    rintro ⟨y, x⟩ rest b s' ⟨hb', i, hz, hI, hR⟩
    have hlt : i < (items.toList.zip items2.toList).length := by
      rcases Nat.lt_or_ge i (items.toList.zip items2.toList).length with h' | h'
      · exact h'
      · rw [List.drop_of_length_le h'] at hz; cases hz
    have hm : i < min items.size items2.size := hZ ▸ hlt
    have h1 : i < items.size := Nat.lt_of_lt_of_le hm (Nat.min_le_left _ _)
    have h2 : i < items2.size := Nat.lt_of_lt_of_le hm (Nat.min_le_right _ _)
    rw [List.drop_eq_getElem_cons hlt] at hz
    injection hz with hyx hrest
    have hy : y = items[i] := by have := congrArg Prod.fst hyx; simpa using this
    have hx : x = items2[i] := by have := congrArg Prod.snd hyx; simpa using this
    subst hy hx
    have hd : (List.range (min items.size items2.size)).drop i = i :: (List.range (min items.size items2.size)).drop (i + 1) := by simp [List.drop_eq_getElem_cons, hm]
    rw [hd, List.all_cons] at hR
    refine wpAny_bind (wpAny_mono (turn i h1 h2 s' hI) (fun r s2 q2 => ?_) fun _ _ x => x)
    obtain ⟨hr, q2⟩ := q2
    subst hr
    have hf := fin _ _ q2
    cases hy : e i with
    | true =>
      rw [hy] at hR
      wp_walk
      exact ⟨rfl, i + 1, hrest, q2, by simpa using hR⟩
    | false =>
      rw [hy] at hR
      have hres' : res = false := by simpa using hR.symm
      rw [hres'] at hf
      wp_walk
      exact hf
  case fin =>
    rintro ⟨b1, b2⟩ s' ⟨hb', i, hz, hI, hR⟩
    simp only at hb'
    subst hb'
    have hge : min items.size items2.size ≤ i := by
      rcases Nat.lt_or_ge i (items.toList.zip items2.toList).length with h' | h'
      · rw [List.drop_eq_getElem_cons h'] at hz; cases hz
      · exact hZ ▸ h'
    rw [List.drop_of_length_le (by simpa using hge)] at hR
    have hf := fin _ _ hI
    wp_walk
    have : res = (items.size == items2.size) := by simpa using hR.symm
    rw [this] at hf
    simpa [Builtin.Tuple.tupleCompareSizes] using hf
  case h =>
    exact ⟨rfl, 0, rfl, h0, by simpa using hres⟩
theorem tuple_neI (l b : Addr) (items items2 : Array Value) (n n2 : Nat) (dd dd2 : Option Addr) (sl sl2 : Array (Option Value)) (e : Nat → Bool) (I : Nat → Shared → Prop)
    (turn : ∀ i (h1 : i < items.size) (h2 : i < items2.size) s, I i s → wpAny (model prog w) A.in1 (eqBool items[i] items2[i]) (fun r s' => r = e i ∧ I (i + 1) s') (fun e s' => R (.error e) s') s)
    (fin : ∀ i s, I i s → R (.ok (.ret (.bool (!((List.range (min items.size items2.size)).all e && items.size == items2.size))))) s) {s : Shared}
    (hl1 : s.heap.get? l = some { cls := .type "tuple", dict := dd, data := .seq items n, slots := sl }) (hb1 : s.heap.get? b = some { cls := .type "tuple", dict := dd2, data := .seq items2 n2, slots := sl2 }) (h : I 0 s) :
    wpAny (model prog w) A.in1 (Builtin.«tuple.__ne__» ⟨[.ref l, .ref b], []⟩) (FinOf prog w A R) (fun e s' => R (.error e) s') s := by
  have f2 := AutoSeq1.sub_tuple_tuple
  have hZ : (items.toList.zip items2.toList).length = min items.size items2.size := by simp
  generalize hres : ((List.range (min items.size items2.size)).all e && items.size == items2.size) = res at fin
  have h0 := h
  obtain ⟨hp, g, d, tk, os⟩ := s
  wp_walk using wpAny_loadPart' hl1, wpAny_loadPart' hb1, wpAny_forIn_list _ (fun rest b s' => b.1 = none ∧ ∃ i, rest = (items.toList.zip items2.toList).drop i ∧ I i s' ∧
    (((List.range (min items.size items2.size)).drop i).all e && items.size == items2.size) = res) _
  case turn =>
    rintro ⟨y, x⟩ rest b s' ⟨hb', i, hz, hI, hR⟩
    have hlt : i < (items.toList.zip items2.toList).length := by
      rcases Nat.lt_or_ge i (items.toList.zip items2.toList).length with h' | h'
      · exact h'
      · rw [List.drop_of_length_le h'] at hz; cases hz
    have hm : i < min items.size items2.size := hZ ▸ hlt
    have h1 : i < items.size := Nat.lt_of_lt_of_le hm (Nat.min_le_left _ _)
    have h2 : i < items2.size := Nat.lt_of_lt_of_le hm (Nat.min_le_right _ _)
    rw [List.drop_eq_getElem_cons hlt] at hz
    injection hz with hyx hrest
    have hy : y = items[i] := by have := congrArg Prod.fst hyx; simpa using this
    have hx : x = items2[i] := by have := congrArg Prod.snd hyx; simpa using this
    subst hy hx
    have hd : (List.range (min items.size items2.size)).drop i = i :: (List.range (min items.size items2.size)).drop (i + 1) := by simp [List.drop_eq_getElem_cons, hm]
    rw [hd, List.all_cons] at hR
    refine wpAny_bind (wpAny_mono (turn i h1 h2 s' hI) (fun r s2 q2 => ?_) fun _ _ x => x)
    obtain ⟨hr, q2⟩ := q2
    subst hr
    have hf := fin _ _ q2
    cases hy : e i with
    | true =>
      rw [hy] at hR
      wp_walk
      exact ⟨rfl, i + 1, hrest, q2, by simpa using hR⟩
    | false =>
      rw [hy] at hR
      have hres' : res = false := by simpa using hR.symm
      rw [hres'] at hf
      wp_walk
      exact hf
  case fin =>
    rintro ⟨b1, b2⟩ s' ⟨hb', i, hz, hI, hR⟩
    simp only at hb'
    subst hb'
    have hge : min items.size items2.size ≤ i := by
      rcases Nat.lt_or_ge i (items.toList.zip items2.toList).length with h' | h'
      · rw [List.drop_eq_getElem_cons h'] at hz; cases hz
      · exact hZ ▸ h'
    rw [List.drop_of_length_le (by simpa using hge)] at hR
    have hf := fin _ _ hI
    wp_walk
    have : res = (items.size == items2.size) := by simpa using hR.symm
    rw [this] at hf
    simpa [Builtin.Tuple.tupleCompareSizes, bne] using hf
  case h =>
    exact ⟨rfl, 0, rfl, h0, by simpa using hres⟩
/-- two lists, read anew at each turn: N items each -/
def ListE (prog : Program) (w : World) (A : Around) (E : Value → Shared → Prop) (l b : Addr) (N : Nat) (e : Nat → Bool) (I : Nat → Shared → Prop) : Prop :=
  ∀ i s, I i s → ∃ (items items2 : Array Value) (n n2 : Nat), s.heap.get? l = some { cls := .type "list", data := .seq items n } ∧ s.heap.get? b = some { cls := .type "list", data := .seq items2 n2 } ∧ items.size = N ∧ items2.size = N ∧
    ∀ (h1 : i < items.size) (h2 : i < items2.size), wpAny (model prog w) A.in1 (eqBool items[i] items2[i]) (fun r s' => r = e i ∧ I (i + 1) s') E s
theorem list_loopI (ne : Bool) (l b : Addr) (N : Nat) (e : Nat → Bool) (I : Nat → Shared → Prop) (hl : ListE prog w A (fun e s' => R (.error e) s') l b N e I)
    (fin : ∀ i s, I i s → R (.ok (.ret (.bool (ne != (List.range N).all e)))) s) (k : Nat) :
    ∀ i : Nat, N - i = k → i ≤ N → ∀ s, I i s → ((List.range N).drop i).all e = (List.range N).all e →
      wpAny (model prog w) A.in1 (Builtin.«list.__eq__.loop» ⟨[.ref l, .ref b, rawInt i, rawInt (if ne then 3 else 2)], []⟩) (FinOf prog w A R) (fun e s' => R (.error e) s') s := by
  induction k with
  | zero =>
    intro i hk hi s h hd0
    have hf := fin _ _ h
    obtain ⟨items, items2, n, n2, hl1, hb1, hs1, hs2, _⟩ := hl _ _ h
    have hd : (List.range N).drop i = [] := by simp; omega
    rw [hd] at hd0
    obtain ⟨hp, g, d, tk, os⟩ := s
    have hi1 : items[((i : Nat) : Int).toNat]? = none := by simp; omega
    have hi2 : items2[((i : Nat) : Int).toNat]? = none := by simp; omega
    cases ne with
    | false =>
      wp_walk using wpAny_loadPart' hl1, wpAny_loadPart' hb1
      rw [hi1, hi2]
      wp_walk using wpAny_loadPart' hl1, wpAny_loadPart' hb1
      show R (.ok (.ret (.bool (items.size == items2.size)))) _
      rw [← hd0] at hf
      rw [hs1, hs2]
      simpa using hf
    | true =>
      wp_walk using wpAny_loadPart' hl1, wpAny_loadPart' hb1
      rw [hi1, hi2]
      wp_walk using wpAny_loadPart' hl1, wpAny_loadPart' hb1
      show R (.ok (.ret (.bool (items.size != items2.size)))) _
      rw [← hd0] at hf
      rw [hs1, hs2]
      simpa using hf
  | succ k ih =>
    intro i hk hi s h hd0
    obtain ⟨items, items2, n, n2, hl1, hb1, hs1, hs2, turn⟩ := hl _ _ h
    have hlt : i < items.size := by omega
    have hlt2 : i < items2.size := by omega
    have ht := turn hlt hlt2
    obtain ⟨hp, g, d, tk, os⟩ := s
    have hi1 : items[((i : Nat) : Int).toNat]? = some items[i] := by simp [hlt]
    have hi2 : items2[((i : Nat) : Int).toNat]? = some items2[i] := by simp [hlt2]
    have hd : (List.range N).drop i = i :: (List.range N).drop (i + 1) := by
      rw [List.drop_eq_getElem_cons (by simp; omega)]; simp
    have hc : ((i : Int) + 1) = ((i + 1 : Nat) : Int) := by omega
    rw [hd, List.all_cons] at hd0
    cases ne with
    | false =>
      wp_walk using wpAny_loadPart' hl1, wpAny_loadPart' hb1
      rw [hi1, hi2]
      refine wpAny_bind (wpAny_mono ht (fun r s2 h2 => ?_) fun _ _ x => x)
      obtain ⟨hr, h2⟩ := h2
      subst hr
      have hf := fin _ _ h2
      obtain ⟨jt, jt2, m, m2, hl2, hb2, hs3, hs4, _⟩ := hl _ _ h2
      cases hy : e i with
      | true =>
        rw [hy] at hd0
        have hrec := ih (i + 1) (by omega) (by omega) s2 h2 (by simpa using hd0)
        obtain ⟨hp2, g2, d2, tk2, os2⟩ := s2
        wp_walk
        rw [hc]
        exact ⟨plainId_quiet plain_eq_loop _, codeAny_builtin entry_eq_loop (by
          rw [Around.under_plainId plain_eq_loop _]
          exact hrec)⟩
      | false =>
        rw [hy] at hd0
        rw [← hd0] at hf
        have hj1 : jt[((i : Nat) : Int).toNat]? = some (jt[i]'(by omega)) := by simp
        have hj2 : jt2[((i : Nat) : Int).toNat]? = some (jt2[i]'(by omega)) := by simp
        obtain ⟨hp2, g2, d2, tk2, os2⟩ := s2
        wp_walk using wpAny_loadPart' hl2, wpAny_loadPart' hb2
        rw [hj1, hj2]
        wp_walk
        simpa using hf
    | true =>
      wp_walk using wpAny_loadPart' hl1, wpAny_loadPart' hb1
      rw [hi1, hi2]
      refine wpAny_bind (wpAny_mono ht (fun r s2 h2 => ?_) fun _ _ x => x)
      obtain ⟨hr, h2⟩ := h2
      subst hr
      have hf := fin _ _ h2
      obtain ⟨jt, jt2, m, m2, hl2, hb2, hs3, hs4, _⟩ := hl _ _ h2
      cases hy : e i with
      | true =>
        rw [hy] at hd0
        have hrec := ih (i + 1) (by omega) (by omega) s2 h2 (by simpa using hd0)
        obtain ⟨hp2, g2, d2, tk2, os2⟩ := s2
        wp_walk
        rw [hc]
        exact ⟨plainId_quiet plain_eq_loop _, codeAny_builtin entry_eq_loop (by
          rw [Around.under_plainId plain_eq_loop _]
          exact hrec)⟩
      | false =>
        rw [hy] at hd0
        rw [← hd0] at hf
        have hj1 : jt[((i : Nat) : Int).toNat]? = some (jt[i]'(by omega)) := by simp
        have hj2 : jt2[((i : Nat) : Int).toNat]? = some (jt2[i]'(by omega)) := by simp
        obtain ⟨hp2, g2, d2, tk2, os2⟩ := s2
        wp_walk using wpAny_loadPart' hl2, wpAny_loadPart' hb2
        rw [hj1, hj2]
        wp_walk
        simpa using hf
theorem list_eqI (l b : Addr) (N : Nat) (e : Nat → Bool) (I : Nat → Shared → Prop) (hl : ListE prog w A (fun e s' => R (.error e) s') l b N e I)
    (fin : ∀ i s, I i s → R (.ok (.ret (.bool ((List.range N).all e)))) s) {s : Shared} (h : I 0 s) :
    wpAny (model prog w) A.in1 (Builtin.«list.__eq__» ⟨[.ref l, .ref b], []⟩) (FinOf prog w A R) (fun e s' => R (.error e) s') s := by
  obtain ⟨items, items2, n, n2, hl1, hb1, hs1, hs2, _⟩ := hl _ _ h
  have hrec := list_loopI (A := A) (R := R) false l b N e I hl (by simpa using fin) _ 0 rfl (Nat.zero_le _) s h rfl
  obtain ⟨hp, g, d, tk, os⟩ := s
  have f3 := AutoSeq1.sub_list_list
  have hne : ¬ (items.size != items2.size) = true := by simp [hs1, hs2]
  wp_walk using wpAny_loadPart' hl1, wpAny_loadPart' hb1
  exact ⟨plainId_quiet plain_eq_loop _, codeAny_builtin entry_eq_loop (by
    rw [Around.under_plainId plain_eq_loop _]
    exact hrec)⟩
theorem list_neI (l b : Addr) (N : Nat) (e : Nat → Bool) (I : Nat → Shared → Prop) (hl : ListE prog w A (fun e s' => R (.error e) s') l b N e I)
    (fin : ∀ i s, I i s → R (.ok (.ret (.bool (!(List.range N).all e)))) s) {s : Shared} (h : I 0 s) :
    wpAny (model prog w) A.in1 (Builtin.«list.__ne__» ⟨[.ref l, .ref b], []⟩) (FinOf prog w A R) (fun e s' => R (.error e) s') s := by
  obtain ⟨items, items2, n, n2, hl1, hb1, hs1, hs2, _⟩ := hl _ _ h
  have hrec := list_loopI (A := A) (R := R) true l b N e I hl (by simpa using fin) _ 0 rfl (Nat.zero_le _) s h rfl
  obtain ⟨hp, g, d, tk, os⟩ := s
  have f3 := AutoSeq1.sub_list_list
  have hne : ¬ (items.size != items2.size) = true := by simp [hs1, hs2]
  wp_walk using wpAny_loadPart' hl1, wpAny_loadPart' hb1
  exact ⟨plainId_quiet plain_eq_loop _, codeAny_builtin entry_eq_loop (by
    rw [Around.under_plainId plain_eq_loop _]
    exact hrec)⟩
end
section
variable {prog : Program} {w : World} {A : Around} {E : Value → Shared → Prop} {s : Shared}
theorem rc_tupI (ne : Bool) {l b : Addr} {items items2 : Array Value} {e : Nat → Bool} {Q : Value → Shared → Prop} (hu : A.units < cLine) (I : Nat → Shared → Prop) (hl : s.heap.IsTuple l items) (hb : s.heap.IsTuple b items2)
    (turn : ∀ i (h1 : i < items.size) (h2 : i < items2.size) s, I i s → wpAny (model prog w) A.in1 (eqBool items[i] items2[i]) (fun r s' => r = e i ∧ I (i + 1) s') E s)
    (fin : ∀ i s, I i s → Q (.bool (ne != ((List.range (min items.size items2.size)).all e && items.size == items2.size))) s) (h : I 0 s) :
    wpAny (model prog w) A (richCompare (if ne then .NotEq else .Eq) (.ref l) (.ref b)) Q E s := by
  obtain ⟨⟨cls, dd, data, sl⟩, ho, hc, n, hd⟩ := id hl
  obtain ⟨⟨cls2, dd2, data2, sl2⟩, ho2, hc2, n2, hd2⟩ := id hb
  simp only at hc hd hc2 hd2
  subst hc hd hc2 hd2
  cases ne with
  | false =>
    refine wpAny_richCompare_same_room (op := .Eq) ⟨_, ho, rfl⟩ ⟨_, ho2, rfl⟩ F.slot_tuple_eq (call_here F.slot_tuple_eq ⟨_, ho, rfl⟩ F.entry_tuple_eq (F.args_tuple_eq_2 _ _) ?_) hu
    exact tuple_eqI (R := wants (fun v s' => v ≠ .notImplemented ∧ Q v s') E) l b items items2 n n2 dd dd2 sl sl2 e I turn (fun i s' q => ⟨(fun x => nomatch x), by simpa using fin i s' q⟩) ho ho2 h
  | true =>
    refine wpAny_richCompare_same_room (op := .NotEq) ⟨_, ho, rfl⟩ ⟨_, ho2, rfl⟩ F.slot_tuple_ne (call_here F.slot_tuple_ne ⟨_, ho, rfl⟩ F.entry_tuple_ne (F.args_tuple_ne_2 _ _) ?_) hu
    exact tuple_neI (R := wants (fun v s' => v ≠ .notImplemented ∧ Q v s') E) l b items items2 n n2 dd dd2 sl sl2 e I turn (fun i s' q => ⟨(fun x => nomatch x), by simpa using fin i s' q⟩) ho ho2 h
theorem rc_listI (ne : Bool) {l b : Addr} {N : Nat} {e : Nat → Bool} {Q : Value → Shared → Prop} (hu : A.units < cLine) (I : Nat → Shared → Prop) (hl : ListE prog w A E l b N e I)
    (fin : ∀ i s, I i s → Q (.bool (ne != (List.range N).all e)) s) (h : I 0 s) : wpAny (model prog w) A (richCompare (if ne then .NotEq else .Eq) (.ref l) (.ref b)) Q E s := by
  obtain ⟨items, items2, n, n2, hl1, hb1, _, _, _⟩ := hl _ _ h
  cases ne with
  | false =>
    refine wpAny_richCompare_same_room (op := .Eq) ⟨_, hl1, rfl⟩ ⟨_, hb1, rfl⟩ F.slot_list_eq (call_here F.slot_list_eq ⟨_, hl1, rfl⟩ F.entry_list_eq (F.args_list_eq_2 _ _) ?_) hu
    exact list_eqI (R := wants (fun v s' => v ≠ .notImplemented ∧ Q v s') E) l b N e I hl (fun i s' q => ⟨(fun x => nomatch x), by simpa using fin i s' q⟩) h
  | true =>
    refine wpAny_richCompare_same_room (op := .NotEq) ⟨_, hl1, rfl⟩ ⟨_, hb1, rfl⟩ F.slot_list_ne (call_here F.slot_list_ne ⟨_, hl1, rfl⟩ F.entry_list_ne (F.args_list_ne_2 _ _) ?_) hu
    exact list_neI (R := wants (fun v s' => v ≠ .notImplemented ∧ Q v s') E) l b N e I hl (fun i s' q => ⟨(fun x => nomatch x), by simpa using fin i s' q⟩) h
end
end Mn.EqI

set_option maxRecDepth 100000
set_option maxHeartbeats 2000000
/-! calls' facts; == and != of data -/
namespace Mn
open PySem PySem.Spec PyProof.Rows L2

/-- a def of the row -/
structure FnI (K : PySem.W.Frag) (G : Gx) (f : Nat) (fn : Fn) (a : Addr) (fd : FuncData) (ps : List Str) : Prop where
  at_ : G.fnA f = some a
  isf : PySem.W.isFn K (.ref a) = true
  kp : PySem.W.keepIn K (.ref a) = true
  np : ps.length = fn.np
  bd : ∀ m, m ≤ fn.np → fn.np ≤ m + fn.dfl.length → ∃ dvs ds, Vals dvs ds ∧ (∀ F, Reps G F (fn.dfl.drop (fn.dfl.length - (fn.np - m))) dvs) ∧ Binds K fd ps ds
/-- what a call promises -/
def spM (G : Gx) (n : Nat) (call : List A → Sto → R A) : Sp := fun vs H Q E => ∃ W S args, vs.length = n ∧ StOk G W H S ∧ AVs G W args vs ∧ Good G (fun cls dx _ H => E cls dx H) (RA G) [] W H (call args S) Q
/-- the defs at the levels up to n -/
def CallsAt (X : L2.Cx) (G : Gx) (n : Nat) : Prop := ∀ j, j ≤ n → ∀ f fn, G.Γ.fn f = some fn → ∃ a fd ps, FnI X.K G f fn a fd ps ∧ FnOk X.prog X.w X.K X.mg X.base (L2.CX X.prog X.w) j a fd ps (spM G ps.length (callM G.Γ j f))

theorem eqBool_neG {prog : Program} {w : World} {A : Around} {E : Value → Shared → Prop} {s : Shared} {l : Addr} {b : Value} {Q : Bool → Shared → Prop} (hne : b ≠ .ref l) (h : wpAny (model prog w) A (richCompare .Eq (.ref l) b) (fun v s' => ∃ r, v = .bool r ∧ Q r s') E s) : wpAny (model prog w) A (eqBool (.ref l) b) Q E s := by
  unfold eqBool
  refine wpAny_holding ?_
  refine wpAny_ite_split (fun hab => absurd (eq_of_beq hab).symm hne) (fun _ => ?_)
  refine wpAny_bind (wpAny_mono h (fun v s' hv => ?_) fun _ _ x => x)
  obtain ⟨r, rfl, q⟩ := hv
  exact wpAny_truthy_bool q
/-- a data class's own == -/
structure EqCls (K : PySem.W.Frag) (G : Gx) (C : Addr) (f : Nat) : Prop where
  at_ : ∀ a, G.fnA f = some a → PySem.W.findIn K (.ref C) "__eq__" = some (some (.ref a))
  ty : ∀ t ∈ (["NoneType", "bool", "int", "str", "list", "tuple"] : List String), PySem.W.notFirst K C (.type t) = true
  cl : ∀ c' C', G.clA c' = some C' → PySem.W.notFirst K C (.ref C') = true
/-- == of the data classes in the row -/
def EqRow (K : PySem.W.Frag) (G : Gx) : Prop := ∀ c cl C, G.Γ.cl c = some cl → cl.mu = false → G.clA c = some C → ∃ f fn, cl.meths.lookup 4 = some f ∧ G.Γ.fn f = some fn ∧ fn.np = 2 ∧ EqCls K G C f
/-- what == of a data class computes -/
def EqSpec (Γ : Prog) : Prop := ∀ c cl f, Γ.cl c = some cl → cl.mu = false → cl.meths.lookup 4 = some f → ∀ k l e S, k < tooDeep → l.length = cl.flds.length → (∀ d m cl', e = .obj d m → Γ.cl d = some cl' → m.length = cl'.flds.length) →
  eqN (.obj c l) e ≤ k → callM Γ k f [.val (.obj c l), .val e] S = .ok (.val (.bl (eqD Γ (.obj c l) e))) S

section
variable {X : L2.Cx} {G : Gx} {rc : RC}
/-- what is kept -/
def Kept (X : L2.Cx) (G : Gx) (pins : List (Addr × Obj)) (σ : L2.St) (W : Wd) (H : Hp) (S : Sto) (s' : Shared) : Prop := ∃ H' W', Inv X pins σ H' s' ∧ StOk G W' H' S ∧ Xt W H W' H'
/-- == inside a builtin -/
def EqB (X : L2.Cx) (G : Gx) (n : Nat) (d e : D) : Prop :=
  ∀ (A : Around) (pins : List (Addr × Obj)) (s : Shared) (σ : L2.St) (W : Wd) (H : Hp) (S : Sto) (x y : V) (u v : Value), Sub X n A → Inv X pins σ H s → RelV x u → RelV y v → StOk G W H S → Rep G W.F d x → Rep G W.F e y →
    wpAny (model X.prog X.w) A (eqBool u v) (fun r s' => r = eqD G.Γ d e ∧ Kept X G pins σ W H S s') X.xe s
/-- ==, != as an operator -/
def RcB (X : L2.Cx) (G : Gx) (ne : Bool) (n : Nat) (d e : D) : Prop :=
  ∀ (A : Around) (pins : List (Addr × Obj)) (s : Shared) (σ : L2.St) (W : Wd) (H : Hp) (S : Sto) (x y : V) (u v : Value), Sub X n A → Inv X pins σ H s → RelV x u → RelV y v → StOk G W H S → Rep G W.F d x → Rep G W.F e y →
    wpAny (model X.prog X.w) A (richCompare (if ne then .NotEq else .Eq) u v) (fun r s' => r = .bool (ne != eqD G.Γ d e) ∧ Kept X G pins σ W H S s') X.xe s
theorem Kept.now {pins : List (Addr × Obj)} {σ : L2.St} {W : Wd} {H : Hp} {S : Sto} {s : Shared} (I : Inv X pins σ H s) (st : StOk G W H S) : Kept X G pins σ W H S s := ⟨H, W, I, st, Xt.refl⟩
theorem Kept.trans {pins : List (Addr × Obj)} {σ : L2.St} {W W1 : Wd} {H H1 : Hp} {S : Sto} {s : Shared} (x : Xt W H W1 H1) (k : Kept X G pins σ W1 H1 S s) : Kept X G pins σ W H S s := by
  obtain ⟨H', W', a, b, c⟩ := k
  exact ⟨H', W', a, b, x.trans c⟩
theorem isList_of {h : Heap} {a : Addr} {its : Array Value} {n : Nat} (e : h.get? a = some { cls := .type "list", data := .seq its n }) : h.IsList a its := ⟨_, e, rfl, n, rfl⟩
/-- a frozen list -/
theorem rd_list {pins : List (Addr × Obj)} {σ : L2.St} {W : Wd} {H : Hp} {S : Sto} {s : Shared} (I : Inv X pins σ H s) (st : StOk G W H S) {a : Addr} {vs : List V} (h : Rd W.F a (.lst vs)) :
    ∃ (its : List Value) (n : Nat), Vals vs its ∧ s.heap.get? a = some { cls := .type "list", data := .seq its.toArray n } := by
  obtain ⟨z, its, n, r, e⟩ := (h.ext st.sub).ok I.hok
  exact ⟨its, n, r, e⟩
theorem b2i_ite (b : Bool) : b2i b = if b then 1 else 0 := rfl

/-! the flat pairs -/
theorem le_tooDeep {n m : Nat} (h : tooDeep ≤ n) (hn : n < tooDeep) : m = n := by omega
section
variable {A : Around} {pins : List (Addr × Obj)} {s : Shared} {σ : L2.St} {W : Wd} {H : Hp} {S : Sto} {n : Nat}
/-- where the answer is seen at once -/
theorem rcB_at {b : Bool} {ne : Bool} {u v : Value} (I : Inv X pins σ H s) (st : StOk G W H S) (h1 : SeqAt.RcAt A s u v b) (h2 : SeqAt.RcNeAt A s u v (!b)) :
    wpAny (model X.prog X.w) A (richCompare (if ne then .NotEq else .Eq) u v) (fun r s' => r = .bool (ne != b) ∧ Kept X G pins σ W H S s') X.xe s := by
  cases ne with
  | false => exact h1 X.prog X.w X.xe _ ⟨by simp, Kept.now I st⟩
  | true => exact h2 X.prog X.w X.xe _ ⟨by simp, Kept.now I st⟩
end
/-- the item by item -/
def Turn (X : L2.Cx) (G : Gx) (n : Nat) : Prop := ∀ d e, eqN d e ≤ n → EqB X G n d e
def eAt (Γ : Prog) (l m : List D) (i : Nat) : Bool := match l[i]?, m[i]? with
  | some d, some e => eqD Γ d e
  | _, _ => true
theorem eqNs_at : ∀ {l m : List D} {i : Nat} {d e : D}, l[i]? = some d → m[i]? = some e → eqN d e ≤ eqNs l m
  | [], _, _, _, _, h, _ => by simp at h
  | _ :: _, [], _, _, _, _, h => by simp at h
  | x :: l, y :: m, 0, d, e, h, h' => by
    simp at h h'; subst h; subst h'
    simp only [eqNs]; omega
  | x :: l, y :: m, i + 1, d, e, h, h' => by
    have := eqNs_at (l := l) (m := m) (i := i) (by simpa using h) (by simpa using h')
    simp only [eqNs]; omega
theorem all_range_succ (f : Nat → Bool) (n : Nat) : (List.range (n + 1)).all f = (f 0 && (List.range n).all fun i => f (i + 1)) := by
  rw [List.range_succ_eq_map, List.all_cons, List.all_map]; rfl
theorem eqDs_all (Γ : Prog) : ∀ (l m : List D), eqDs Γ l m = ((List.range (min l.length m.length)).all (eAt Γ l m) && l.length == m.length)
  | [], [] => by simp [eqDs]
  | [], _ :: _ => by simp [eqDs]
  | _ :: _, [] => by simp [eqDs]
  | x :: l, y :: m => by
    have h : min (x :: l).length (y :: m).length = min l.length m.length + 1 := by simp [Nat.succ_min_succ]
    rw [h, all_range_succ, eqDs, eqDs_all Γ l m]
    have e0 : eAt Γ (x :: l) (y :: m) 0 = eqD Γ x y := rfl
    have e1 : (fun i => eAt Γ (x :: l) (y :: m) (i + 1)) = eAt Γ l m := by funext i; simp [eAt]
    rw [e0, e1]
    simp [Bool.and_assoc]
section
variable {A : Around} {pins : List (Addr × Obj)} {σ : L2.St} {W : Wd} {H : Hp} {S : Sto} {n : Nat}
theorem turnB (T : Turn X G n) {l m : List D} (hn : eqNs l m ≤ n) (sb : Sub X (n + 1) A) {xs ys : List V} {its its2 : List Value} (rl : Reps G W.F l xs) (rm : Reps G W.F m ys) (r : Vals xs its) (r2 : Vals ys its2)
    (i : Nat) (h1 : i < its.toArray.size) (h2 : i < its2.toArray.size) (s' : Shared) (k : Kept X G pins σ W H S s') :
    wpAny (model X.prog X.w) A.in1 (eqBool its.toArray[i] its2.toArray[i]) (fun r s2 => r = eAt G.Γ l m i ∧ Kept X G pins σ W H S s2) X.xe s' := by
  obtain ⟨H1, W1, I1, st1, x1⟩ := k
  have g1 : its[i]? = some its.toArray[i] := by
    have h1' : i < its.length := by simpa using h1
    rw [List.getElem?_eq_getElem h1'] <;> simp
  have g2 : its2[i]? = some its2.toArray[i] := by
    have h2' : i < its2.length := by simpa using h2
    rw [List.getElem?_eq_getElem h2'] <;> simp
  have k1 : i < l.length := by rw [rl.length, r.length]; simpa using h1
  have k2 : i < m.length := by rw [rm.length, r2.length]; simpa using h2
  obtain ⟨x, hx, qx⟩ := rl.get (List.getElem?_eq_getElem k1)
  obtain ⟨y, hy, qy⟩ := rm.get (List.getElem?_eq_getElem k2)
  obtain ⟨u, hu, ru⟩ := r.get hx
  obtain ⟨v, hv, rv⟩ := r2.get hy
  rw [g1] at hu
  rw [g2] at hv
  rw [Option.some.inj hu, Option.some.inj hv]
  have he : eAt G.Γ l m i = eqD G.Γ l[i] m[i] := by simp [eAt, k1, k2]
  rw [he]
  refine wpAny_mono (T l[i] m[i] (Nat.le_trans (eqNs_at (List.getElem?_eq_getElem k1) (List.getElem?_eq_getElem k2)) hn) A.in1 pins s' σ W1 H1 S x y u v sb.in1 I1 ru rv st1 (qx.mono x1.f) (qy.mono x1.f)) (fun r s2 q => ?_) fun _ _ x => x
  exact ⟨q.1, q.2.trans x1⟩

/-- pairs that need no item -/
def flatN : D → D → Bool
  | .tup _, .tup _ => false
  | .lst _, .lst _ => false
  | .obj _ _, _ => false
  | _, _ => true
theorem flatAns (hK : X.K = G.K) (hn : n < tooDeep) {d e : D} {s : Shared} (he : eqN d e ≤ n) (hf : flatN d e = true) (sb : Sub X n A) {x y : V} {u v : Value} (I : Inv X pins σ H s) (rx : RelV x u) (ry : RelV y v) (st : StOk G W H S) (qx : Rep G W.F d x) (qy : Rep G W.F e y) :
    SeqAt.EqAt A s u v (eqD G.Γ d e) ∧ SeqAt.RcAt A s u v (eqD G.Γ d e) ∧ SeqAt.RcNeAt A s u v (!eqD G.Γ d e) := by
  have hu := sb.room.units0
  have lt {a : Addr} {vs : List V} (h : SqT G.K W.F a vs) : ∃ its, s.heap.IsTuple a its := by
    obtain ⟨its, _, p, _⟩ := I.tuple (by rw [hK]; exact h.ext st.sub)
    exact ⟨_, p⟩
  have ll {a : Addr} {vs : List V} (h : Rd W.F a (.lst vs)) : ∃ its, s.heap.IsList a its := by
    obtain ⟨its, n, _, e⟩ := rd_list I st h
    exact ⟨_, isList_of e⟩
  cases qx with
  | non =>
    cases rx
    cases qy with
    | non => cases ry; exact ⟨.same _, .none_none, .none_none⟩
    | bl b => cases ry; exact ⟨.none_bool b, .none_bool b, .none_bool b⟩
    | int b => obtain ⟨t, rfl⟩ := ry; exact ⟨.none_int b t, .none_int b t, .none_int b t⟩
    | str b => obtain ⟨t, rfl⟩ := ry; exact ⟨.none_str b t, .none_str b t, .none_str b t⟩
    | tup h _ => cases ry; obtain ⟨_, p⟩ := lt h; exact ⟨.none_tuple p hu, .none_tuple p hu, .none_tuple p hu⟩
    | lst h _ => cases ry; obtain ⟨_, p⟩ := ll h; exact ⟨.none_list p hu, .none_list p hu, .none_list p hu⟩
    | obj _ _ _ _ _ _ => exact absurd he (by simp only [eqN]; omega)
    | fn _ => exact absurd he (by simp only [eqN]; omega)
    | cls _ => exact absurd he (by simp only [eqN]; omega)
  | bl a =>
    cases rx
    cases qy with
    | non => cases ry; exact ⟨.bool_none a, .bool_none a, .bool_none a⟩
    | bl b => cases ry; exact ⟨.bool_bool a b, .bool_bool a b, .bool_bool a b⟩
    | int b => obtain ⟨t, rfl⟩ := ry; exact ⟨.bool_int a b t, .bool_int a b t, .bool_int a b t⟩
    | str b => obtain ⟨t, rfl⟩ := ry; exact ⟨.bool_str a b t, .bool_str a b t, .bool_str a b t⟩
    | tup h _ => cases ry; obtain ⟨_, p⟩ := lt h; exact ⟨.bool_tuple a p hu, .bool_tuple a p hu, .bool_tuple a p hu⟩
    | lst h _ => cases ry; obtain ⟨_, p⟩ := ll h; exact ⟨.bool_list a p hu, .bool_list a p hu, .bool_list a p hu⟩
    | obj _ _ _ _ _ _ => exact absurd he (by simp only [eqN]; omega)
    | fn _ => exact absurd he (by simp only [eqN]; omega)
    | cls _ => exact absurd he (by simp only [eqN]; omega)
  | int a =>
    obtain ⟨t', rfl⟩ := rx
    cases qy with
    | non => cases ry; exact ⟨.int_none a t', .int_none a t', .int_none a t'⟩
    | bl b => cases ry; exact ⟨.int_bool a t' b, .int_bool a t' b, .int_bool a t' b⟩
    | int b => obtain ⟨t, rfl⟩ := ry; exact ⟨.int_int a t' b t, .int_int a t' b t, .int_int a t' b t⟩
    | str b => obtain ⟨t, rfl⟩ := ry; exact ⟨.int_str a t' b t, .int_str a t' b t, .int_str a t' b t⟩
    | tup h _ => cases ry; obtain ⟨_, p⟩ := lt h; exact ⟨.int_tuple a t' p hu, .int_tuple a t' p hu, .int_tuple a t' p hu⟩
    | lst h _ => cases ry; obtain ⟨_, p⟩ := ll h; exact ⟨.int_list a t' p hu, .int_list a t' p hu, .int_list a t' p hu⟩
    | obj _ _ _ _ _ _ => exact absurd he (by simp only [eqN]; omega)
    | fn _ => exact absurd he (by simp only [eqN]; omega)
    | cls _ => exact absurd he (by simp only [eqN]; omega)
  | str a =>
    obtain ⟨t', rfl⟩ := rx
    cases qy with
    | non => cases ry; exact ⟨.str_none a t', .str_none a t', .str_none a t'⟩
    | bl b => cases ry; exact ⟨.str_bool a t' b, .str_bool a t' b, .str_bool a t' b⟩
    | int b => obtain ⟨t, rfl⟩ := ry; exact ⟨.str_int a t' b t, .str_int a t' b t, .str_int a t' b t⟩
    | str b => obtain ⟨t, rfl⟩ := ry; exact ⟨.str_str a t' b t, .str_str a t' b t, .str_str a t' b t⟩
    | tup h _ => cases ry; obtain ⟨_, p⟩ := lt h; exact ⟨.str_tuple a t' p hu, .str_tuple a t' p hu, .str_tuple a t' p hu⟩
    | lst h _ => cases ry; obtain ⟨_, p⟩ := ll h; exact ⟨.str_list a t' p hu, .str_list a t' p hu, .str_list a t' p hu⟩
    | obj _ _ _ _ _ _ => exact absurd he (by simp only [eqN]; omega)
    | fn _ => exact absurd he (by simp only [eqN]; omega)
    | cls _ => exact absurd he (by simp only [eqN]; omega)
  | tup h0 _ =>
    cases rx
    obtain ⟨_, p0⟩ := lt h0
    cases qy with
    | non => cases ry; exact ⟨.tuple_none p0 hu, .tuple_none p0 hu, .tuple_none p0 hu⟩
    | bl b => cases ry; exact ⟨.tuple_bool b p0 hu, .tuple_bool b p0 hu, .tuple_bool b p0 hu⟩
    | int b => obtain ⟨t, rfl⟩ := ry; exact ⟨.tuple_int b t p0 hu, .tuple_int b t p0 hu, .tuple_int b t p0 hu⟩
    | str b => obtain ⟨t, rfl⟩ := ry; exact ⟨.tuple_str b t p0 hu, .tuple_str b t p0 hu, .tuple_str b t p0 hu⟩
    | tup h _ => simp [flatN] at hf
    | lst h _ => cases ry; obtain ⟨_, p⟩ := ll h; exact ⟨.tuple_list p0 p hu, .tuple_list p0 p hu, .tuple_list p0 p hu⟩
    | obj _ _ _ _ _ _ => exact absurd he (by simp only [eqN]; omega)
    | fn _ => exact absurd he (by simp only [eqN]; omega)
    | cls _ => exact absurd he (by simp only [eqN]; omega)
  | lst h0 _ =>
    cases rx
    obtain ⟨_, p0⟩ := ll h0
    cases qy with
    | non => cases ry; exact ⟨.list_none p0 hu, .list_none p0 hu, .list_none p0 hu⟩
    | bl b => cases ry; exact ⟨.list_bool b p0 hu, .list_bool b p0 hu, .list_bool b p0 hu⟩
    | int b => obtain ⟨t, rfl⟩ := ry; exact ⟨.list_int b t p0 hu, .list_int b t p0 hu, .list_int b t p0 hu⟩
    | str b => obtain ⟨t, rfl⟩ := ry; exact ⟨.list_str b t p0 hu, .list_str b t p0 hu, .list_str b t p0 hu⟩
    | tup h _ => cases ry; obtain ⟨_, p⟩ := lt h; exact ⟨.list_tuple p0 p hu, .list_tuple p0 p hu, .list_tuple p0 p hu⟩
    | lst h _ => simp [flatN] at hf
    | obj _ _ _ _ _ _ => exact absurd he (by simp only [eqN]; omega)
    | fn _ => exact absurd he (by simp only [eqN]; omega)
    | cls _ => exact absurd he (by simp only [eqN]; omega)
  | obj _ _ _ _ _ _ => simp [flatN] at hf
  | fn _ => exact absurd he (by simp only [eqN]; omega)
  | cls _ => exact absurd he (by simp only [eqN]; omega)
theorem rcB_tups (hK : X.K = G.K) (T : Turn X G n) (ne : Bool) {l m : List D} (hn : eqNs l m ≤ n) : RcB X G ne (n + 1) (.tup l) (.tup m) := by
  intro A pins s σ W H S x y u v sb I rx ry st qx qy
  cases qx with
  | tup h1 q1 =>
    cases qy with
    | tup h2 q2 =>
      cases rx
      cases ry
      obtain ⟨its, r1, p1, _⟩ := I.tuple (by rw [hK]; exact h1.ext st.sub)
      obtain ⟨its2, r2, p2, _⟩ := I.tuple (by rw [hK]; exact h2.ext st.sub)
      refine EqI.rc_tupI ne (e := eAt G.Γ l m) sb.room.units0 (fun _ s' => Kept X G pins σ W H S s') p1 p2 (fun i h1 h2 s' k => turnB T hn sb q1 q2 r1 r2 i h1 h2 s' k) (fun i s' k => ⟨?_, k⟩) (Kept.now I st)
      rw [eqD, eqDs_all, q1.length, q2.length, r1.length, r2.length]
      simp
theorem rcB_lsts (T : Turn X G n) (ne : Bool) {l m : List D} (hn : eqNs l m ≤ n) : RcB X G ne (n + 1) (.lst l) (.lst m) := by
  intro A pins s σ W H S x y u v sb I rx ry st qx qy
  cases qx with
  | lst h1 q1 =>
    cases qy with
    | lst h2 q2 =>
      cases rx
      cases ry
      by_cases hl : l.length = m.length
      · refine EqI.rc_listI ne (e := eAt G.Γ l m) (N := l.length) sb.room.units0 (fun _ s' => Kept X G pins σ W H S s') (fun i s' k => ?_) (fun i s' k => ⟨?_, k⟩) (Kept.now I st)
        · obtain ⟨H1, W1, I1, st1, x1⟩ := id k
          have g1 := h1.ext x1.f
          have g2 := h2.ext x1.f
          obtain ⟨its, n1, r1, e1⟩ := rd_list I1 st1 g1
          obtain ⟨its2, n2, r2, e2⟩ := rd_list I1 st1 g2
          refine ⟨its.toArray, its2.toArray, n1, n2, e1, e2, ?_, ?_, fun h1 h2 => turnB T hn sb q1 q2 r1 r2 i h1 h2 s' k⟩
          · rw [List.size_toArray, ← r1.length, q1.length]
          · rw [List.size_toArray, ← r2.length, hl, q2.length]
        · rw [eqD, eqDs_all, ← hl]
          simp
      · obtain ⟨its, n1, r1, e1⟩ := rd_list I st h1
        obtain ⟨its2, n2, r2, e2⟩ := rd_list I st h2
        have hsz : (its.toArray.size != its2.toArray.size) = true := by
          rw [List.size_toArray, List.size_toArray, ← r1.length, ← r2.length, ← q1.length, ← q2.length]
          simpa using hl
        have hd : eqD G.Γ (.lst l) (.lst m) = false := by
          rw [eqD, eqDs_all]
          simp [hl]
        rw [hd]
        exact rcB_at I st (SeqAt.RcAt.lists_lengths (isList_of e1) (isList_of e2) hsz sb.room.units0) (SeqAt.RcNeAt.lists_lengths (isList_of e1) (isList_of e2) hsz sb.room.units0)

/-- the class of what stands there -/
theorem cls_tup (hK : X.K = G.K) {s : Shared} (I : Inv X pins σ H s) (st : StOk G W H S) {a : Addr} {vs : List V} (h : SqT G.K W.F a vs) : ∃ o, s.heap.get? a = some o ∧ o.cls = .type "tuple" := by
  obtain ⟨its, _, ⟨o, e, hc, _⟩, _⟩ := I.tuple (by rw [hK]; exact h.ext st.sub)
  exact ⟨o, e, hc⟩
theorem cls_lst {s : Shared} (I : Inv X pins σ H s) (st : StOk G W H S) {a : Addr} {vs : List V} (h : Rd W.F a (.lst vs)) : ∃ o, s.heap.get? a = some o ∧ o.cls = .type "list" := by
  obtain ⟨its, n, _, e⟩ := rd_list I st h
  exact ⟨_, e, rfl⟩
theorem cls_obj {s : Shared} (I : Inv X pins σ H s) (st : StOk G W H S) {a C dx : Addr} {fs : List (Str × V)} (h : W.F a = some (.ins C dx fs)) : ∃ o, s.heap.get? a = some o ∧ o.cls = .ref C := by
  obtain ⟨mA, J, _⟩ := ins_get I.hok (st.sub _ _ h)
  exact ⟨_, J.obj, rfl⟩
theorem clA_inj {mg : Str → Option Value} (R : RowOk mg rc G) {c c' : Nat} {C : Addr} (h : G.clA c = some C) (h' : G.clA c' = some C) : c = c' := by
  have := R.clc c C c' C h h'
  simp [PySem.W.kitOne] at this
  exact this
theorem zip_inj {α β : Type} : ∀ {l : List α} {xs ys : List β}, xs.length = l.length → ys.length = l.length → l.zip xs = l.zip ys → xs = ys
  | [], [], [], _, _, _ => rfl
  | _ :: _, [], _, h, _, _ => by simp at h
  | _ :: _, _ :: _, [], _, h, _ => by simp at h
  | [], _ :: _, _, h, _, _ => by simp at h
  | [], [], _ :: _, _, h, _ => by simp at h
  | a :: l, x :: xs, y :: ys, h, h', e => by
    simp only [List.zip_cons_cons, List.cons.injEq, Prod.mk.injEq, true_and] at e
    obtain ⟨rfl, e⟩ := e
    rw [zip_inj (by simpa using h) (by simpa using h') e]
mutual
/-- the same object is equal to itself -/
theorem same_eq (hK : X.K = G.K) {mg : Str → Option Value} (R : RowOk mg rc G) {s : Shared} (I : Inv X pins σ H s) (st : StOk G W H S) : ∀ {d e : D} {v : V}, Rep G W.F d v → Rep G W.F e v → eqN d e < tooDeep → eqD G.Γ d e = true
  | .non, e, _, .non, q, _ => by cases q; rfl
  | .bl b, e, _, .bl _, q, _ => by cases q; simp [eqD]
  | .int i, e, _, .int _, q, _ => by cases q; simp [eqD]
  | .str x, e, _, .str _, q, _ => by cases q; simp [eqD]
  | .tup l, e, _, .tup h r, q, hn => by
    cases q with
    | tup h' r' =>
      have hv := I.tuple_inj (by rw [hK]; exact h.ext st.sub) (by rw [hK]; exact h'.ext st.sub)
      subst hv
      rw [eqD]
      exact same_eqs hK R I st r r' (by simp only [eqN] at hn; omega)
    | lst h' _ =>
      obtain ⟨o, e1, c1⟩ := cls_tup hK I st h
      obtain ⟨o', e2, c2⟩ := cls_lst I st h'
      rw [e1] at e2; cases e2; rw [c1] at c2; simp at c2
    | obj _ _ h' _ _ _ => exact absurd hn (by simp [eqN])
    | fn _ => exact absurd hn (by simp [eqN])
    | cls _ => exact absurd hn (by simp [eqN])
  | .lst l, e, _, .lst h r, q, hn => by
    cases q with
    | lst h' r' =>
      obtain ⟨its, n1, q1, e1⟩ := rd_list I st h
      obtain ⟨its2, n2, q2, e2⟩ := rd_list I st h'
      rw [e1] at e2
      simp only [Option.some.injEq, Obj.mk.injEq, Data.seq.injEq, true_and, and_true] at e2
      have hi : its = its2 := by simpa using e2.1
      subst hi
      have hv := q1.inj q2
      subst hv
      rw [eqD]
      exact same_eqs hK R I st r r' (by simp only [eqN] at hn; omega)
    | tup h' _ =>
      obtain ⟨o, e1, c1⟩ := cls_lst I st h
      obtain ⟨o', e2, c2⟩ := cls_tup hK I st h'
      rw [e1] at e2; cases e2; rw [c1] at c2; simp at c2
    | obj _ _ h' _ _ _ => exact absurd hn (by simp [eqN])
    | fn _ => exact absurd hn (by simp [eqN])
    | cls _ => exact absurd hn (by simp [eqN])
  | .obj c l, e, _, .obj h1 h2 h3 h4 h5 r, q, hn => by
    cases q with
    | obj k1 k2 k3 k4 k5 r' =>
      rw [h3] at k3
      simp only [Option.some.injEq, HO.ins.injEq] at k3
      obtain ⟨rfl, rfl, kz⟩ := k3
      have := clA_inj R h2 k2
      subst this
      have h1' := h1.1
      rw [k1.1] at h1'
      cases h1'
      have hv := zip_inj (by simpa using h5) (by simpa using k5) kz
      subst hv
      simp only [eqD, beq_self_eq_true, Bool.true_and, k1.1]
      exact same_eqm hK R I st r r' (by simp only [eqN] at hn; omega) _
    | tup h' _ =>
      obtain ⟨o, e1, c1⟩ := cls_obj I st h3
      obtain ⟨o', e2, c2⟩ := cls_tup hK I st h'
      rw [e1] at e2; cases e2; rw [c1] at c2; simp at c2
    | lst h' _ =>
      obtain ⟨o, e1, c1⟩ := cls_obj I st h3
      obtain ⟨o', e2, c2⟩ := cls_lst I st h'
      rw [e1] at e2; cases e2; rw [c1] at c2; simp at c2
    | fn _ => exact absurd hn (by simp [eqN])
    | cls _ => exact absurd hn (by simp [eqN])
  | .fn _, e, _, .fn _, _, hn => absurd hn (by simp [eqN])
  | .cls _, e, _, .cls _, _, hn => absurd hn (by simp [eqN])
theorem same_eqs (hK : X.K = G.K) {mg : Str → Option Value} (R : RowOk mg rc G) {s : Shared} (I : Inv X pins σ H s) (st : StOk G W H S) : ∀ {l m : List D} {vs : List V}, Reps G W.F l vs → Reps G W.F m vs → eqNs l m < tooDeep → eqDs G.Γ l m = true
  | [], m, _, .nil, q, _ => by cases q; rfl
  | d :: l, m, _, .cons h r, q, hn => by
    cases q with
    | cons h' r' =>
      simp only [eqNs] at hn
      rw [eqDs, same_eq hK R I st h h' (by omega), same_eqs hK R I st r r' (by omega)]
      rfl
theorem same_eqm (hK : X.K = G.K) {mg : Str → Option Value} (R : RowOk mg rc G) {s : Shared} (I : Inv X pins σ H s) (st : StOk G W H S) : ∀ {l m : List D} {vs : List V}, Reps G W.F l vs → Reps G W.F m vs → eqNs l m < tooDeep → ∀ ms, eqDm G.Γ ms l m = true
  | [], m, _, .nil, q, _, ms => by cases q; rfl
  | d :: l, m, _, .cons h r, q, hn, ms => by
    cases q with
    | cons h' r' =>
      simp only [eqNs] at hn
      rw [eqDm, same_eq hK R I st h h' (by omega), same_eqm hK R I st r r' (by omega)]
      simp
end
/-- an own == -/
theorem rcB_own (hK : X.K = G.K) {mg : Str → Option Value} (R : RowOk mg rc G) (ER : EqRow G.K G) (ES : EqSpec G.Γ) (CA : CallsAt X G n) (hn : n < tooDeep) {c : Nat} {l : List D} {e : D} (he : eqN (.obj c l) e ≤ n) : RcB X G false n (.obj c l) e := by
  intro A pins s σ W H S x y u v sb I rx ry st qx qy
  obtain ⟨vs, hqx⟩ : ∃ vs : List V, vs.length = l.length := ⟨l.map fun _ => .non, by simp⟩
  have qx0 := qx
  cases qx with
  | @obj _ cl a C dx us _ h1 h2 h3 h4 h5 r =>
    cases rx
    obtain ⟨f, fn, e1, e2, e3, E⟩ := ER _ _ _ h1.1 h1.2 h2
    obtain ⟨fa, fd, ps, FI, F⟩ := CA n (Nat.le_refl _) f fn e2
    obtain ⟨mA, J, _⟩ := ins_get I.hok (st.sub _ _ h3)
    obtain ⟨od, J, _⟩ := J.look
    obtain ⟨m, hF⟩ := I.fr
    have hty : ∃ t, isTy 0 e = some t := by
      cases e with
      | fn _ => exact absurd he (by simp only [eqN]; omega)
      | cls _ => exact absurd he (by simp only [eqN]; omega)
      | _ => exact ⟨_, rfl⟩
    obtain ⟨tb, hty⟩ := hty
    obtain ⟨t, ty1, ty2⟩ := ty_of R st qy hty
    rw [← hK] at ty1
    obtain ⟨P, KX, hP, _⟩ := kit_of I ry ty1
    have nf : PySem.W.notFirst X.K C t = true := by
      rw [hK]
      rcases ty2 with ⟨c', l', C', rfl, k, rfl⟩ | ⟨nm, hm, rfl, _⟩
      · exact E.cl _ _ k
      · exact E.ty _ hm
    refine PySem.W.cmp_K (op := .Eq) sb.room.units0 hF I.ok.mod.kin J (KX.ty _ _ I.kIn hP) nf (by rw [hK]; exact E.at_ fa FI.at_) FI.isf ?_
    have hps : ps.length = 2 := by rw [FI.np, e3]
    have hlen : l.length = cl.flds.length := by rw [r.length, h5]
    have spec := ES c cl f h1.1 h1.2 e1 n l e S hn hlen (fun d m cl' z hz => by
      subst z
      cases qy with
      | obj k1 k2 k3 k4 k5 r' =>
        rw [k1.1] at hz; cases hz
        rw [r'.length, k5]) he
    have hsp : spM G ps.length (callM G.Γ n f) [.ref a, y] H (fun v H' => v = .bl (eqD G.Γ (.obj c l) e) ∧ ∃ W', StOk G W' H' S ∧ Xt W H W' H') (fun _ _ _ => False) := by
      refine ⟨W, S, [.val (.obj c l), .val e], by simp [hps], st, .cons qx0 (.cons qy .nil), ?_⟩
      rw [spec]
      intro v H' W' s1 x1 q
      have q : Rep G W'.F (.bl _) v := q
      cases q
      exact ⟨rfl, W', s1, x1⟩
    have e0 : Env0 X.prog X.w X.K X.mg X.base A X.stack s H := by
      have e := I.env0
      exact ⟨by rw [sb.fr]; exact e.frames, e.mod, e.bs, e.bsz, e.funs, e.frf, e.hok, e.bare⟩
    have r2 : Vals [V.ref a, y] [Value.ref a, v] := .cons rfl (.cons ry .nil)
    obtain ⟨dvs, ds, b1, b2, b3⟩ := FI.bd 2 (by omega) (by omega)
    have hd0 : fn.dfl.drop (fn.dfl.length - (fn.np - 2)) = [] := by simp [e3]
    have b2' := b2 W.F
    rw [hd0] at b2'
    cases b2'
    cases b1
    refine wpAny_call (codeAny_mono (F.run A X.stack s H ⟨[.ref a, v], []⟩ [.ref a, v] [.ref a, y] _ (fun _ _ _ => False) sb.room e0 (by
      have := b3 s [.ref a, v] I.kIn (by simp [hps])
      simpa using this) r2 hsp) fun r s' hq => ?_)
    cases r with
    | error e => exact passAt takes_none5 σ pins H s e s' I hq
    | ok fl =>
      cases fl with
      | ret w =>
        obtain ⟨z, H', I', rz, ez, W', st', x'⟩ := I.after hq
        subst ez
        cases rz
        exact ⟨by simp, H', W', I', st', x'⟩
      | next => exact False.elim hq
      | brk => exact False.elim hq
      | cont => exact False.elim hq
end
/-- everything -/
theorem eq_all (hK : X.K = G.K) {mg : Str → Option Value} (R : RowOk mg rc G) (ER : EqRow G.K G) (ES : EqSpec G.Γ) : ∀ n, n < tooDeep → CallsAt X G n → ∀ d e, eqN d e ≤ n → EqB X G n d e ∧ ∀ ne, (ne && isObjD d) = false → RcB X G ne n d e := by
  intro n
  induction n with
  | zero =>
    intro hn CA d e he
    have hf : flatN d e = true := by
      cases d <;> cases e <;> first | rfl | (simp only [eqN] at he; omega)
    refine ⟨fun A pins s σ W H S x y u v sb I rx ry st qx qy => (flatAns hK hn he hf sb I rx ry st qx qy).1 X.prog X.w X.xe _ ⟨rfl, Kept.now I st⟩, fun ne _ A pins s σ W H S x y u v sb I rx ry st qx qy => ?_⟩
    have q := flatAns hK hn he hf sb I rx ry st qx qy
    exact rcB_at I st q.2.1 q.2.2
  | succ n ih =>
    intro hn CA d e he
    have T : Turn X G n := fun d e he => (ih (by omega) (fun j hj => CA j (by omega)) d e he).1
    by_cases hf : flatN d e = true
    · refine ⟨fun A pins s σ W H S x y u v sb I rx ry st qx qy => (flatAns hK hn he hf sb I rx ry st qx qy).1 X.prog X.w X.xe _ ⟨rfl, Kept.now I st⟩, fun ne _ A pins s σ W H S x y u v sb I rx ry st qx qy => ?_⟩
      have q := flatAns hK hn he hf sb I rx ry st qx qy
      exact rcB_at I st q.2.1 q.2.2
    · have rc : ∀ ne, (ne && isObjD d) = false → RcB X G ne (n + 1) d e := by
        intro ne hne
        cases d with
        | tup l =>
          cases e with
          | tup m => exact rcB_tups hK T ne (by simp only [eqN] at he; omega)
          | _ => exact absurd rfl hf
        | lst l =>
          cases e with
          | lst m => exact rcB_lsts T ne (by simp only [eqN] at he; omega)
          | _ => exact absurd rfl hf
        | obj c l =>
          have : ne = false := by simpa [isObjD] using hne
          subst this
          exact rcB_own hK R ER ES CA hn he
        | _ => exact absurd rfl hf
      refine ⟨fun A pins s σ W H S x y u v sb I rx ry st qx qy => ?_, rc⟩
      have hx : ∃ a, x = .ref a := by
        cases qx with
        | tup _ _ => exact ⟨_, rfl⟩
        | lst _ _ => exact ⟨_, rfl⟩
        | obj _ _ _ _ _ _ => exact ⟨_, rfl⟩
        | fn _ => exact ⟨_, rfl⟩
        | cls _ => exact ⟨_, rfl⟩
        | _ => exact absurd rfl hf
      obtain ⟨a, rfl⟩ := hx
      cases rx
      by_cases hyr : ∃ b, v = .ref b
      · obtain ⟨b, rfl⟩ := hyr
        have hy : y = .ref b := by
          cases y with
          | ref _ => cases ry; rfl
          | int _ => obtain ⟨t, h⟩ := ry; cases h
          | str _ => obtain ⟨t, h⟩ := ry; cases h
          | byt _ => obtain ⟨t, h⟩ := ry; cases h
          | flt _ => obtain ⟨t, h⟩ := ry; cases h
          | _ => cases ry
        subst hy
        by_cases hab : a = b
        · subst hab
          have := same_eq hK R I st qx qy (by omega)
          rw [this]
          exact SeqAt.EqAt.same (A := A) (s := s) (.ref a) X.prog X.w X.xe _ ⟨rfl, Kept.now I st⟩
        · refine GQ.eqBool_refG hab (wpAny_mono (rc false rfl A pins s σ W H S (.ref a) (.ref b) (.ref a) (.ref b) sb I rfl rfl st qx qy) (fun r s' q => ?_) fun _ _ x => x)
          exact ⟨_, q.1, by simp, q.2⟩
      · have hne : ∀ b, v ≠ .ref b := fun b z => hyr ⟨b, z⟩
        refine eqBool_neG (hne a) (wpAny_mono (rc false rfl A pins s σ W H S (.ref a) y (.ref a) v sb I rfl ry st qx qy) (fun r s' q => ?_) fun _ _ x => x)
        exact ⟨_, q.1, by simp, q.2⟩
end
end Mn

set_option maxRecDepth 100000
set_option maxHeartbeats 2000000
/-! calls -/
namespace Mn
open PySem PySem.Spec PyProof.Rows L2

/-- what stands at compile time's names, when it runs -/
def ScFor (sc : Scope) (env : Env) : Prop := ∀ x k, sc.names.lookup x = some k → env.scope.names.lookup x = some k ∨ (k = .free ∧ env.scope.names.lookup x = some .cell)
/-- an operator's name -/
def opn : Op → Operator
  | .add => .Add
  | .sub => .Sub
  | .mul => .Mult
/-- a class of the text, its methods -/
structure ClsRun (K : PySem.W.Frag) (G : Gx) (c : Nat) (cl : Cl) (C : Addr) : Prop where
  makes : PySem.W.makesIn K C = true
  kp : PySem.W.keepIn K (.ref C) = true
  init : ∀ a, G.fnA cl.init = some a → PySem.W.findIn K (.ref C) "__init__" = some (some (.ref a))
  fnm : ∀ m f, cl.meths.lookup m = some f → ∃ a, G.fnA f = some a ∧ PySem.W.isFn K (.ref a) = true
  meth : ∀ m f a, 6 ≤ m → cl.meths.lookup m = some f → G.fnA f = some a → PySem.W.findIn K (.ref C) (G.nm m) = some (some (.ref a)) ∧ ∀ g ∈ cl.flds, G.nm g ≠ G.nm m
  sf : PySem.W.selfFirst K C = true
  op : ∀ (o : Op) f a, cl.meths.lookup o.nm = some f → G.fnA f = some a → PySem.W.findIn K (.ref C) (PySem.dunder (opn o).info.2) = some (some (.ref a))
  opR : ∀ (o : Op) f, cl.meths.lookup o.nm = some f → PySem.W.findIn K (.ref C) (PySem.dunderR (opn o).info.2) = some none
  neg : ∀ f a, cl.meths.lookup 3 = some f → G.fnA f = some a → PySem.W.findIn K (.ref C) "__neg__" = some (some (.ref a))
  sub : ∀ t ∈ (["NoneType", "bool", "int", "str", "list", "tuple"] : List String), PySem.W.subIn K (.type t) (.ref C) = some false
/-- a body's context -/
structure XC (rc : RC) (c : Cc) (k : Nat) (X : L2.Cx) (sc : Scope) (N : List Str) : Prop where
  row : RowOk X.mg rc c.G
  hK : X.K = c.G.K
  hX : c.X = ev c.G.Γ k
  hN : X.N = N
  nd : N.Nodup
  calm : X.calm = true
  room : Room k X.A
  ca : CallsAt X c.G k
  er : EqRow c.G.K c.G
  es : EqSpec c.G.Γ
  cr : ∀ n cl C, c.G.Γ.cl n = some cl → c.G.clA n = some C → ClsRun c.G.K c.G n cl C
  ops : ∀ (o : Op), ∀ t ∈ (["NoneType", "bool", "int", "str", "list", "tuple"] : List String), ∃ fo ro, PySem.W.findIn c.G.K (.type t) (PySem.dunder (opn o).info.2) = some fo ∧ PySem.W.findIn c.G.K (.type t) (PySem.dunderR (opn o).info.2) = some ro
  kpF : ∀ f a, c.G.fnA f = some a → PySem.W.keepIn c.G.K (.ref a) = true
  kpC : ∀ n C, c.G.clA n = some C → PySem.W.keepIn c.G.K (.ref C) = true
  tk : Takes X c.wx
  dg : X.base.NoDigits
  scf : ScFor sc X.env
  kd : X.env.scope.kind = .function
  gdbg : ∀ y g, rc.gl.lookup y = some g → (y == ("__debug__" : Str)) = false
  at6 : ∀ y m, rc.ats.lookup y = some m → 6 ≤ m
  kB : k < tooDeep
  fnc : ∀ y, sc.names.lookup y = some .cell → X.fn y = true
  dbg : ∀ y ∈ N, (y == ("__debug__" : Str)) = false ∧ (y == ("__classdict__" : Str)) = false
section
variable {rc : RC} {c : Cc} {k : Nat} {X : L2.Cx} {sc : Scope} {N : List Str}
theorem XC.hΓ (x : XC rc c k X sc N) : c.X.Γ = c.G.Γ := by rw [x.hX]; cases k <;> rfl
theorem XC.hk (x : XC rc c k X sc N) : c.X.k = k := by rw [x.hX]; cases k <;> rfl
/-- the arguments with the defaults -/
theorem startR_full {fd : Fn} {args : List A} (h1 : args.length ≤ fd.np) (h2 : fd.np ≤ args.length + fd.dfl.length) : startR fd args = startR fd (args ++ (fd.dfl.drop (fd.dfl.length - (fd.np - args.length))).map A.val) := by
  have hl : (args ++ (fd.dfl.drop (fd.dfl.length - (fd.np - args.length))).map A.val).length = fd.np := by
    simp only [List.length_append, List.length_map, List.length_drop]; omega
  by_cases h3 : fd.np ≤ fd.nl
  · have c1 : args.length ≤ fd.np ∧ fd.np ≤ args.length + fd.dfl.length ∧ fd.np ≤ fd.nl := ⟨h1, h2, h3⟩
    have c2 : (args ++ (fd.dfl.drop (fd.dfl.length - (fd.np - args.length))).map A.val).length ≤ fd.np ∧ fd.np ≤ (args ++ (fd.dfl.drop (fd.dfl.length - (fd.np - args.length))).map A.val).length + fd.dfl.length ∧ fd.np ≤ fd.nl := ⟨by omega, by omega, h3⟩
    unfold startR
    rw [if_pos c1, if_pos c2, hl]
    simp
  · unfold startR
    rw [if_neg (fun z => h3 z.2.2), if_neg (fun z => h3 z.2.2)]
theorem callM_full {Γ : Prog} {k f : Nat} {fd : Fn} {args : List A} {S : Sto} (hf : Γ.fn f = some fd) (h1 : args.length ≤ fd.np) (h2 : fd.np ≤ args.length + fd.dfl.length) :
    callM Γ k f args S = callM Γ k f (args ++ (fd.dfl.drop (fd.dfl.length - (fd.np - args.length))).map A.val) S := by
  cases k with
  | zero => rfl
  | succ k =>
    have hΓ : (ev Γ k).Γ = Γ := by cases k <;> rfl
    rw [callM_succ, callM_succ, runB, runB, hΓ, hf]; simp only; rw [startR_full h1 h2]
/-- a call that ends has a def, and the arguments fit -/
theorem callM_fits {Γ : Prog} {k f : Nat} {args : List A} {S : Sto} {α : Type} {o : Fn → α} (h : callM Γ k f args S ≠ .st) : ∃ fd, Γ.fn f = some fd ∧ args.length ≤ fd.np ∧ fd.np ≤ args.length + fd.dfl.length := by
  cases k with
  | zero => exact absurd rfl h
  | succ k =>
    rw [callM_succ, runB] at h
    cases e : (ev Γ k).Γ.fn f with
    | none => rw [e] at h; exact absurd rfl h
    | some fd =>
      rw [e] at h
      have hΓ : (ev Γ k).Γ = Γ := by cases k <;> rfl
      rw [hΓ] at e
      refine ⟨fd, e, ?_⟩
      simp only at h
      unfold startR at h
      by_cases hc : args.length ≤ fd.np ∧ fd.np ≤ args.length + fd.dfl.length ∧ fd.np ≤ fd.nl
      · exact ⟨hc.1, hc.2.1⟩
      · rw [if_neg hc] at h; exact absurd rfl h
theorem AVs.append {G : Gx} {W : Wd} {as bs : List A} {vs us : List V} (h : AVs G W as vs) (h' : AVs G W bs us) : AVs G W (as ++ bs) (vs ++ us) := by
  induction h with
  | nil => exact h'
  | cons h _ ih => exact .cons h ih
theorem AVs.ofReps {G : Gx} {W : Wd} : ∀ {ds : List D} {vs : List V}, Reps G W.F ds vs → AVs G W (ds.map .val) vs
  | _, _, .nil => .nil
  | _, _, .cons h r => .cons h (AVs.ofReps r)
/-- Good does not lean on the slots beyond the wish -/
theorem Good.wish {α β : Type} {G : Gx} {W1 W2 : WX} {RL : Wd → Hp → α → β → Prop} {σ τ : L2.St} {W : Wd} {H : Hp} {r : R α} {Q : β → Hp → Prop} (g : Good G W1 RL σ W H r Q) (h : ∀ cls dx H', W1 cls dx σ H' → W2 cls dx τ H') : Good G W2 RL τ W H r Q := by
  cases r with
  | ok a S' => exact g
  | ex c d S' => exact fun cls dx H' W' s x e => h _ _ _ (g cls dx H' W' s x e)
  | st => exact g
/-- a def runs -/
theorem run_fnM {X : L2.Cx} {G : Gx} {wx : WX} {n : Nat} (tk : Takes X wx) (CA : CallsAt X G n) {A : Around} (hA : Sub X n A) {j f : Nat} (hj : j ≤ n) (hr : Room j A) {pins : List (Addr × Obj)} {σ : L2.St} {W : Wd} {H : Hp} {S : Sto} {s : Shared} {Q : VK} {us : List Value} {vs : List V} {args : List Mn.A} {a : Addr} (ha : G.fnA f = some a)
    (I : Inv X pins σ H s) (st : StOk G W H S) (r : Vals vs us) (ra : AVs G W args vs) (g : Good G wx (RA G) σ W H (callM G.Γ j f args S) Q) :
    wpAny (model X.prog X.w) A (call (.ref a) us) (EP X pins σ Q) X.xe s := by
  have hne : callM G.Γ j f args S ≠ .st := by intro z; rw [z] at g; exact g
  obtain ⟨fd, hf, h1, h2⟩ := callM_fits (o := fun _ => ()) hne
  obtain ⟨a', fdd, ps, FI, F⟩ := CA j hj f fd hf
  have := FI.at_
  rw [ha] at this
  cases this
  obtain ⟨dvs, ds, b1, b2, b3⟩ := FI.bd args.length h1 h2
  rw [callM_full hf h1 h2] at g
  have hlen : (vs ++ dvs).length = ps.length := by
    have e1 := ra.length
    have e2 := (b2 W.F).length
    rw [List.length_append, FI.np, ← e1, ← e2, List.length_drop]
    omega
  have hsp : spM G ps.length (callM G.Γ j f) (vs ++ dvs) H Q (WE wx σ) := ⟨W, S, _, hlen, st, ra.append (AVs.ofReps (b2 W.F)), g.wish fun _ _ _ h => h⟩
  have e0 : Env0 X.prog X.w X.K X.mg X.base A X.stack s H := by
    have e := I.env0
    exact ⟨by rw [hA.fr]; exact e.frames, e.mod, e.bs, e.bsz, e.funs, e.frf, e.hok, e.bare⟩
  have r2 := r.append b1
  refine wpAny_call (codeAny_mono (F.run A X.stack s H ⟨us, []⟩ (us ++ ds) (vs ++ dvs) Q (WE wx σ) hr e0 (b3 s us I.kIn (by rw [← r2.length, hlen])) r2 hsp) fun r s' hq => ?_)
  cases r with
  | error e => exact passAt tk σ pins H s e s' I hq
  | ok fl =>
    cases fl with
    | ret w => exact I.after hq
    | next => exact False.elim hq
    | brk => exact False.elim hq
    | cont => exact False.elim hq
end
end Mn

set_option maxRecDepth 100000
set_option maxHeartbeats 2000000
/-! the store grows and shrinks; instances are made -/
namespace Mn
open PySem PySem.Spec PyProof.Rows L2

section
variable {G : Gx} {F F' : Hp} {al al' : List Addr} {H H' : Hp}
theorem AR.any {a : A} {v : V} {p : List Addr} (h : AR G F al H a v p) (hn : ∀ n, a ≠ .ref n) : AR G F al' H a v p := by
  cases h with
  | val h => exact .val h
  | ref h => exact absurd rfl (hn _)
  | own h r => exact .own h r
  | exc h1 h2 r => exact .exc h1 h2 r
theorem FR.any {fs : List (Nat × A)} {fl : List (Str × V)} {p : List Addr} (h : FR G F al H fs fl p) : FR G F al' H fs fl p := by
  induction h with
  | nil => exact .nil
  | cons hn h r ih => exact .cons hn (h.any hn) ih
theorem SOR.any {o : SO} {a : Addr} {p : List Addr} (h : SOR G F al H o a p) : SOR G F al' H o a p := by
  cases h with
  | lst h r => exact .lst h r
  | ins g1 g2 h1 h2 h3 r => exact .ins g1 g2 h1 h2 h3 r.any
theorem SS.any {S : Sto} {as p : List Addr} (h : SS G F al H S as p) : SS G F al' H S as p := by
  induction h with
  | nil => exact .nil
  | cons h r ih => exact .cons h.any ih
theorem SS.app {S T : Sto} {as bs p q : List Addr} (h : SS G F al H S as p) (h' : SS G F al H T bs q) : SS G F al H (S ++ T) (as ++ bs) (p ++ q) := by
  induction h with
  | nil => exact h'
  | cons h r ih => rw [List.append_assoc]; exact .cons h ih
theorem SS.cut : ∀ {S : Sto} {as p : List Addr} (n : Nat), SS G F al H S as p → ∃ p0 p1, p = p0 ++ p1 ∧ SS G F al H (S.take n) (as.take n) p0 ∧ SS G F al H (S.drop n) (as.drop n) p1
  | _, _, _, 0, h => ⟨[], _, rfl, .nil, h⟩
  | _, _, _, _ + 1, .nil => ⟨[], [], rfl, .nil, .nil⟩
  | _, _, _, n + 1, .cons (p := p) h r => by
    obtain ⟨p0, p1, e, h0, h1⟩ := SS.cut n r
    exact ⟨p ++ p0, p1, by rw [e, List.append_assoc], .cons h h0, h1⟩
end
section
variable {G : Gx} {W W1 W' : Wd} {H H1 H' : Hp} {S S' : Sto}
/-- later objects of the store are forgotten -/
theorem StOk.cut (s : StOk G W H S) (n : Nat) : ∃ q, q ⊆ W.fp ∧ StOk G { F := W.F, al := W.al.take n, fp := q } H (S.take n) := by
  obtain ⟨p0, p1, e, h0, h1⟩ := s.st.cut n
  refine ⟨p0, fun a h => by rw [e]; exact List.mem_append_left _ h, h0.any, ?_, fun a h => s.fr a (by rw [e]; exact List.mem_append_left _ h), s.sub⟩
  have := s.nd
  rw [e] at this
  exact (List.nodup_append.mp this).1
theorem Xt.cut (x : Xt W H W' H') {n : Nat} (hn : n = W.al.length) {q : List Addr} (hq : q ⊆ W'.fp) : Xt W H { F := W'.F, al := W'.al.take n, fp := q } H' where
  f := x.f
  al := by
    obtain ⟨l, e⟩ := x.al
    refine ⟨[], ?_⟩
    show W'.al.take n = W.al ++ []
    rw [e, hn, List.append_nil, List.take_left]
  keep := x.keep
  live := x.live
  fp := fun a h => x.fp a (hq h)
  fz := x.fz
theorem StOk.len (s : StOk G W H S) : S.length = W.al.length := s.st.length
/-- a new instance stands in the store -/
theorem StOk.born (s : StOk G W H S) {c : Nat} {cl : Cl} {C x dx : Addr} (hc : G.Γ.cl c = some cl) (hC : G.clA c = some C) (hx : H x = none) (hd : H dx = none) (hne : dx ≠ x) :
    StOk G { F := W.F, al := W.al ++ [x], fp := W.fp ++ [x, dx] } (upd (upd H dx (.own x)) x (.ins C dx [])) (S ++ [.ins c []]) ∧ Xt W H { F := W.F, al := W.al ++ [x], fp := W.fp ++ [x, dx] } (upd (upd H dx (.own x)) x (.ins C dx [])) := by
  have k : ∀ b o, H b = some o → upd (upd H dx (.own x)) x (.ins C dx []) b = some o := fun b o e => by
    rw [upd_ne (by rintro rfl; rw [hx] at e; cases e), upd_ne (by rintro rfl; rw [hd] at e; cases e)]; exact e
  refine ⟨⟨?_, ?_, ?_, fun b o e => k b o (s.sub b o e)⟩, ⟨Ext.rfl', ⟨[x], rfl⟩, fun b o e _ => k b o e, fun b o e => ⟨o, k b o e⟩, fun a h => ?_, fun a o h => .inl h⟩⟩
  · have h1 := (s.st.mono (al' := W.al ++ [x]) (H' := upd (upd H dx (.own x)) x (.ins C dx [])) Ext.rfl' ⟨[x], rfl⟩ fun b _ o e => k b o e)
    refine h1.app (q := [x, dx] ++ []) (.cons (p := x :: dx :: []) (.ins hc (fun q h => by simp at h) hC upd_same ?_ .nil) .nil)
    rw [upd_ne hne, upd_same]
  · rw [List.nodup_append]
    refine ⟨s.nd, by simp [Ne.symm hne], fun a h b hb z => ?_⟩
    subst z
    obtain ⟨o, e⟩ := s.st.live a h
    simp at hb
    rcases hb with rfl | rfl
    · rw [hx] at e; cases e
    · rw [hd] at e; cases e
  · intro a h
    rcases List.mem_append.mp h with h | h
    · exact s.fr a h
    · simp at h
      rcases h with rfl | rfl
      · exact s.dead hx
      · exact s.dead hd
  · rcases List.mem_append.mp h with h | h
    · exact .inl h
    · simp at h
      rcases h with rfl | rfl
      · exact .inr hx
      · exact .inr hd
/-- the fields of an instance that is done -/
theorem FR.done {F : Hp} {al : List Addr} {H : Hp} : ∀ {flds : List Nat} {fs : List (Nat × A)} {fl : List (Str × V)} {p : List Addr} {l : List D}, FR G F al H fs fl p → fieldsOf flds fs = some l → ∃ vs, fl = (flds.map G.nm).zip vs ∧ vs.length = flds.length ∧ Reps G F l vs
  | [], [], _, _, l, .nil, e => by simp [fieldsOf] at e; subst e; exact ⟨[], rfl, rfl, .nil⟩
  | f :: flds, [], _, _, l, .nil, e => by simp [fieldsOf] at e
  | [], (g, a) :: fs, _, _, l, h, e => by simp [fieldsOf] at e
  | f :: flds, (g, a) :: fs, _, _, l, .cons hn h r, e => by
    cases a with
    | val d =>
      simp only [fieldsOf] at e
      by_cases hg : f = g
      · subst hg
        rw [if_pos rfl, Option.map_eq_some_iff] at e
        obtain ⟨l', e1, rfl⟩ := e
        obtain ⟨vs, e2, e3, e4⟩ := FR.done r e1
        cases h with
        | val h => exact ⟨_ :: vs, by rw [e2]; rfl, by simp [e3], .cons h e4⟩
      · rw [if_neg hg] at e; cases e
    | _ => simp [fieldsOf] at e
/-- a thing done leaves the store as data -/
theorem StOk.freeze (s : StOk G W' H' S') (x : Xt W H W' H') {n : Nat} (hn : n = W.al.length) {c : Nat} {cl : Cl} {fs : List (Nat × A)} {l : List D} (hc : G.Γ.cl c = some cl) (hm : cl.mu = false) (e : S'[n]? = some (.ins c fs)) (hl : S'.length = n + 1) (hf : fieldsOf cl.flds fs = some l)
    {a : Addr} (ha : W'.al[n]? = some a) : ∃ W'', StOk G W'' H' (S'.take n) ∧ Xt W H W'' H' ∧ Rep G W''.F (.obj c l) (.ref a) := by
  obtain ⟨p0, p1, ep, h0, h1⟩ := s.st.cut n
  have hd : S'.drop n = [.ins c fs] := by
    rw [List.drop_eq_getElem_cons (by omega), List.drop_of_length_le (by omega)]
    have := List.getElem?_eq_getElem (l := S') (i := n) (by omega)
    rw [e] at this
    rw [Option.some.inj this]
  have hda' : W'.al.drop n = [a] := by
    have hl' := s.len
    rw [List.drop_eq_getElem_cons (by omega), List.drop_of_length_le (by omega)]
    have := List.getElem?_eq_getElem (l := W'.al) (i := n) (by omega)
    rw [ha] at this
    rw [Option.some.inj this]
  rw [hd, hda'] at h1
  cases h1 with
  | @cons _ _ _ _ p q h1 hr =>
    cases hr
    cases h1 with
    | @ins _ cl' _ C dx _ fl p g1 g2 g3 g4 g5 g6 =>
      rw [hc] at g1; cases g1
      obtain ⟨vs, q1, q2, q3⟩ := g6.done hf
      have nd := s.nd
      rw [ep] at nd
      have nd' := List.nodup_append.mp nd
      have hne : dx ≠ a := by
        have h := nd'.2.1
        simp at h
        exact fun z => h.1.1 z.symm
      have ma : a ∈ W'.fp := by rw [ep]; simp
      have md : dx ∈ W'.fp := by rw [ep]; simp
      have fa := s.fr a ma
      have fd := s.fr dx md
      have ex : Ext W'.F (upd (upd W'.F dx (.own a)) a (.ins C dx fl)) := Ext.upd' (Ext.upd fd) (by rw [upd_ne (Ne.symm hne)]; exact fa)
      refine ⟨{ F := upd (upd W'.F dx (.own a)) a (.ins C dx fl), al := W'.al.take n, fp := p0 }, ⟨?_, nd'.1, ?_, ?_⟩, ⟨x.f.trans ex, ?_, x.keep, x.live, fun b hb => x.fp b (by rw [ep]; exact List.mem_append_left _ hb), ?_⟩, ?_⟩
      · exact (h0.mono (al' := W'.al) ex ⟨[], by simp⟩ fun b _ o e => e).any
      · intro b hb
        have hb' : b ∈ W'.fp := by rw [ep]; exact List.mem_append_left _ hb
        show upd (upd W'.F dx (.own a)) a (.ins C dx fl) b = none
        rw [upd_ne, upd_ne]
        · exact s.fr b hb'
        · rintro rfl; exact nd'.2.2 b hb b (by simp) rfl
        · rintro rfl; exact nd'.2.2 b hb b (by simp) rfl
      · intro b o eb
        have eb : upd (upd W'.F dx (.own a)) a (.ins C dx fl) b = some o := eb
        by_cases z : b = a
        · subst z; rw [upd_same] at eb; cases eb; exact g4
        · rw [upd_ne z] at eb
          by_cases z' : b = dx
          · subst z'; rw [upd_same] at eb; cases eb; exact g5
          · rw [upd_ne z'] at eb; exact s.sub b o eb
      · obtain ⟨m, em⟩ := x.al
        refine ⟨[], ?_⟩
        show W'.al.take n = W.al ++ []
        rw [em, hn, List.append_nil, List.take_left]
      · intro b o eb
        have eb : upd (upd W'.F dx (.own a)) a (.ins C dx fl) b = some o := eb
        by_cases z : b = a
        · subst z; exact (x.fp _ ma).elim (fun q => .inr (.inr q)) fun q => .inr (.inl q)
        · rw [upd_ne z] at eb
          by_cases z' : b = dx
          · subst z'; exact (x.fp _ md).elim (fun q => .inr (.inr q)) fun q => .inr (.inl q)
          · rw [upd_ne z'] at eb; exact x.fz b o eb
      · refine .obj (dx := dx) (vs := vs) ⟨hc, hm⟩ g3 ?_ ?_ q2 (q3.mono ex)
        · show upd (upd W'.F dx (.own a)) a (.ins C dx fl) a = _
          rw [upd_same, q1]
        · show upd (upd W'.F dx (.own a)) a (.ins C dx fl) dx = _
          rw [upd_ne hne, upd_same]
end
end Mn

set_option maxRecDepth 100000
set_option maxHeartbeats 2000000
/-! calls at a body: defs, classes, methods, own operators -/
namespace Mn
open PySem PySem.Spec PyProof.Rows L2
section
variable {rc : RC} {c : Cc} {k : Nat} {X : L2.Cx} {sc : Scope} {N : List Str} {pins : List (Addr × Obj)} {σ : L2.St} {W : Wd} {H : Hp} {S : Sto} {s : Shared} {Q : VK} {us : List Value} {vs : List V} {args : List Mn.A}
/-- a def, called from a body -/
theorem XC.runF (x : XC rc c k X sc N) {f : Nat} {a : Addr} (ha : c.G.fnA f = some a) (I : Inv X pins σ H s) (st : StOk c.G W H S) (r : Vals vs us) (ra : AVs c.G W args vs) (g : Good c.G c.wx (RA c.G) σ W H (c.X.call f args S) Q) :
    wpAny (model X.prog X.w) X.A (call (.ref a) us) (EP X pins σ Q) X.xe s := by
  have hX := x.hX
  cases k with
  | zero => rw [hX] at g; exact g.elim
  | succ k =>
    rw [hX] at g
    exact run_fnM x.tk x.ca ⟨x.room, rfl⟩ (Nat.le_refl _) x.room ha I st r ra g
/-- a class, called from a body -/
theorem XC.runC (x : XC rc c k X sc N) {n : Nat} {C : Addr} (hC : c.G.clA n = some C) (I : Inv X pins σ H s) (st : StOk c.G W H S) (r : Vals vs us) (ra : AVs c.G W args vs) (g : Good c.G c.wx (RA c.G) σ W H (c.X.make n args S) Q) :
    wpAny (model X.prog X.w) X.A (call (.ref C) us) (EP X pins σ Q) X.xe s := by
  have hX := x.hX
  have hΓ := x.hΓ
  unfold Ev.make at g
  rw [hΓ] at g
  cases hcl : c.G.Γ.cl n with
  | none => rw [hcl] at g; exact g.elim
  | some cl =>
    rw [hcl] at g
    simp only at g
    cases k with
    | zero => rw [hX] at g; exact g.elim
    | succ k =>
      have hi : c.X.init = callM c.G.Γ k := by rw [hX]; rfl
      rw [hi] at g
      have CR := x.cr n cl C hcl hC
      obtain ⟨fd, hf, h1, h2⟩ := callM_fits (Γ := c.G.Γ) (k := k) (f := cl.init) (args := .ref S.length :: args) (S := S ++ [.ins n []]) (o := fun _ => ()) (by
        intro z; rw [z] at g; exact g)
      obtain ⟨a, fdd, ps, FI, F⟩ := x.ca k (Nat.le_succ _) cl.init fd hf
      obtain ⟨dvs, ds, b1, b2, b3⟩ := FI.bd _ h1 h2
      rw [callM_full hf h1 h2] at g
      have hlen : (V.ref (s.heap.objs.size + 1) :: (vs ++ dvs)).length = ps.length := by
        have e1 := ra.length
        have e2 := (b2 W.F).length
        simp only [List.length_cons] at h1 h2 e2
        rw [List.length_cons, List.length_append, FI.np, ← e1, ← e2, List.length_drop]
        omega
      have I2 := Inv.made (C := C) I
      have hx0 := I.hok.fresh (Nat.le_succ s.heap.objs.size)
      have hd0 := I.hok.fresh (Nat.le_refl s.heap.objs.size)
      have hne : s.heap.objs.size ≠ s.heap.objs.size + 1 := Nat.ne_of_lt (Nat.lt_succ_self _)
      obtain ⟨st1, xt1⟩ := st.born hcl hC hx0 hd0 hne
      have hlS := st.len
      have rx1 : AV c.G { F := W.F, al := W.al ++ [s.heap.objs.size + 1], fp := W.fp ++ [s.heap.objs.size + 1, s.heap.objs.size] } (.ref S.length) (.ref (s.heap.objs.size + 1)) := ⟨_, by rw [hlS]; simp, rfl⟩
      have ra1 := (AVs.cons rx1 (ra.mono xt1)).append (AVs.ofReps (W := { F := W.F, al := W.al ++ [s.heap.objs.size + 1], fp := W.fp ++ [s.heap.objs.size + 1, s.heap.objs.size] }) (b2 W.F))
      have hq : spM c.G ps.length (callM c.G.Γ k cl.init) (V.ref (s.heap.objs.size + 1) :: (vs ++ dvs)) (upd (upd H s.heap.objs.size (.own (s.heap.objs.size + 1))) (s.heap.objs.size + 1) (.ins C s.heap.objs.size [])) (fun v H2 => v = .non ∧ Q (.ref (s.heap.objs.size + 1)) H2) (WE c.wx σ) := by
        refine ⟨_, S ++ [.ins n []], _, hlen, st1, ra1, ?_⟩
        cases er : callM c.G.Γ k cl.init (.ref S.length :: args ++ (fd.dfl.drop (fd.dfl.length - (fd.np - (Mn.A.ref S.length :: args).length))).map .val) (S ++ [.ins n []]) with
        | st => rw [er] at g; exact g.elim
        | ex e d S' =>
          rw [er] at g
          intro cls dx H' W' s1 x1 xr
          obtain ⟨q, hq, st'⟩ := s1.cut S.length
          exact g cls dx H' _ st' ((xt1.trans x1).cut hlS hq) xr
        | ok v S' =>
          rw [er] at g
          intro u H' W' s1 x1 rv
          cases v with
          | val d =>
            cases d with
            | non =>
              have rv : Rep c.G W'.F .non u := rv
              cases rv
              refine ⟨rfl, ?_⟩
              have hal : W'.al[S.length]? = some (s.heap.objs.size + 1) := by
                obtain ⟨l, e⟩ := x1.al
                rw [e]
                exact get_pre (by rw [hlS]; simp)
              simp only at g
              by_cases hm : cl.mu = true
              · rw [if_pos hm] at g
                exact g (.ref _) H' W' s1 (xt1.trans x1) ⟨_, hal, rfl⟩
              · rw [if_neg hm] at g
                cases eo : S'[S.length]? with
                | none => rw [eo] at g; exact g.elim
                | some o =>
                  rw [eo] at g
                  cases o with
                  | lst _ => exact g.elim
                  | ins c' fs =>
                    simp only at g
                    cases eb : (c' == n && S'.length == S.length + 1) with
                    | false => rw [eb] at g; exact g.elim
                    | true =>
                      rw [eb] at g
                      simp only [Bool.and_eq_true, beq_iff_eq] at eb
                      obtain ⟨rfl, el⟩ := eb
                      cases ef : fieldsOf cl.flds fs with
                      | none => rw [ef] at g; exact g.elim
                      | some l =>
                        rw [ef] at g
                        obtain ⟨W'', st'', x'', rp⟩ := s1.freeze (xt1.trans x1) hlS hcl (by simpa using hm) eo el ef hal
                        exact g (.ref _) H' W'' st'' x'' rp
            | _ => exact g.elim
          | _ => exact g.elim
      have r2 : Vals (V.ref (s.heap.objs.size + 1) :: (vs ++ dvs)) (Value.ref (s.heap.objs.size + 1) :: (us ++ ds)) := .cons rfl (r.append b1)
      have hl : (Value.ref (s.heap.objs.size + 1) :: us ++ ds).length = ps.length := by
        have e := r2.length
        rw [hlen] at e
        exact e.symm
      have hK := x.hK
      refine wpAny_call (make_map (f := a) I.kIn (by rw [hK]; exact CR.makes) (by rw [hK]; exact CR.init a FI.at_) (beq_iff_eq.mp FI.isf) (codeAny_mono (F.run _ X.stack _ _ ⟨Value.ref (s.heap.objs.size + 1) :: us, []⟩ (Value.ref (s.heap.objs.size + 1) :: (us ++ ds)) _ _ (WE c.wx σ) (x.room.make C us [])
        (I2.env0.make C us []) (b3 _ (Value.ref (s.heap.objs.size + 1) :: us) I2.kIn hl) r2 hq) fun r s' hq' => ?_))
      cases r with
      | error e => exact passAt x.tk σ pins _ _ e s' I2 hq'
      | ok fl =>
        cases fl with
        | ret u =>
          obtain ⟨v, H', I3, rv, ev, q3⟩ := I2.after hq'
          subst ev
          exact ⟨rv, ⟨V.ref (s.heap.objs.size + 1), H', I3, rfl, q3⟩⟩
        | next => exact False.elim hq'
        | brk => exact False.elim hq'
        | cont => exact False.elim hq'
end
end Mn

set_option maxRecDepth 100000
set_option maxHeartbeats 2000000
/-! calls as expressions -/
namespace Mn
open PySem PySem.Spec PyProof.Rows L2
/-- no star -/
def Pl (e : Expr) : Prop := ∀ r env, starEach (e :: r) env = (false, eval e env) :: starEach r env
def Pls (es : List Expr) : Prop := ∀ e ∈ es, Pl e
theorem Pls.any {pos : Pos} {env : Env} : ∀ {es : List Expr}, Pls es → (backTo pos (starEach es env)).any (·.1) = false
  | [], _ => rfl
  | e :: es, h => by
    rw [h e List.mem_cons_self]
    show (false || (backTo pos (starEach es env)).any (·.1)) = false
    rw [Pls.any fun x hx => h x (List.mem_cons_of_mem _ hx)]; rfl
theorem Pls.all {pos : Pos} {env : Env} : ∀ {es : List Expr}, Pls es → (backTo pos (starEach es env)).all (fun x => !x.1) = true
  | [], _ => rfl
  | e :: es, h => by
    rw [h e List.mem_cons_self]
    show ((!false) && (backTo pos (starEach es env)).all (fun x => !x.1)) = true
    rw [Pls.all fun x hx => h x (List.mem_cons_of_mem _ hx)]; rfl
section
variable {rc : RC} {c : Cc} {k : Nat} {X : L2.Cx} {sc : Scope} {N : List Str}
/-- the arguments, then the call -/
theorem args_run {es : List Expr} {t : TA} {f : Value} {first : List Value} {pos : Pos} {pins : List (Addr × Obj)} {σ : L2.St} {H : Hp} {s : Shared} {Qf : Value → Shared → Prop} (ha : PA X es t) (hp : Pls es) (hk : PySem.W.keepIn X.K f = true) (I : Inv X pins σ H s)
    (h : t σ H fun vs H1 => ∀ us s1, Inv X pins σ H1 s1 → Vals vs us → wpAny (model X.prog X.w) X.A (call f (first ++ us)) Qf X.xe s1) (h0 : es = [] → wpAny (model X.prog X.w) X.A (call f (first ++ [])) Qf X.xe s) :
    wpAny (model X.prog X.w) X.A (callWith pos f first (backTo pos (starEach es X.env)) (backToKw pos (keywordEach [] X.env))) Qf X.xe s := by
  cases es with
  | nil => exact PySem.W.callWith_K0 I.kIn hk (h0 rfl)
  | cons e es =>
    refine PySem.W.callWith_K (h₀ := X.base) I.ok.mod.kin hk (thn (ha.run pos pins s σ H _ I h) fun us s1 ⟨vs, H1, I1, r, q⟩ => ⟨I1.kIn, q us s1 I1 r⟩) (hp e List.mem_cons_self _ _) (Pls.any fun x hx => hp x (List.mem_cons_of_mem _ hx))
/-- a def by its number -/
theorem XC.fnA (x : XC rc c k X sc N) {f : Nat} {args : List Mn.A} {S : Sto} (h : c.X.call f args S ≠ .st) : ∃ a, c.G.fnA f = some a ∧ PySem.W.keepIn X.K (.ref a) = true ∧ PySem.W.isFn X.K (.ref a) = true := by
  have hX := x.hX
  cases k with
  | zero => rw [hX] at h; exact absurd rfl h
  | succ k =>
    rw [hX] at h
    obtain ⟨fd, hf, _⟩ := callM_fits (o := fun _ => ()) (show callM c.G.Γ (k + 1) f args S ≠ .st from h)
    obtain ⟨a, fdd, ps, FI, F⟩ := x.ca (k + 1) (Nat.le_refl _) f fd hf
    exact ⟨a, FI.at_, FI.kp, FI.isf⟩
/-- evaluated arguments, and a call that ends -/
theorem tEs_then {ms : List E} {σ : L2.St} {H : Hp} {Q : VK} {F : List Mn.A → Sto → R Mn.A} {ρ : Rho} {S : Sto} {W : Wd} {L : List Addr} (ok : Ok c.G W H ρ σ S L) (g : Good c.G c.wx (RA c.G) σ W H ((evalEs c.X ms ρ S).bind F) Q) {P : List V → Hp → Prop}
    (h : ∀ args S1 vs H1 W1, StOk c.G W1 H1 S1 → Xt W H W1 H1 → AVs c.G W1 args vs → Good c.G c.wx (RA c.G) σ W1 H1 (F args S1) Q → P vs H1) : tEs c ms σ H P :=
  ⟨ρ, S, W, L, ok, g.bind h⟩

/-- a callee that is known, its arguments, the call -/
theorem call_es {es : List Expr} {ms : List E} {f : Value} {first : List Value} {pos : Pos} {pins : List (Addr × Obj)} {σ : L2.St} {H : Hp} {s : Shared} {Q : VK} {F : List Mn.A → Sto → R Mn.A} {ρ : Rho} {S : Sto} {W : Wd} {L : List Addr}
    (ha : PA X es (tEs c ms)) (hp : Pls es) (hn : es = [] → ms = []) (hk : PySem.W.keepIn X.K f = true) (I : Inv X pins σ H s) (ok : Ok c.G W H ρ σ S L) (g : Good c.G c.wx (RA c.G) σ W H ((evalEs c.X ms ρ S).bind F) Q)
    (h : ∀ args S1 vs H1 W1 us s1, Inv X pins σ H1 s1 → StOk c.G W1 H1 S1 → Xt W H W1 H1 → AVs c.G W1 args vs → Vals vs us → Good c.G c.wx (RA c.G) σ W1 H1 (F args S1) Q → wpAny (model X.prog X.w) X.A (call f (first ++ us)) (EP X pins σ Q) X.xe s1) :
    wpAny (model X.prog X.w) X.A (callWith pos f first (backTo pos (starEach es X.env)) (backToKw pos (keywordEach [] X.env))) (EP X pins σ Q) X.xe s := by
  refine args_run ha hp hk I (tEs_then ok g fun args S1 vs H1 W1 s1 x1 r1 g1 us s2 I2 ru => h args S1 vs H1 W1 us s2 I2 s1 x1 r1 ru g1) fun z => ?_
  subst z
  obtain rfl := hn rfl
  simp only [evalEs, R.bind] at g
  exact h [] S [] H W [] s I ok.s Xt.refl .nil .nil g
/-- f(..) -/
theorem snd_call (x : XC rc c k X sc N) {f : Nat} {y : Str} {p pos : Pos} {es : List Expr} {ms : List E} (hg : Gl X y) (hm : ∃ a, c.G.fnA f = some a ∧ X.mg y = some (.ref a)) (hd : (y == ("__debug__" : Str)) = false) (ha : PA X es (tEs c ms)) (hp : Pls es) (hn : es = [] → ms = []) :
    PE X (.Call (.Name y p) es [] pos) (tE c (.call f ms)) := by
  refine ⟨fun pins s σ H Q I h => ?_⟩
  obtain ⟨ρ, S, W, L, ok, g⟩ := h
  obtain ⟨a, h1, h2⟩ := hm
  simp only [evalE] at g
  refine wpAny_Call_Name_kw (ld_glob I hg h2 ?_ hd)
  refine call_es ha hp hn (by rw [x.hK]; exact x.kpF _ _ h1) I ok g fun args S1 vs H1 W1 us s1 I1 st x1 r1 ru g1 => ?_
  exact x.runF h1 I1 st ru r1 g1
/-- C(..) -/
theorem snd_mk (x : XC rc c k X sc N) {n : Nat} {y : Str} {p pos : Pos} {es : List Expr} {ms : List E} (hg : Gl X y) (hm : ∃ C, c.G.clA n = some C ∧ X.mg y = some (.ref C)) (hd : (y == ("__debug__" : Str)) = false) (ha : PA X es (tEs c ms)) (hp : Pls es) (hn : es = [] → ms = []) :
    PE X (.Call (.Name y p) es [] pos) (tE c (.mk n ms)) := by
  refine ⟨fun pins s σ H Q I h => ?_⟩
  obtain ⟨ρ, S, W, L, ok, g⟩ := h
  obtain ⟨a, h1, h2⟩ := hm
  simp only [evalE] at g
  refine wpAny_Call_Name_kw (ld_glob I hg h2 ?_ hd)
  refine call_es ha hp hn (by rw [x.hK]; exact x.kpC _ _ h1) I ok g fun args S1 vs H1 W1 us s1 I1 st x1 r1 ru g1 => ?_
  exact x.runC h1 I1 st ru r1 g1
/-- v(..), v a name of the body that holds a def, a class -/
theorem snd_calv (x : XC rc c k X sc N) {i : Nat} {y : Str} {p pos : Pos} {es : List Expr} {ms : List E} (hN : X.N[i]? = some y) (hv : Vis X.env.scope y) (hd : (y == ("__debug__" : Str)) = false) (hcd : (y == ("__classdict__" : Str)) = false) (ha : PA X es (tEs c ms)) (hp : Pls es) (hn : es = [] → ms = []) :
    PE X (.Call (.Name y p) es [] pos) (tE c (.calv (.var i) ms)) := by
  refine ⟨fun pins s σ H Q I h => ?_⟩
  obtain ⟨ρ, S, W, L, ok, g⟩ := h
  have g0 : Good c.G c.wx (RA c.G) σ W H ((evalE c.X (.var i) ρ S).bind fun x S1 => (match x with
      | .val (.fn f) => (evalEs c.X ms ρ S1).bind fun xs S2 => c.X.call f xs S2
      | .val (.cls c_1) => (evalEs c.X ms ρ S1).bind fun xs S2 => c.X.make c_1 xs S2
      | _ => .st)) Q := g
  refine wpAny_Call_Name_kw (thn ((snd_var (c := c) (pos := p) hN hv hd hcd).run pins s σ H _ I ⟨ρ, S, W, L, ok, g0.bind (Q1 := fun v H1 => ∃ w S1 W1, StOk c.G W1 H1 S1 ∧ Xt W H W1 H1 ∧ AV c.G W1 w v ∧ Good c.G c.wx (RA c.G) σ W1 H1 (match w with
      | .val (.fn f) => (evalEs c.X ms ρ S1).bind fun xs S2 => c.X.call f xs S2
      | .val (.cls c_1) => (evalEs c.X ms ρ S1).bind fun xs S2 => c.X.make c_1 xs S2
      | _ => .st) Q) fun w S1 v H1 W1 s1 x1 r1 g1 => ⟨w, S1, W1, s1, x1, r1, g1⟩⟩) fun u s1 ⟨v, H1, I1, rv, w, S1, W1, st1, x1, r1, g1⟩ => ?_)
  have ok1 := ok.ext st1 x1
  cases w with
  | val d =>
    cases d with
    | fn f =>
      have r1 : Rep c.G W1.F (.fn f) v := r1
      cases r1 with
      | fn h1 =>
        cases rv
        refine call_es ha hp hn (by rw [x.hK]; exact x.kpF _ _ h1) I1 ok1 g1 fun args S1 vs H1 W1 us s1 I1 st x1 r1 ru g1 => ?_
        exact x.runF h1 I1 st ru r1 g1
    | cls n =>
      have r1 : Rep c.G W1.F (.cls n) v := r1
      cases r1 with
      | cls h1 =>
        cases rv
        refine call_es ha hp hn (by rw [x.hK]; exact x.kpC _ _ h1) I1 ok1 g1 fun args S1 vs H1 W1 us s1 I1 st x1 r1 ru g1 => ?_
        exact x.runC h1 I1 st ru r1 g1
    | _ => exact g1.elim
  | _ => exact g1.elim
/-- the names of an instance's fields -/
theorem FR.names {G : Gx} {F : Hp} {al : List Addr} {H : Hp} {fs : List (Nat × Mn.A)} {fl : List (Str × V)} {p : List Addr} (h : FR G F al H fs fl p) {m : Str} (hk : ∀ q ∈ fs, G.nm q.1 ≠ m) : fl.lookup m = none := by
  induction h with
  | nil => rfl
  | @cons f a v fs fl p q hn h r ih =>
    have h1 : (m == G.nm f) = false := by
      rw [beq_eq_false_iff_ne]
      exact fun z => hk (f, a) List.mem_cons_self z.symm
    simp only [List.lookup, h1]
    exact ih fun q hq => hk q (List.mem_cons_of_mem _ hq)
theorem zip_none {G : Gx} {m : Str} : ∀ {fds : List Nat} {vs : List V}, (∀ f ∈ fds, G.nm f ≠ m) → ((fds.map G.nm).zip vs).lookup m = none
  | [], _, _ => rfl
  | _ :: _, [], _ => rfl
  | f :: fds, v :: vs, h => by
    have h1 : (m == G.nm f) = false := by
      rw [beq_eq_false_iff_ne]
      exact fun z => h f List.mem_cons_self z.symm
    simp only [List.map_cons, List.zip_cons_cons, List.lookup, h1]
    exact zip_none fun f hf => h f (List.mem_cons_of_mem _ hf)
/-- the class of a receiver -/
theorem recv (x : XC rc c k X sc N) {a : Mn.A} {m f : Nat} {S : Sto} {W : Wd} {H : Hp} {v : V} (st : StOk c.G W H S) (r : AV c.G W a v) (hm : c.X.mfind a m S = some f) :
    ∃ p n cl C dx fs, v = .ref p ∧ H p = some (.ins C dx fs) ∧ c.G.Γ.cl n = some cl ∧ c.G.clA n = some C ∧ cl.meths.lookup m = some f ∧ (∀ nm, (∀ g ∈ cl.flds, c.G.nm g ≠ nm) → fs.lookup nm = none) ∧ (∀ n' l, a = .val (.obj n' l) → n' = n) := by
  have hΓ := x.hΓ
  cases a with
  | val d =>
    cases d with
    | obj n l =>
      cases r with
      | obj g1 g2 g3 g4 g5 g6 =>
        simp only [Ev.mfind, hΓ, g1.1] at hm
        exact ⟨_, _, _, _, _, _, rfl, st.sub _ _ g3, g1.1, g2, hm, fun nm h => zip_none h, fun n' l' z => by cases z; rfl⟩
    | _ => simp [Ev.mfind] at hm
  | ref n =>
    obtain ⟨p, h1, rfl⟩ := r
    simp only [Ev.mfind, hΓ] at hm
    cases e : S[n]? with
    | none => rw [e] at hm; simp at hm
    | some o =>
      rw [e] at hm
      cases o with
      | lst _ => simp at hm
      | ins q fs =>
        simp only at hm
        obtain ⟨p', pp, k1, k2, _⟩ := st.st.get e
        rw [h1] at k1; cases k1
        cases k2 with
        | @ins _ cl _ C dx _ fl q g1 g2 g3 g4 g5 g6 =>
          rw [g1] at hm
          exact ⟨_, _, _, _, _, _, rfl, g4, g1, g3, hm, fun nm h => g6.names fun q hq => h _ (g2 q hq), fun n' l' z => by cases z⟩
  | _ => simp [Ev.mfind] at hm
/-- a.m(..) -/
theorem snd_met (x : XC rc c k X sc N) {o : Expr} {y : Str} {m : Nat} {mo : E} {apos pos : Pos} {es : List Expr} {ms : List E} (ho : PE X o (tE c mo)) (hm : rc.ats.lookup y = some m) (h6 : 6 ≤ m) (hb : ∀ w, attributeBase o y X.env w = w) (hl : (apos.endLine == pos.line) = true) (hz : es.length ≤ 20)
    (ha : PA X es (tEs c ms)) (hp : Pls es) (hn : es = [] → ms = []) : PE X (.Call (.Attribute o y apos) es [] pos) (tE c (.met mo m ms)) := by
  refine ⟨fun pins s σ H Q I h => ?_⟩
  obtain ⟨ρ, S, W, L, ok, g⟩ := h
  have g0 : Good c.G c.wx (RA c.G) σ W H ((evalE c.X mo ρ S).bind fun x S1 => (match c.X.mfind x m S1 with
      | some f => (evalEs c.X ms ρ S1).bind fun xs S2 => c.X.call f (x :: xs) S2
      | none => .st)) Q := g
  have hfew : methodCallForm (es.length + ([] : List Keyword).length) (backTo pos (starEach es X.env)) (backToKw pos (keywordEach [] X.env)) = true := by
    unfold methodCallForm
    rw [hp.all]
    show (true && true && decide (es.length + 0 + 0 < 30)) = true
    simp; omega
  refine methcall_of (pl := do return (← importBound o X.env).getD true) ho I ⟨ρ, S, W, L, ok, g0.bind fun w S1 v H1 W1 s1 x1 r1 g1 => ?_⟩ (mcall_of (hb _) fun ov => ?_)
  · cases e : c.X.mfind w m S1 with
    | none => rw [e] at g1; exact g1.elim
    | some f =>
      rw [e] at g1
      obtain ⟨p, n, cl, C, dx, fs, rfl, q1, q2, q3, q4, q5, _⟩ := recv x s1 r1 e
      have ok1 := ok.ext s1 x1
      obtain ⟨cl', z1, K1⟩ := x.row.cl n C q3
      rw [q2] at z1; cases z1
      have CR := x.cr n cl C q2 q3
      obtain ⟨fa, f1, f2⟩ := CR.fnm m f q4
      obtain ⟨m1, m2⟩ := CR.meth m f fa h6 q4 f1
      have hnm := x.row.nms y m hm
      rw [hnm] at m1
      refine ⟨p, C, dx, fs, fa, rfl, q1, by rw [x.hK]; exact K1.cls, ⟨by rw [x.hK]; exact m1, by rw [x.hK]; exact f2, by rw [x.hK]; exact x.kpF _ _ f1⟩, q5 y (fun g hg => by rw [← hnm]; exact m2 g hg), fun s2 I2 => ?_⟩
      refine call_es (first := [.ref p]) ha hp hn (by rw [x.hK]; exact x.kpF _ _ f1) I2 ok1 g1 fun args S1 vs H1 W1 us s1 I1 st x1 rr ru g2 => ?_
      exact x.runF (us := .ref p :: us) (vs := .ref p :: vs) f1 I1 st (.cons rfl ru) (.cons (AV.mono r1 x1) rr) g2
  · unfold methodCall calleeOf methodCallPos
    simp only [hfew, hl]
    rfl
end
end Mn

set_option maxRecDepth 100000
set_option maxHeartbeats 2000000
namespace PySem
namespace W
open PySem Calls PyProof.Rows
section
variable {prog : Program} {w : World} {M : Model} {A : Around} {E : Value → Shared → Prop} {s : Shared} {K : Frag} {x C L f : Addr} {h₀ : Heap} {m : Str → Option Value} {ox : Obj} {od : Option Obj} {nm T : String}
/-- an own operator, the right one of a built-in type -/
theorem mini_bin {op : Operator} {b : Value} {fo ro : Option Value} {Q : Value → Shared → Prop} (F : Fr h₀ L s.heap m) (X₀ : K.In h₀) (I : InstAt s.heap x ox C od) (hb : Looks (model prog w) s.heap (typeOf b) (.type T)) (hc : selfFirst K C = true)
    (hs : findIn K (.ref C) (PySem.dunder op.info.2) = some (some (.ref f))) (hf : isFn K (.ref f) = true) (hr : findIn K (.ref C) (dunderR op.info.2) = some none)
    (h1 : findIn K (.type T) (PySem.dunder op.info.2) = some fo) (h2 : findIn K (.type T) (dunderR op.info.2) = some ro) (hsub : subIn K (.type T) (.ref C) = some false)
    (h : wpAny (model prog w) A (call (.ref f) [.ref x, b]) (CmpBack Q) E s) : wpAny (model prog w) A (binaryOp op (.ref x) b) Q E s := by
  have X := X₀.keeps F.keep
  obtain ⟨cd, rest, hcd, hm⟩ := ksp_first hc
  rcases hi : op.info with ⟨sym, nm'⟩
  rw [hi] at hs hr h1 h2
  dsimp only at hs hr h1 h2
  have one := ksp_try X I hs hf h
  obtain ⟨hh, g, d, tt, os⟩ := s
  have L1 : Looks (model prog w) hh (typeOf (.ref x)) (.ref C) := I.type
  have L2 : Looks (model prog w) hh (typeOf b) (.type T) := hb
  have L3 : Looks (model prog w) hh (fillsNumberSlot (.ref C) nm') true := fills_K X hcd hm hs
  have L4 : Looks (model prog w) hh (fillsNumberSlot (.type T) nm') ((fo.isSome && !isSeqSlot fo) || (ro.isSome && !isSeqSlot ro)) := ksp_fillsT X h1 h2
  have L5 : Looks (model prog w) hh (isSubtype (.type T) (.ref C)) false := looks_subIn X hsub
  have L6 : Looks (model prog w) hh (numberSlotInPython (.ref C) nm') true := ksp_inPy X hs hr (.inl rfl)
  have L7 : Looks (model prog w) hh (numberSlotInPython (.type T) nm') false := Looks.of_pure rfl
  have L8 : Looks (model prog w) hh (typeLookup (.type T) (dunderR nm')) ro := looks_findIn X h2
  generalize ((fo.isSome && !isSeqSlot fo) || (ro.isSome && !isSeqSlot ro)) = right at L4
  have hne : (Value.ref C == Value.type T) = false := Bool.eq_false_iff.mpr fun q => by cases beq_iff_eq.mp q
  simp only [binaryOp, hi]
  refine wpAny_holding (wpAny_bind ?_)
  unfold binaryOp1
  refine wpAny_bind (L1.at (wpAny_bind (L2.at (wpAny_bind (L3.at ?_)))))
  simp only [hne, Bool.false_eq_true, if_false]
  cases right with
  | false =>
    ksp_lk
    refine wpAny_mono one (fun r s' hr' => ?_) fun _ _ e => e
    obtain ⟨v, rfl, hq⟩ := hr'
    ksp_lk
    exact hq
  | true =>
    ksp_lk
    refine wpAny_mono one (fun r s' hr' => ?_) fun _ _ e => e
    obtain ⟨v, rfl, hq⟩ := hr'
    ksp_lk
    exact hq
end
end W
end PySem
/-! operators -/
namespace Mn
open PySem PySem.Spec PyProof.Rows L2
/-! lists that are read: + and * -/
section
variable {X : L2.Cx} {pins : List (Addr × Obj)} {σ : L2.St} {H : Hp} {s : Shared}
theorem rdM (I : Inv X pins σ H s) {l : Addr} {xs : List V} (hH : Rd H l (.lst xs)) : xs.length ≤ sizeLine ∧ ∃ (its : List Value) (n : Nat), Vals xs its ∧ xs.length = its.length ∧ s.heap.get? l = some { cls := .type "list", data := .seq its.toArray n } := by
  obtain ⟨z, its, n, r, e⟩ := hH.ok I.hok
  exact ⟨z, its, n, r, r.length, e⟩
def rCatR : R2 := fun x y H Q => ∃ a b xs zs, x = .ref a ∧ y = .ref b ∧ Rd H a (.lst xs) ∧ Rd H b (.lst zs) ∧ xs.length + zs.length ≤ sizeLine ∧ ∀ p, H p = none → Q (.ref p) (upd H p (.lst (xs ++ zs)))
theorem op_catR : OpR X (binaryOp .Add) rCatR := by
  intro pins s σ H x y v u Q I rx ry h
  obtain ⟨a, b, xs, zs, rfl, rfl, ha, hb, hz, q⟩ := h
  cases rx
  cases ry
  obtain ⟨_, l1, n1, r1, e1, g1⟩ := rdM I ha
  obtain ⟨_, l2, n2, r2, e2, g2⟩ := rdM I hb
  have hl : l1.toArray.size + l2.toArray.size ≤ sizeLine := by simp only [List.size_toArray]; omega
  have ea : l1.toArray ++ l2.toArray = (l1 ++ l2).toArray := by simp
  refine PySem.P.add_list g1 g2 ?_ hl
  rw [ea]
  exact ⟨.ref _, _, I.lnew (t' := s.toks) (r1.append r2) (by simp only [List.length_append]; omega), rfl, q _ I.fresh⟩
def rRepR : R2 := fun x y H Q => ∃ a k xs, x = .ref a ∧ y = .int k ∧ Rd H a (.lst xs) ∧ -(2 ^ 63) ≤ k ∧ k < 2 ^ 63 ∧ xs.length * k.toNat ≤ sizeLine ∧
  ∀ p, H p = none → Q (.ref p) (upd H p (.lst (List.replicate k.toNat xs).flatten))
theorem rep_fold {l : List Value} {m : Nat} : List.foldl (fun x1 x2 => x1 ++ x2) #[] (List.replicate m l.toArray) = (List.replicate m l).flatten.toArray := by
  have := foldl_rep l m []
  rwa [List.nil_append] at this
theorem op_repR : OpR X (binaryOp .Mult) rRepR := by
  intro pins s σ H x y v u Q I rx ry h
  obtain ⟨a, k, xs, rfl, rfl, ha, h1, h2, hz, q⟩ := h
  cases rx
  obtain ⟨t, rfl⟩ := ry
  obtain ⟨_, l, n, r, hl, e⟩ := rdM I ha
  have z1 : l.toArray.size * k.toNat ≤ sizeLine := by simp only [List.size_toArray]; rw [← hl]; exact hz
  have z2 : ¬ l.toArray.size * k.toNat > (2 ^ 63 - 1) / 8 := by
    have : (sizeLine : Nat) ≤ (2 ^ 63 - 1) / 8 := by decide
    omega
  have z3 : ¬ (!Builtin.List.listFitsIndex k) = true := by rw [fitsIndex_both h1 h2]; simp
  have z4 : ¬ Builtin.List.listTooLong (l.toArray.size * k.toNat) = true := by rw [notLongL z1]; simp
  have new : List.foldl (fun x1 x2 => x1 ++ x2) #[] (List.replicate (if l.toArray.isEmpty = true then 0 else k.toNat) l.toArray) = (List.replicate k.toNat l).flatten.toArray := by
    rw [rep_fold]
    cases l with
    | nil => simp
    | cons a r' => rw [if_neg (by simp)]
  refine wpAny_binaryOp_repeat_ref (T := "list") (U := "int") (by decide) ⟨_, e, rfl⟩ (fun s' => typeIs_int s' k t) noFill_list_mul F.fills_int_mul F.slot_int_rmul repeat_list F.slot_int_index.lookup
    (call_meets F.slot_int_rmul (typeIs_int s k t) F.entry_int_rmul (F.args_int_rmul_2 _ _) (int___rmul___int_list k t a l.toArray n)
      ⟨e, rfl, ⟨_, e, rfl⟩, call_meets F.slot_list_mul ⟨_, e, rfl⟩ F.entry_list_mul (F.args_list_mul_2 _ _) (AutoListH.list___mul___list_int_3 a l.toArray n k t z3 z2 z4) ⟨e, ?_⟩⟩)
  rw [new]
  exact ⟨.ref _, _, I.lnew (t' := s.toks) (r.rep k.toNat) (by rw [PyProof.Rows.lm_len_rep_flat, Nat.mul_comm]; exact hz), rfl, q _ I.fresh⟩
end
section
variable {rc : RC} {c : Cc} {k : Nat} {X : L2.Cx} {sc : Scope} {N : List Str}
/-- data: what typeOf says -/
theorem looks_ty (x : XC rc c k X sc N) {W : Wd} {H : Hp} {S : Sto} {pins : List (Addr × Obj)} {σ : L2.St} {s : Shared} (I : Inv X pins σ H s) (st : StOk c.G W H S) {d : D} {v : V} {u : Value} (ru : RelV v u) (r : Rep c.G W.F d v) {b : Bool} (hb : isTy 0 d = some b) :
    ∃ t, PySem.W.Looks (model X.prog X.w) s.heap (typeOf u) t ∧ ((∃ n l C, d = .obj n l ∧ c.G.clA n = some C ∧ t = .ref C) ∨ ∃ nm ∈ (["NoneType", "bool", "int", "str", "list", "tuple"] : List String), t = .type nm) := by
  obtain ⟨t, ty1, ty2⟩ := ty_of x.row st r hb
  rw [← x.hK] at ty1
  obtain ⟨P, KX, hP, _⟩ := kit_of I ru ty1
  refine ⟨t, KX.ty _ _ I.kIn hP, ?_⟩
  rcases ty2 with ⟨n, l, C, h1, h2, h3⟩ | ⟨nm, h1, h2, _⟩
  · exact .inl ⟨n, l, C, h1, h2, h3⟩
  · exact .inr ⟨nm, h1, h2⟩
/-- what comes back of an own operator is not NotImplemented -/
theorem cmpBack {pins : List (Addr × Obj)} {σ : L2.St} {Q : VK} {v : Value} {s' : Shared} (h : EP X pins σ Q v s') : PySem.W.CmpBack (EP X pins σ Q) v s' := by
  obtain ⟨y, H', I, r, q⟩ := id h
  cases y with
  | non => cases r; exact h
  | bl _ => cases r; exact h
  | int _ => obtain ⟨t, rfl⟩ := r; exact h
  | str _ => obtain ⟨t, rfl⟩ := r; exact h
  | byt _ => obtain ⟨t, rfl⟩ := r; exact h
  | flt _ => obtain ⟨t, rfl⟩ := r; exact h
  | ref _ => cases r; exact h
  | ty _ => cases r; exact h

theorem int_sub_bools (a b : Bool) : Gives (Builtin.«int.__sub__» ⟨[.bool a, .bool b], []⟩) (.int ((if a = true then (1 : Int) else 0) - if b = true then (1 : Int) else 0)) :=
  .of_wp fun M A E s Q h => by obtain ⟨hp, g, d, tk, os⟩ := s; wp_walk; exact ⟨_, rfl, h⟩
theorem sub_bools {prog : Program} {w : World} {A : Around} {E : Value → Shared → Prop} {s : Shared} {Q : Value → Shared → Prop} (a b : Bool) (h : Q (.int (b2i a - b2i b) s.toks) { s with toks := s.toks + 1 }) : wpAny (model prog w) A (binaryOp .Sub (.bool a) (.bool b)) Q E s :=
  binaryOp_gives (op := .Sub) (T := "bool") rfl rfl F.fills_bool_sub F.slot_bool_sub F.entry_int_sub (F.args_int_sub_2 _ _) (int_sub_bools a b) trivial h
theorem mulOk_ok {i j : Int} (h : mulOk i j = true) : IntMulOk i j := by
  unfold mulOk at h
  simp only [Bool.or_eq_true, decide_eq_true_eq] at h
  rcases h with (h | h) | h
  · exact CMul.ok (.inl (by omega))
  · exact CMul.ok (.inr (by omega))
  · exact CMulW.ok h
theorem op_mulM {X : L2.Cx} : OpR X (binaryOp .Mult) (rI (fun i j => mulOk i j = true) fun i j => .int (i * j)) := opI fun _ _ _ _ _ _ _ hc q => mul_int q (mulOk_ok hc)
theorem txtMulOk {x : Str} {n : Int} (h1 : small62 n = true) (h2 : x.length * n.toNat ≤ sizeLine) : MulOk x n := by
  simp only [small62, Bool.and_eq_true, decide_eq_true_eq] at h1
  have hz : sizeLine = 16777216 := sizeLine_eq
  refine ⟨?_, fun h3 _ => ?_, fun _ _ => ?_⟩
  · rw [decide_eq_false (by omega), decide_eq_false (by omega)]; rfl
  · have hn : (0 : Int) < n := by omega
    intro hg
    have : (x.length : Int) * n ≤ 16777216 := by
      have e : ((n.toNat : Nat) : Int) = n := Int.toNat_of_nonneg (by omega)
      rw [← e]
      rw [hz] at h2
      rw [← Int.natCast_mul]
      exact Int.ofNat_le.mpr h2
    have h5 := Int.ediv_lt_iff_lt_mul (a := 2 ^ 63 - 1) (b := (x.length : Int)) hn
    have := h5.mp hg
    omega
  · unfold Builtin.Str.tooLong
    simp; omega
/-- an operator over data -/
theorem arith_ok {o : Op} {W : Wd} {H : Hp} {S : Sto} {pins : List (Addr × Obj)} {σ : L2.St} {s : Shared} {Q : VK} {d e g : D} {y z : V} {u v : Value} (hK : X.K = c.G.K) (I : Inv X pins σ H s) (st : StOk c.G W H S) (ru : RelV y u) (rv : RelV z v) (r1 : Rep c.G W.F d y) (r2 : Rep c.G W.F e z)
    (ha : arith o d e = some g) (q : Ans c.G W H S g Q) : wpAny (model X.prog X.w) X.A (binaryOp (opn o) u v) (EP X pins σ Q) X.xe s := by
  cases o with
  | add =>
    cases d <;> first | (simp [arith] at ha; done) | skip
    · rename_i i
      cases e <;> first | (simp [arith] at ha; done) | skip
      rename_i j
      simp only [arith, Option.some.injEq] at ha; subst ha
      cases r1; cases r2
      exact op_add pins s σ H _ _ u v Q I ru rv ⟨i, j, rfl, rfl, q.now st (.int _)⟩
    · rename_i i
      cases e <;> first | (simp [arith] at ha; done) | skip
      rename_i j
      simp only [arith, lenOk, Option.ite_none_right_eq_some, decide_eq_true_eq, Option.some.injEq] at ha
      obtain ⟨hz, rfl⟩ := ha
      cases r1; cases r2
      exact op_add_str pins s σ H _ _ u v Q I ru rv ⟨i, j, rfl, rfl, hz, q.now st (.str _)⟩
    · rename_i l
      cases e <;> first | (simp [arith] at ha; done) | skip
      rename_i m
      simp only [arith, lenOk, Option.ite_none_right_eq_some, decide_eq_true_eq, Option.some.injEq] at ha
      obtain ⟨hz, rfl⟩ := ha
      cases r1 with
      | tup h1 q1 =>
        cases r2 with
        | tup h2 q2 =>
          have e1 := q1.length
          have e2 := q2.length
          refine op_catA pins s σ H _ _ u v Q I ru rv ⟨_, _, _, _, rfl, rfl, by rw [hK]; exact h1.ext st.sub, by rw [hK]; exact h2.ext st.sub, by omega, fun z => ?_, fun _ z => ?_, fun _ _ p hp => ?_⟩
          · subst z
            cases q1
            exact q.now st (.tup h2 (by simpa using q2))
          · subst z
            cases q2
            exact q.now st (.tup h1 (by simpa using q1))
          · exact q.lay st hp (.tup (SqT.of upd_same) ((q1.append q2).mono (Ext.upd (st.dead hp))))
    · rename_i l
      cases e <;> first | (simp [arith] at ha; done) | skip
      rename_i m
      simp only [arith, lenOk, Option.ite_none_right_eq_some, decide_eq_true_eq, Option.some.injEq] at ha
      obtain ⟨hz, rfl⟩ := ha
      cases r1 with
      | lst h1 q1 =>
        cases r2 with
        | lst h2 q2 =>
          have e1 := q1.length
          have e2 := q2.length
          exact op_catR pins s σ H _ _ u v Q I ru rv ⟨_, _, _, _, rfl, rfl, h1.ext st.sub, h2.ext st.sub, by omega, fun p hp => q.lay st hp (.lst (.inl upd_same) ((q1.append q2).mono (Ext.upd (st.dead hp))))⟩
  | sub =>
    cases d <;> first | (simp [arith] at ha; done) | skip
    · rename_i i
      cases e <;> first | (simp [arith] at ha; done) | skip
      rename_i j
      simp only [arith, Option.some.injEq] at ha; subst ha
      cases r1; cases r2
      cases ru; cases rv
      exact sub_bools i j ⟨.int _, H, I.tok _, ⟨_, rfl⟩, q.now st (.int _)⟩
    · rename_i i
      cases e <;> first | (simp [arith] at ha; done) | skip
      rename_i j
      simp only [arith, Option.some.injEq] at ha; subst ha
      cases r1; cases r2
      exact op_sub pins s σ H _ _ u v Q I ru rv ⟨i, j, rfl, rfl, q.now st (.int _)⟩
  | mul =>
    cases d <;> first | (simp [arith] at ha; done) | skip
    · rename_i i
      cases e <;> first | (simp [arith] at ha; done) | skip
      rename_i j
      simp only [arith, Option.ite_none_right_eq_some, Option.some.injEq] at ha
      obtain ⟨hz, rfl⟩ := ha
      cases r1; cases r2
      exact op_mulM pins s σ H _ _ u v Q I ru rv ⟨i, j, rfl, rfl, hz, q.now st (.int _)⟩
    · rename_i i
      cases e <;> first | (simp [arith] at ha; done) | skip
      rename_i j
      simp only [arith, lenOk, Bool.and_eq_true, Option.ite_none_right_eq_some, decide_eq_true_eq, Option.some.injEq] at ha
      obtain ⟨⟨h1, h2⟩, rfl⟩ := ha
      cases r1; cases r2
      obtain ⟨t, rfl⟩ := ru
      obtain ⟨t', rfl⟩ := rv
      exact SB.mul (txtMulOk h1 h2) fun t' k => ⟨.str _, H, I.tok _, ⟨_, rfl⟩, q.now st (.str _)⟩
    · rename_i l
      cases e <;> first | (simp [arith] at ha; done) | skip
      rename_i j
      simp only [arith, lenOk, Bool.and_eq_true, Option.ite_none_right_eq_some, decide_eq_true_eq, Option.some.injEq] at ha
      obtain ⟨⟨h1, h2⟩, rfl⟩ := ha
      simp only [small62, Bool.and_eq_true, decide_eq_true_eq] at h1
      cases r1 with
      | lst k1 q1 =>
        cases r2
        have e1 := q1.length
        exact op_repR pins s σ H _ _ u v Q I ru rv ⟨_, j, _, rfl, rfl, k1.ext st.sub, by omega, by omega, by rw [← e1]; exact h2, fun p hp => q.lay st hp (.lst (.inl upd_same) ((q1.rep _).mono (Ext.upd (st.dead hp))))⟩
end
end Mn

set_option maxRecDepth 100000
set_option maxHeartbeats 2000000
/-! operators, tests, choices as expressions -/
namespace Mn
open PySem PySem.Spec PyProof.Rows L2
section
variable {rc : RC} {c : Cc} {k : Nat} {X : L2.Cx} {sc : Scope} {N : List Str}
/-- two parts, one behind the other -/
theorem two {m n : E} {σ : L2.St} {H : Hp} {Q : VK} {F : Mn.A → Mn.A → Sto → R Mn.A} {ρ : Rho} {S : Sto} {W : Wd} {L : List Addr} (ok : Ok c.G W H ρ σ S L)
    (g : Good c.G c.wx (RA c.G) σ W H ((evalE c.X m ρ S).bind fun a S1 => (evalE c.X n ρ S1).bind fun b S2 => F a b S2) Q) :
    tE c m σ H fun x H1 => tE c n σ H1 fun y H2 => ∃ S2 W2 a b, StOk c.G W2 H2 S2 ∧ AV c.G W2 a x ∧ AV c.G W2 b y ∧ Good c.G c.wx (RA c.G) σ W2 H2 (F a b S2) Q :=
  ⟨ρ, S, W, L, ok, g.bind fun a S1 v H1 W1 s1 x1 r1 g1 => ⟨ρ, S1, W1, L, ok.ext s1 x1, g1.bind fun b S2 u H2 W2 s2 x2 r2 g2 => ⟨S2, W2, a, b, s2, AV.mono r1 x2, r2, g2⟩⟩⟩
theorem one {m : E} {σ : L2.St} {H : Hp} {Q : VK} {F : Mn.A → Sto → R Mn.A} {ρ : Rho} {S : Sto} {W : Wd} {L : List Addr} (ok : Ok c.G W H ρ σ S L)
    (g : Good c.G c.wx (RA c.G) σ W H ((evalE c.X m ρ S).bind fun a S1 => F a S1) Q) :
    tE c m σ H fun x H1 => ∃ S1 W1 a, StOk c.G W1 H1 S1 ∧ Ok c.G W1 H1 ρ σ S1 L ∧ AV c.G W1 a x ∧ Good c.G c.wx (RA c.G) σ W1 H1 (F a S1) Q :=
  ⟨ρ, S, W, L, ok, g.bind fun a S1 v H1 W1 s1 x1 r1 g1 => ⟨S1, W1, a, s1, ok.ext s1 x1, r1, g1⟩⟩
theorem ansOf {σ : L2.St} {W : Wd} {H : Hp} {S : Sto} {d : D} {Q : VK} (g : Good c.G c.wx (RA c.G) σ W H (.ok (.val d) S) Q) : Ans c.G W H S d Q := fun v H' W' s x r => g v H' W' s x r
/-- a op b -/
theorem bin_ok (x : XC rc c k X sc N) {o : Op} {W : Wd} {H : Hp} {S : Sto} {pins : List (Addr × Obj)} {σ : L2.St} {s : Shared} {Q : VK} {a b : Mn.A} {y z : V} {u v : Value} (I : Inv X pins σ H s) (st : StOk c.G W H S) (ru : RelV y u) (rv : RelV z v) (r1 : AV c.G W a y) (r2 : AV c.G W b z)
    (g : Good c.G c.wx (RA c.G) σ W H (c.X.bin o a b S) Q) : wpAny (model X.prog X.w) X.A (binaryOp (opn o) u v) (EP X pins σ Q) X.xe s := by
  cases a with
  | val d =>
    cases b with
    | val e =>
      by_cases ho : ∃ n l, d = .obj n l
      · obtain ⟨n, l, rfl⟩ := ho
        have g : Good c.G c.wx (RA c.G) σ W H (if plainR n e then c.X.meth (.val (.obj n l)) o.nm [.val e] S else .st) Q := g
        by_cases hp : plainR n e = true
        · rw [if_pos hp] at g
          unfold Ev.meth at g
          cases em : c.X.mfind (.val (.obj n l)) o.nm S with
          | none => rw [em] at g; exact g.elim
          | some f =>
            rw [em] at g
            obtain ⟨p, n', cl, C, dx, fs, rfl, q1, q2, q3, q4, q5, q6⟩ := recv x st r1 em
            obtain rfl := q6 n l rfl
            have CR := x.cr n cl C q2 q3
            obtain ⟨fa, f1, f2⟩ := CR.fnm _ f q4
            have hop := CR.op o f fa q4 f1
            obtain ⟨mA, J, _⟩ := ins_get I.hok q1
            obtain ⟨od, J, _⟩ := J.look
            obtain ⟨m, hF⟩ := I.fr
            have ru' : u = .ref p := ru
            subst ru'
            have hK := x.hK
            have hcall : wpAny (model X.prog X.w) X.A (call (.ref fa) [.ref p, v]) (PySem.W.CmpBack (EP X pins σ Q)) X.xe s :=
              wpAny_mono (x.runF (us := [.ref p, v]) (vs := [.ref p, z]) f1 I st (.cons rfl (.cons rv .nil)) (.cons r1 (.cons r2 .nil)) g) (fun r s' h => cmpBack h) fun _ _ e => e
            have hty : ∃ t, isTy 0 e = some t := by
              cases e with
              | fn _ => simp [plainR] at hp
              | cls _ => simp [plainR] at hp
              | _ => exact ⟨_, rfl⟩
            obtain ⟨tb, hty⟩ := hty
            obtain ⟨t, l1, l2⟩ := looks_ty x I st rv r2 hty
            rcases l2 with ⟨n2, l', C', rfl, k1, rfl⟩ | ⟨nm, hm, rfl⟩
            · have : n = n2 := by simpa [plainR] using hp
              subst this
              rw [q3] at k1; cases k1
              exact PySem.W.binop_K (op := opn o) hF I.ok.mod.kin J l1 (by rw [hK]; exact CR.sf) (by rw [hK]; exact hop) (by rw [hK]; exact f2) hcall
            · obtain ⟨fo, ro, o1, o2⟩ := x.ops o nm hm
              exact PySem.W.mini_bin (op := opn o) hF I.ok.mod.kin J l1 (by rw [hK]; exact CR.sf) (by rw [hK]; exact hop) (by rw [hK]; exact f2) (by rw [hK]; exact CR.opR o f q4) (by rw [hK]; exact o1) (by rw [hK]; exact o2) (by rw [hK]; exact CR.sub nm hm) hcall
        · rw [if_neg hp] at g; exact g.elim
      · have g : Good c.G c.wx (RA c.G) σ W H (R.d (arith o d e) S) Q := by
          cases d with
          | obj n l => exact absurd ⟨n, l, rfl⟩ ho
          | _ => exact g
        cases ea : arith o d e with
        | none => rw [ea] at g; exact g.elim
        | some w => rw [ea] at g; exact arith_ok x.hK I st ru rv r1 r2 ea (ansOf g)
    | _ => cases d <;> exact g.elim
  | _ => cases b <;> exact g.elim
theorem snd_bin (x : XC rc c k X sc N) {o : Op} {a b : Expr} {m n : E} {pos : Pos} (ha : PE X a (tE c m)) (hb : PE X b (tE c n)) : PE X (.BinOp a (opn o) b pos) (tE c (.bin o m n)) := by
  refine ⟨fun pins s σ H Q I h => ?_⟩
  obtain ⟨ρ, S, W, L, ok, g⟩ := h
  simp only [evalE] at g
  exact wpAny_BinOp (binT ha hb I (two ok g) fun v u s2 y z H2 I2 ry rz ⟨S2, W2, a', b', st2, r1, r2, g2⟩ => bin_ok x I2 st2 ry rz r1 r2 g2)
/-- -a -/
theorem snd_neg (x : XC rc c k X sc N) {a : Expr} {m : E} {pos : Pos} (ha : PE X a (tE c m)) : PE X (.UnaryOp .USub a pos) (tE c (.neg m)) := by
  refine ⟨fun pins s σ H Q I h => ?_⟩
  obtain ⟨ρ, S, W, L, ok, g⟩ := h
  simp only [evalE] at g
  refine UnaryOp_ (thn (ha.run pins s σ H _ I (one ok g)) fun v s1 ⟨y, H1, I1, ry, S1, W1, a', st1, ok1, r1, g1⟩ => ?_)
  cases a' with
  | val d =>
    cases d with
    | int i =>
      cases r1
      exact un_neg pins s1 σ H1 _ v Q I1 ry ⟨i, rfl, (ansOf g1).now st1 (.int _)⟩
    | obj n l =>
      have g1 : Good c.G c.wx (RA c.G) σ W1 H1 (c.X.meth (.val (.obj n l)) 3 [] S1) Q := g1
      unfold Ev.meth at g1
      cases em : c.X.mfind (.val (.obj n l)) 3 S1 with
      | none => rw [em] at g1; exact g1.elim
      | some f =>
        rw [em] at g1
        obtain ⟨p, n', cl, C, dx, fs, rfl, q1, q2, q3, q4, q5, q6⟩ := recv x st1 r1 em
        obtain rfl := q6 n l rfl
        have CR := x.cr n cl C q2 q3
        obtain ⟨fa, f1, f2⟩ := CR.fnm _ f q4
        have hop := CR.neg f fa q4 f1
        obtain ⟨mA, J, _⟩ := ins_get I1.hok q1
        obtain ⟨od, J, _⟩ := J.look
        obtain ⟨m, hF⟩ := I1.fr
        have ru' : v = .ref p := ry
        subst ru'
        have hK := x.hK
        exact PySem.W.ksp_neg hF I1.ok.mod.kin J (by rw [hK]; exact hop) (by rw [hK]; exact f2) (x.runF (us := [.ref p]) (vs := [.ref p]) f1 I1 st1 (.cons rfl .nil) (.cons r1 .nil) g1)
    | _ => exact g1.elim
  | _ => exact g1.elim
/-- == and != -/
theorem eq_ok (x : XC rc c k X sc N) (hk : k < tooDeep) {ne : Bool} {W : Wd} {H : Hp} {S : Sto} {pins : List (Addr × Obj)} {σ : L2.St} {s : Shared} {Q : VK} {a b : Mn.A} {y z : V} {u v : Value} (I : Inv X pins σ H s) (st : StOk c.G W H S) (ru : RelV y u) (rv : RelV z v) (r1 : AV c.G W a y) (r2 : AV c.G W b z)
    (g : Good c.G c.wx (RA c.G) σ W H (c.X.eq a b S ne) Q) : wpAny (model X.prog X.w) X.A (compareOp (if ne then .NotEq else .Eq) u v) (EP X pins σ Q) X.xe s := by
  have hΓ := x.hΓ
  have hkk := x.hk
  cases a with
  | val d =>
    cases b with
    | val e =>
      have g : Good c.G c.wx (RA c.G) σ W H (if (decide (eqN d e ≤ c.X.k) && !(ne && isObjD d)) = true then .ok (.val (.bl (ne != eqD c.X.Γ d e))) S else .st) Q := by
        unfold Ev.eq at g; simpa using g
      by_cases hc : (decide (eqN d e ≤ c.X.k) && !(ne && isObjD d)) = true
      · rw [if_pos hc] at g
        simp only [Bool.and_eq_true, decide_eq_true_eq, Bool.not_eq_true'] at hc
        rw [hkk] at hc
        rw [hΓ] at g
        have all := (eq_all x.hK x.row x.er x.es k hk x.ca d e hc.1).2 ne hc.2 X.A pins s σ W H S y z u v ⟨x.room, rfl⟩ I ru rv st r1 r2
        have hco : compareOp (if ne then .NotEq else .Eq) u v = richCompare (if ne then .NotEq else .Eq) u v := by cases ne <;> rfl
        rw [hco]
        refine wpAny_mono all (fun r s' q => ?_) fun _ _ e => e
        obtain ⟨rfl, H', W', I', st', x'⟩ := q
        exact ⟨.bl _, H', I', rfl, g _ H' W' st' x' (.bl _)⟩
      · rw [if_neg hc] at g; exact g.elim
    | _ => exact g.elim
  | _ => cases b <;> exact g.elim
theorem snd_eq (x : XC rc c k X sc N) (hk : k < tooDeep) {a b : Expr} {m n : E} {pos : Pos} (ha : PE X a (tE c m)) (hb : PE X b (tE c n)) : Snd c X (.Compare a [.Eq] [b] pos) (.eq m n) := by
  refine Snd.cmp ⟨fun pins s σ H Q I h => ?_⟩ (nobehind _ (by decide) (by decide))
  obtain ⟨ρ, S, W, L, ok, g⟩ := h
  simp only [evalE] at g
  exact binT ha hb I (two ok g) fun v u s2 y z H2 I2 ry rz ⟨S2, W2, a', b', st2, r1, r2, g2⟩ => eq_ok (ne := false) x hk I2 st2 ry rz r1 r2 g2
theorem snd_ne (x : XC rc c k X sc N) (hk : k < tooDeep) {a b : Expr} {m n : E} {pos : Pos} (ha : PE X a (tE c m)) (hb : PE X b (tE c n)) : Snd c X (.Compare a [.NotEq] [b] pos) (.ne m n) := by
  refine Snd.cmp ⟨fun pins s σ H Q I h => ?_⟩ (nobehind _ (by decide) (by decide))
  obtain ⟨ρ, S, W, L, ok, g⟩ := h
  simp only [evalE] at g
  exact binT ha hb I (two ok g) fun v u s2 y z H2 I2 ry rz ⟨S2, W2, a', b', st2, r1, r2, g2⟩ => eq_ok (ne := true) x hk I2 st2 ry rz r1 r2 g2
/-- <, <=, >, >= -/
theorem snd_cmp2 (x : XC rc c k X sc N) {op : CmpOp} {o : P2} (ho : OpR X (compareOp op) (r2 c.G c.X.k o)) (h1 : op ≠ .In) (h2 : op ≠ .NotIn) {a b : Expr} {m n : E} {pos : Pos} (ha : PE X a (tE c m)) (hb : PE X b (tE c n)) : Snd c X (.Compare a [op] [b] pos) (.p2 o m n) :=
  Snd.cmp (PC.imp (PC.of ho ha hb) fun σ H Q q => snd_p2 x.hΓ q) (nobehind _ h1 h2)
/-! ### tests -/
section
variable {a b e : Expr} {m n q : E} {pos : Pos} {rest : List Expr}
theorem Good.test {σ : L2.St} {W : Wd} {H : Hp} {r : R Mn.A} {F : Bool → Sto → R Mn.A} {Q : VK} (g : Good c.G c.wx (RA c.G) σ W H (r.bind fun x S1 => (match x with
      | .val (.bl true) => F true S1
      | .val (.bl false) => F false S1
      | _ => .st)) Q) : Good c.G c.wx (RA c.G) σ W H ((testR r).bind F) Q := by
  cases r with
  | ok x S1 =>
    cases x with
    | val d =>
      cases d with
      | bl b => cases b <;> exact g
      | _ => exact g.elim
    | _ => exact g.elim
  | ex _ _ _ => exact g
  | st => exact g
theorem snd_and (ha : Snd c X a m) (hb : Snd c X (.BoolOp .And (b :: rest) pos) n) (hw : PW X (.BoolOp .And (b :: rest) pos) (tTs c n)) : Snd c X (.BoolOp .And (a :: b :: rest) pos) (.and m n) ∧ PW X (.BoolOp .And (a :: b :: rest) pos) (tTs c (.and m n)) := by
  have w : PW X (.BoolOp .And (a :: b :: rest) pos) (tTs c (.and m n)) := by
    refine ⟨fun wh pins s σ H Q I h => (pw_and ha.pt hw).run wh pins s σ H Q I ?_⟩
    obtain ⟨ρ, S, W, L, ok, g⟩ := h
    simp only [evalE] at g
    show tTs c m σ H _
    refine ⟨ρ, S, W, L, ok, ?_⟩
    cases ev : evalE c.X m ρ S with
    | ex _ _ _ => rw [ev] at g; exact g
    | st => rw [ev] at g; exact g
    | ok y S1 =>
      rw [ev] at g
      cases y with
      | val d =>
        cases d with
        | bl t =>
          intro t' H1 W1 s1 x1 e1
          subst e1
          cases t' with
          | true => exact ⟨ρ, S1, W1, L, ok.ext s1 x1, Good.re g x1⟩
          | false => exact g false H1 W1 s1 x1 rfl
        | _ => exact g.elim
      | _ => exact g.elim
  refine ⟨⟨PE.imp (pe_and ha.pe hb.pe) fun σ H Q h => ?_, w.pt⟩, w⟩
  obtain ⟨ρ, S, W, L, ok, g⟩ := h
  simp only [evalE] at g
  refine ⟨ρ, S, W, L, ok, g.bind fun y S1 v H1 W1 s1 x1 r1 g1 => ?_⟩
  cases y with
  | val d =>
    cases d with
    | bl t =>
      cases r1
      refine ⟨t, rfl, ?_⟩
      cases t with
      | true => exact ⟨ρ, S1, W1, L, ok.ext s1 x1, g1⟩
      | false => exact (ansOf g1).now s1 (.bl _)
    | _ => exact g1.elim
  | _ => exact g1.elim
theorem snd_or (ha : Snd c X a m) (hb : Snd c X (.BoolOp .Or (b :: rest) pos) n) (hw : PW X (.BoolOp .Or (b :: rest) pos) (tTs c n)) : Snd c X (.BoolOp .Or (a :: b :: rest) pos) (.or m n) ∧ PW X (.BoolOp .Or (a :: b :: rest) pos) (tTs c (.or m n)) := by
  have w : PW X (.BoolOp .Or (a :: b :: rest) pos) (tTs c (.or m n)) := by
    refine ⟨fun wh pins s σ H Q I h => (pw_or ha.pt hw).run wh pins s σ H Q I ?_⟩
    obtain ⟨ρ, S, W, L, ok, g⟩ := h
    simp only [evalE] at g
    show tTs c m σ H _
    refine ⟨ρ, S, W, L, ok, ?_⟩
    cases ev : evalE c.X m ρ S with
    | ex _ _ _ => rw [ev] at g; exact g
    | st => rw [ev] at g; exact g
    | ok y S1 =>
      rw [ev] at g
      cases y with
      | val d =>
        cases d with
        | bl t =>
          intro t' H1 W1 s1 x1 e1
          subst e1
          cases t' with
          | false => exact ⟨ρ, S1, W1, L, ok.ext s1 x1, Good.re g x1⟩
          | true => exact g true H1 W1 s1 x1 rfl
        | _ => exact g.elim
      | _ => exact g.elim
  refine ⟨⟨PE.imp (pe_or ha.pe hb.pe) fun σ H Q h => ?_, w.pt⟩, w⟩
  obtain ⟨ρ, S, W, L, ok, g⟩ := h
  simp only [evalE] at g
  refine ⟨ρ, S, W, L, ok, g.bind fun y S1 v H1 W1 s1 x1 r1 g1 => ?_⟩
  cases y with
  | val d =>
    cases d with
    | bl t =>
      cases r1
      refine ⟨t, rfl, ?_⟩
      cases t with
      | false => exact ⟨ρ, S1, W1, L, ok.ext s1 x1, g1⟩
      | true => exact (ansOf g1).now s1 (.bl _)
    | _ => exact g1.elim
  | _ => exact g1.elim
theorem snd_one {op : BoolOp} (ha : Snd c X a m) : Snd c X (.BoolOp op [a] pos) m ∧ PW X (.BoolOp op [a] pos) (tTs c m) := by
  have w : PW X (.BoolOp op [a] pos) (tTs c m) := by
    cases op with
    | And => exact pw_and1 ha.pt
    | Or => exact pw_or1 ha.pt
  exact ⟨⟨pe_one ha.pe, w.pt⟩, w⟩
theorem snd_not (ha : Snd c X a m) : Snd c X (.UnaryOp .Not a pos) (.not m) := by
  constructor
  · refine PE.imp (pe_not ha.pe) fun σ H Q h => ?_
    obtain ⟨ρ, S, W, L, ok, g⟩ := h
    simp only [evalE] at g
    refine ⟨ρ, S, W, L, ok, g.bind fun y S1 v H1 W1 s1 x1 r1 g1 => ?_⟩
    cases y with
    | val d =>
      cases d with
      | bl t => cases r1; exact ⟨t, rfl, (ansOf g1).now s1 (.bl _)⟩
      | _ => exact g1.elim
    | _ => exact g1.elim
  · refine PT.imp (pt_not ha.pt) fun σ H Q h => ?_
    obtain ⟨ρ, S, W, L, ok, g⟩ := h
    simp only [evalE] at g
    refine ⟨ρ, S, W, L, ok, ?_⟩
    cases ev : evalE c.X m ρ S with
    | ex _ _ _ => rw [ev] at g; exact g
    | st => rw [ev] at g; exact g
    | ok y S1 =>
      rw [ev] at g
      cases y with
      | val d =>
        cases d with
        | bl t =>
          intro t' H1 W1 s1 x1 e1
          subst e1
          exact g _ H1 W1 s1 x1 rfl
        | _ => exact g.elim
      | _ => exact g.elim
theorem pt_if {t u w : TT} (hc : PT X e t) (ha : PT X a u) (hb : PT X b w) : PT X (.IfExp e a b pos) (fun σ H Q => t σ H fun z H1 => if z = true then u σ H1 Q else w σ H1 Q) := by
  refine ⟨fun pins s σ H Q I h => ?_⟩
  show wpAny _ _ (do if ← isTrue e X.env (eval e X.env) then isTrue a X.env (eval a X.env) else isTrue b X.env (eval b X.env)) _ _ _
  refine wpAny_bind (thn (hc.run pins s σ H _ I h) fun z s1 ⟨H1, I1, q1⟩ => ?_)
  cases z with
  | true => exact ha.run pins s1 σ H1 Q I1 q1
  | false => exact hb.run pins s1 σ H1 Q I1 q1
theorem snd_ite (he : Snd c X e q) (ha : Snd c X a m) (hb : Snd c X b n) : Snd c X (.IfExp e a b pos) (.ite q m n) := by
  constructor
  · refine PE.imp (pe_ifExp he.pt ha.pe hb.pe) fun σ H Q h => ?_
    obtain ⟨ρ, S, W, L, ok, g⟩ := h
    simp only [evalE] at g
    show tTs c q σ H _
    refine ⟨ρ, S, W, L, ok, ?_⟩
    cases ev : evalE c.X q ρ S with
    | ex _ _ _ => rw [ev] at g; exact g
    | st => rw [ev] at g; exact g
    | ok y S1 =>
      rw [ev] at g
      cases y with
      | val d =>
        cases d with
        | bl t =>
          intro t' H1 W1 s1 x1 e1
          subst e1
          cases t' with
          | true => exact ⟨ρ, S1, W1, L, ok.ext s1 x1, Good.re g x1⟩
          | false => exact ⟨ρ, S1, W1, L, ok.ext s1 x1, Good.re g x1⟩
        | _ => exact g.elim
      | _ => exact g.elim
  · refine PT.imp (pt_if he.pt ha.pt hb.pt) fun σ H Q h => ?_
    obtain ⟨ρ, S, W, L, ok, g⟩ := h
    simp only [evalE] at g
    show tTs c q σ H _
    refine ⟨ρ, S, W, L, ok, ?_⟩
    cases ev : evalE c.X q ρ S with
    | ex _ _ _ => rw [ev] at g; exact g
    | st => rw [ev] at g; exact g
    | ok y S1 =>
      rw [ev] at g
      cases y with
      | val d =>
        cases d with
        | bl t =>
          intro t' H1 W1 s1 x1 e1
          subst e1
          cases t' with
          | true => exact ⟨ρ, S1, W1, L, ok.ext s1 x1, Good.re g x1⟩
          | false => exact ⟨ρ, S1, W1, L, ok.ext s1 x1, Good.re g x1⟩
        | _ => exact g.elim
      | _ => exact g.elim
end
/-- a op b op' c -/
theorem tChain_ok (x : XC rc c k X sc N) {o o' : P2} {m n q : E} {σ : L2.St} {H : Hp} {Q : VK} (h : tE c (.chain o o' m n q) σ H Q) : tChain (r2 c.G c.X.k o) (r2 c.G c.X.k o') (tE c m) (tE c n) (tE c q) σ H Q := by
  have hΓ := x.hΓ
  obtain ⟨ρ, S, W, L, ok, g⟩ := h
  simp only [evalE] at g
  refine ⟨ρ, S, W, L, ok, g.bind fun a S1 v H1 W1 s1 x1 r1 g1 => ?_⟩
  refine ⟨ρ, S1, W1, L, ok.ext s1 x1, g1.bind fun b S2 u H2 W2 s2 x2 r2 g2 => ?_⟩
  have ok2 := (ok.ext s1 x1).ext s2 x2
  cases a with
  | val d =>
    cases b with
    | val e =>
      simp only at g2
      rw [hΓ] at g2
      cases ep : prim2 c.G.Γ c.X.k o d e with
      | none => rw [ep] at g2; exact g2.elim
      | some w =>
        rw [ep] at g2
        cases w with
        | bl t =>
          refine ⟨W2, S2, d, e, .bl t, s2, Rep.mono x2.f r1, r2, ep, fun v' H3 W3 s3 x3 r3 => ?_⟩
          cases r3
          refine ⟨t, rfl, ?_⟩
          cases t with
          | true =>
            rw [if_pos rfl]
            refine ⟨ρ, S2, W3, L, ok2.ext s3 x3, (Good.re g2 x3).bind fun z S4 v4 H4 W4 s4 x4 r4 g4 => ?_⟩
            cases z with
            | val f =>
              simp only at g4
              cases ep' : prim2 c.G.Γ c.X.k o' e f with
              | none => rw [ep'] at g4; exact g4.elim
              | some w' =>
                rw [ep'] at g4
                exact ⟨W4, S4, e, f, w', s4, Rep.mono x4.f (Rep.mono x3.f r2), r4, ep', fun v5 H5 W5 s5 x5 r5 => g4 v5 H5 W5 s5 x5 r5⟩
            | _ => exact g4.elim
          | false =>
            rw [if_neg (by simp)]
            exact (ansOf (Good.re g2 x3)).now s3 (.bl _)
        | _ => exact g2.elim
    | _ => exact g2.elim
  | _ => cases b <;> exact g2.elim
theorem snd_chain (x : XC rc c k X sc N) {op op' : CmpOp} {o o' : P2} {a b e : Expr} {m n q : E} {pos : Pos} (ho : OpR X (compareOp op) (r2 c.G c.X.k o)) (ho' : OpR X (compareOp op') (r2 c.G c.X.k o')) (h1 : op' ≠ .In) (h2 : op' ≠ .NotIn)
    (ha : PE X a (tE c m)) (hb : PE X b (tE c n)) (hc : PE X e (tE c q)) : Snd c X (.Compare a [op, op'] [b, e] pos) (.chain o o' m n q) := by
  have hm : lastMarks [op, op'] [b, e] = false := nobehind e h1 h2
  exact ⟨PE.imp (pe_chain ho ho' ha hb hc hm) fun σ H Q h => tChain_ok x h, PT.imp (pt_chain ho ho' ha hb hc hm) fun σ H Q h => tChain_ok x (tTs_of h)⟩
end
end Mn

set_option maxRecDepth 100000
set_option maxHeartbeats 2000000
/-! built-ins, subscripts, slices as expressions -/
namespace Mn
open PySem PySem.Spec PyProof.Rows L2
section
variable {rc : RC} {c : Cc} {k : Nat} {X : L2.Cx} {sc : Scope} {N : List Str}
/-- what a slot holds, to be looked at -/
theorem held_HR {W : Wd} {H : Hp} {ρ : Rho} {σ : L2.St} {S : Sto} {L : List Addr} {G : Gx} (ok : Ok G W H ρ σ S L) {i : Nat} {h : Mn.A} (e : heldS S ρ i = some h) : ∃ v, σ[i]? = some (some v) ∧ HR G W H h v := by
  simp only [heldS] at e
  cases e1 : ρ[i]? with
  | none => rw [e1] at e; simp at e
  | some o =>
    cases o with
    | none => rw [e1] at e; simp at e
    | some a =>
      obtain ⟨v, p, h1, h2, h3⟩ := ok.l.get e1
      rw [e1] at e
      refine ⟨v, h1, ?_⟩
      cases h2 with
      | val r => simp only [Option.some.injEq] at e; subst e; exact .val r
      | @ref n a r =>
        simp only at e
        cases e2 : S[n]? with
        | none => rw [e2] at e; simp only [Option.some.injEq] at e; subst e; exact .ref r
        | some o =>
          rw [e2] at e
          obtain ⟨a', p', h4, h5, _⟩ := ok.s.st.get e2
          rw [r] at h4; cases h4
          cases h5 with
          | lst k1 k2 => simp only [Option.some.injEq] at e; subst e; exact .own k1 k2
          | ins _ _ _ _ _ _ => simp only [Option.some.injEq] at e; subst e; exact .ref r
      | own k1 k2 => simp only [Option.some.injEq] at e; subst e; exact .own k1 k2
      | exc _ _ _ => simp at e
theorem slot_at {W : Wd} {H : Hp} {ρ : Rho} {σ : L2.St} {S : Sto} {L : List Addr} {G : Gx} (ok : Ok G W H ρ σ S L) {i : Nat} {a : Mn.A} (e : slotA ρ i = some a) : ∃ v p, σ[i]? = some (some v) ∧ AR G W.F W.al H a v p ∧ ∀ b ∈ p, b ∈ L := by
  unfold slotA at e
  cases e1 : ρ[i]? with
  | none => rw [e1] at e; simp at e
  | some o =>
    cases o with
    | none => rw [e1] at e; simp at e
    | some b =>
      rw [e1] at e
      simp only [Option.some.injEq] at e
      subst e
      exact ok.l.get e1
/-- a slot, then a part -/
theorem tk_b2 {o : P2} {i : Nat} {n : E} (hΓ : c.X.Γ = c.G.Γ) {σ : L2.St} {H : Hp} {Q : VK} (h : tE c (.b2 o i n) σ H Q) : tOp (r2h c.G c.X.k o) (tVar i) (tE c n) σ H Q := by
  obtain ⟨ρ, S, W, L, ok, g⟩ := h
  simp only [evalE] at g
  cases e : slotA ρ i with
  | none => rw [e] at g; exact g.elim
  | some a =>
    rw [e] at g
    obtain ⟨v, p, h1, _, _⟩ := slot_at ok e
    refine ⟨v, h1, ρ, S, W, L, ok, Good.bind g fun y S1 u H1 W1 s1 x1 r1 g1 => ?_⟩
    cases y with
    | val d =>
      have ok1 := ok.ext s1 x1
      simp only [hΓ] at g1
      cases e1 : heldS S1 ρ i with
      | none => rw [e1] at g1; exact g1.elim
      | some h =>
        rw [e1] at g1
        obtain ⟨v', h1', hr⟩ := held_HR ok1 e1
        rw [h1] at h1'; cases h1'
        simp only [Option.bind] at g1
        cases e2 : look2 c.G.Γ c.X.k o h d with
        | none => rw [e2] at g1; exact g1.elim
        | some w => rw [e2] at g1; exact ⟨W1, S1, h, d, w, s1, hr, r1, e2, ansOf g1⟩
    | _ => exact g1.elim
/-- a field, then a part -/
theorem tk_f2 {o : P2} {m n : E} {f : Nat} (hΓ : c.X.Γ = c.G.Γ) {σ : L2.St} {H : Hp} {Q : VK} (h : tE c (.f2 o m f n) σ H Q) : tOp (r2h c.G c.X.k o) (tL c (.f m f)) (tE c n) σ H Q := by
  obtain ⟨ρ, S, W, L, ok, g⟩ := h
  simp only [evalE] at g
  refine ⟨ρ, S, W, L, ok, ?_⟩
  simp only [evalL]
  cases ev : evalE c.X m ρ S with
  | ex _ _ _ => rw [ev] at g; exact g
  | st => rw [ev] at g; exact g.elim
  | ok x S1 =>
    rw [ev] at g
    simp only [Mn.R.bind] at g ⊢
    cases e : heldF c.X.Γ S1 x f with
    | none => rw [e] at g; exact g.elim
    | some h =>
      rw [e] at g
      cases h with
      | val d0 =>
        intro v H1 W1 s1 x1 r1
        refine ⟨ρ, S1, W1, L, ok.ext s1 x1, Good.bind (Good.re g x1) fun y S2 u H2 W2 s2 x2 r2 g2 => ?_⟩
        cases y with
        | val d =>
          simp only [hΓ] at g2
          cases e2 : prim2 c.G.Γ c.X.k o d0 d with
          | none => rw [e2] at g2; exact g2.elim
          | some w =>
            rw [e2] at g2
            cases r1 with
            | val r1 => exact ⟨W2, S2, .val d0, d, w, s2, .val (r1.mono x2.f), r2, e2, ansOf g2⟩
        | _ => exact g2.elim
      | _ => exact g.elim
theorem tk_e2 {o : P2} {m n : E} (hΓ : c.X.Γ = c.G.Γ) {σ : L2.St} {H : Hp} {Q : VK} (h : tE c (.p2 o m n) σ H Q) : tOp (r2h c.G c.X.k o) (tE c m) (tE c n) σ H Q := by
  obtain ⟨ρ, S, W, L, ok, g⟩ := snd_p2 hΓ h
  exact ⟨ρ, S, W, L, ok, g.mono fun v H1 ⟨ρ, S, W, L, ok, g⟩ => ⟨ρ, S, W, L, ok, g.mono fun u H2 ⟨W, S, d, e, w, s, r1, r2, ep, a⟩ => ⟨W, S, .val d, e, w, s, .val r1, r2, ep, a⟩⟩⟩
/-! the looked-at thing on the right -/
def r2hr (G : Gx) (k : Nat) (o : P2) : R2 := fun x y H Q => ∃ W S d h g, StOk G W H S ∧ Rep G W.F d x ∧ HR G W H h y ∧ look2r G.Γ k o d h = some g ∧ Ans G W H S g Q
theorem tk_b2r {o : P2} {i : Nat} {m : E} (hΓ : c.X.Γ = c.G.Γ) {σ : L2.St} {H : Hp} {Q : VK} (h : tE c (.b2r o m i) σ H Q) : tOp (r2hr c.G c.X.k o) (tE c m) (tVar i) σ H Q := by
  obtain ⟨ρ, S, W, L, ok, g⟩ := h
  simp only [evalE] at g
  refine ⟨ρ, S, W, L, ok, Good.bind g fun y S1 u H1 W1 s1 x1 r1 g1 => ?_⟩
  cases y with
  | val d =>
    have ok1 := ok.ext s1 x1
    simp only [hΓ] at g1
    cases e1 : heldS S1 ρ i with
    | none => rw [e1] at g1; exact g1.elim
    | some h =>
      rw [e1] at g1
      obtain ⟨v', h1', hr⟩ := held_HR ok1 e1
      simp only [Option.bind] at g1
      cases e2 : look2r c.G.Γ c.X.k o d h with
      | none => rw [e2] at g1; exact g1.elim
      | some w => rw [e2] at g1; exact ⟨v', h1', W1, S1, d, h, w, s1, r1, hr, e2, ansOf g1⟩
  | _ => exact g1.elim
theorem tk_f2r {o : P2} {m n : E} {f : Nat} (hΓ : c.X.Γ = c.G.Γ) {σ : L2.St} {H : Hp} {Q : VK} (h : tE c (.f2r o m n f) σ H Q) : tOp (r2hr c.G c.X.k o) (tE c m) (tL c (.f n f)) σ H Q := by
  obtain ⟨ρ, S, W, L, ok, g⟩ := h
  simp only [evalE] at g
  refine ⟨ρ, S, W, L, ok, Good.bind g fun y S1 u H1 W1 s1 x1 r1 g1 => ?_⟩
  have ok1 := ok.ext s1 x1
  refine ⟨ρ, S1, W1, L, ok1, ?_⟩
  simp only [evalL]
  cases ev : evalE c.X n ρ S1 with
  | ex _ _ _ => rw [ev] at g1; exact g1
  | st => rw [ev] at g1; exact g1.elim
  | ok x S2 =>
    rw [ev] at g1
    simp only [Mn.R.bind] at g1 ⊢
    cases y with
    | val d =>
      simp only [hΓ] at g1 ⊢
      cases e : heldF c.G.Γ S2 x f with
      | none => rw [e] at g1; exact g1.elim
      | some h =>
        rw [e] at g1
        simp only [Option.bind] at g1
        intro v H2 W2 s2 x2 r2
        cases e2 : look2r c.G.Γ c.X.k o d h with
        | none => rw [e2] at g1; exact g1.elim
        | some w =>
          rw [e2] at g1
          exact ⟨W2, S2, d, h, w, s2, Rep.mono x2.f r1, r2, e2, ansOf (Good.re g1 x2)⟩
    | _ => exact g1.elim
theorem tk_e2r {o : P2} {m n : E} (hΓ : c.X.Γ = c.G.Γ) {σ : L2.St} {H : Hp} {Q : VK} (h : tE c (.p2 o m n) σ H Q) : tOp (r2hr c.G c.X.k o) (tE c m) (tE c n) σ H Q := by
  obtain ⟨ρ, S, W, L, ok, g⟩ := snd_p2 hΓ h
  exact ⟨ρ, S, W, L, ok, g.mono fun v H1 ⟨ρ, S, W, L, ok, g⟩ => ⟨ρ, S, W, L, ok, g.mono fun u H2 ⟨W, S, d, e, w, s, r1, r2, ep, a⟩ => ⟨W, S, d, .val e, w, s, r1, .val r2, ep, a⟩⟩⟩
theorem or_inn {G : Gx} : OpR X (compareOp .In) (r2hr G k .inn) := OpR.imp op_in_str fun x y H Q q => by
  obtain ⟨W, S, d, h, g, s, rd, rh, ep, a⟩ := q
  cases h with
  | val e =>
    simp only [look2r] at ep
    cases d <;> first | (simp [prim2] at ep; done) | skip
    cases e <;> first | (simp [prim2] at ep; done) | skip
    simp only [prim2, Option.some.injEq] at ep
    subst ep
    cases rd
    obtain rfl := rh.str
    exact ⟨_, _, rfl, rfl, a.now s (.bl _)⟩
  | own l => simp only [look2r] at ep; cases d <;> simp [prim2] at ep
  | ref _ => simp [look2r] at ep
  | dic _ _ => cases rh
  | fdic _ _ => cases rh
  | exc _ _ => cases rh
theorem or_notin {G : Gx} : OpR X (compareOp .NotIn) (r2hr G k .notin) := OpR.imp op_notin_str fun x y H Q q => by
  obtain ⟨W, S, d, h, g, s, rd, rh, ep, a⟩ := q
  cases h with
  | val e =>
    simp only [look2r] at ep
    cases d <;> first | (simp [prim2] at ep; done) | skip
    cases e <;> first | (simp [prim2] at ep; done) | skip
    simp only [prim2, Option.some.injEq] at ep
    subst ep
    cases rd
    obtain rfl := rh.str
    refine ⟨_, _, rfl, rfl, ?_⟩
    rw [Bool.not_not]
    exact a.now s (.bl _)
  | own l => simp only [look2r] at ep; cases d <;> simp [prim2] at ep
  | ref _ => simp [look2r] at ep
  | dic _ _ => cases rh
  | fdic _ _ => cases rh
  | exc _ _ => cases rh
/-! ### isinstance -/
theorem hop_isT0 (row : RowOk X.mg rc c.G) (hK : X.K = c.G.K) {n : Nat} (hn : n < 5) {a : Expr} {p p2 pos : Pos} (hg : Gl X "isinstance") (hm : X.mg "isinstance" = none) (hgt : Gl X (tyNm n)) (hmt : X.mg (tyNm n) = none) (ha : Pl a) :
    ∀ t : TE, PE X a t → (∀ σ H Q Q', (∀ v H1, Q v H1 → Q' v H1) → t σ H Q → t σ H Q') → PE X (.Call (.Name "isinstance" p) [a, .Name (tyNm n) p2] [] pos) (fun σ H Q => t σ H fun v H1 => r1 c.G (isP n) [v] H1 Q) := by
  intro t ht mono
  have hn' : n = 0 ∨ n = 1 ∨ n = 2 ∨ n = 3 ∨ n = 4 := by omega
  have hb : bootBuiltins (tyNm n) = some (.type (tyNm n)) := by rcases hn' with rfl | rfl | rfl | rfl | rfl <;> kernel_rfl
  have hd : ((tyNm n : Str) == ("__debug__" : Str)) = false := by rcases hn' with rfl | rfl | rfl | rfl | rfl <;> decide +kernel
  have hnn : (tyNm n : Str) ≠ "__name__" := by rcases hn' with rfl | rfl | rfl | rfl | rfl <;> decide +kernel
  have hc : CallR X (.builtin "isinstance") (fun xs H Q => ∃ v, xs = [v, .ty (tyNm n)] ∧ r1 c.G (isP n) [v] H Q) := CallR.imp call_isi fun xs H Q q => by
    obtain ⟨v, rfl, v', h, W, S, d, e0, s, r, e, a⟩ := q
    cases e0
    have e1 : isP n ≠ .isN := by rcases hn' with rfl | rfl | rfl | rfl | rfl <;> simp [isP]
    have e2 : isP n ≠ .notN := by rcases hn' with rfl | rfl | rfl | rfl | rfl <;> simp [isP]
    have pr : ∀ d', prim1 c.G.Γ (isP n) d' = (isTy n d').map .bl := fun d' => by rcases hn' with rfl | rfl | rfl | rfl | rfl <;> cases d' <;> rfl
    rw [hK]
    rcases look1_cases e e1 e2 with ⟨y, rfl, f⟩ | ⟨l, rfl, f⟩ | ⟨ks, vs, z⟩
    · rw [pr, Option.map_eq_some_iff] at f
      obtain ⟨b, f1, rfl⟩ := f
      cases r with
      | val r =>
        obtain ⟨t, h1, h2⟩ := kit_ok row hn s r f1
        exact ⟨v, .ty (tyNm n), t, _, b, rfl, .ty _, h1, h2, a.now s (.bl _)⟩
    · rw [pr, Option.map_eq_some_iff] at f
      obtain ⟨b, f1, rfl⟩ := f
      cases r with
      | own r1 r2 =>
        refine ⟨_, .ty (tyNm n), .type "list", _, b, rfl, .ty _, .base (.lst r1), kit_ty ?_, a.now s (.bl _)⟩
        simp only [isTy, Option.some.injEq] at f1
        subst f1
        rcases hn' with rfl | rfl | rfl | rfl | rfl <;> decide +kernel
    · exact (r.nodic z).elim
  refine PE.imp (pe_callB hc hg hm (by kernel_rfl) (pa_cons ht (pa_cons (pe_bltn hgt hmt hb (v := .ty (tyNm n)) rfl hnn hd) pa_nil (by rfl)) (ha _ _)) (by decide +kernel) (by decide +kernel) (ha _ _) (by rfl)) fun σ H Q q => ?_
  exact mono σ H _ _ (fun v H1 z => ⟨v, rfl, z⟩) q
theorem hop_isT (x : XC rc c k X sc N) {n : Nat} (hn : n < 5) {a : Expr} {p p2 pos : Pos} (hg : Gl X "isinstance") (hm : X.mg "isinstance" = none) (hgt : Gl X (tyNm n)) (hmt : X.mg (tyNm n) = none) (ha : Pl a) :
    ∀ t : TE, PE X a t → (∀ σ H Q Q', (∀ v H1, Q v H1 → Q' v H1) → t σ H Q → t σ H Q') → PE X (.Call (.Name "isinstance" p) [a, .Name (tyNm n) p2] [] pos) (fun σ H Q => t σ H fun v H1 => r1 c.G (isP n) [v] H1 Q) :=
  hop_isT0 x.row x.hK hn hg hm hgt hmt ha
theorem hop_isC (x : XC rc c k X sc N) {n : Nat} {C : Addr} {y : Str} {a : Expr} {p p2 pos : Pos} (hg : Gl X "isinstance") (hm : X.mg "isinstance" = none) (hgt : Gl X y) (hC : c.G.clA n = some C) (hmt : X.mg y = some (.ref C)) (hd : (y == ("__debug__" : Str)) = false) (ha : Pl a) :
    ∀ t : TE, PE X a t → (∀ σ H Q Q', (∀ v H1, Q v H1 → Q' v H1) → t σ H Q → t σ H Q') → PE X (.Call (.Name "isinstance" p) [a, .Name y p2] [] pos) (fun σ H Q => t σ H fun v H1 => r1 c.G (.isObj n) [v] H1 Q) := by
  intro t ht mono
  obtain ⟨cl, q1, q2⟩ := x.row.cl n C hC
  have hc : CallR X (.builtin "isinstance") (fun xs H Q => ∃ v, xs = [v, .ref C] ∧ r1 c.G (.isObj n) [v] H Q) := CallR.imp call_isi fun xs H Q q => by
    obtain ⟨v, rfl, v', h, W, S, d, e0, s, r, e, a⟩ := q
    cases e0
    rw [x.hK]
    rcases look1_cases e (by simp) (by simp) with ⟨y, rfl, f⟩ | ⟨l, rfl, f⟩ | ⟨ks, vs, z⟩
    · simp only [prim1, Option.map_eq_some_iff] at f
      obtain ⟨b, f1, rfl⟩ := f
      cases r with
      | val r =>
        have hb : ∃ b', isTy 0 y = some b' := by
          cases y with
          | fn _ => simp [isC] at f1
          | cls _ => simp [isC] at f1
          | _ => exact ⟨_, rfl⟩
        obtain ⟨b', hb⟩ := hb
        obtain ⟨t, t1, t2⟩ := ty_of x.row s r hb
        refine ⟨v, .ref C, t, .ref C, b, rfl, .own _, t1, ?_, a.now s (.bl _)⟩
        rcases t2 with ⟨n', l, C', rfl, k1, rfl⟩ | ⟨nm, hm, rfl, z1, z2, z3, z4, z5, z6, z7⟩
        · simp only [isC, Option.some.injEq] at f1
          subst f1
          rw [x.row.clc n' C' n C k1 hC]
          congr 1
          exact BEq.comm
        · have : b = false := by
            cases y with
            | obj _ _ => exact absurd rfl (z7 _ _)
            | fn _ => simp [isC] at f1
            | cls _ => simp [isC] at f1
            | _ => simpa [isC] using f1.symm
          subst this
          exact q2.isc nm hm
    · simp only [prim1, isC, Option.map_some, Option.some.injEq] at f
      subst f
      cases r with
      | own r1 r2 => exact ⟨_, .ref C, .type "list", _, false, rfl, .own _, .base (.lst r1), q2.isc "list" (by simp), a.now s (.bl _)⟩
    · exact (r.nodic z).elim
  refine PE.imp (pe_callB hc hg hm (by kernel_rfl) (pa_cons ht (pa_cons (pe_glob hgt hmt (v := .ref C) rfl hd) pa_nil (by rfl)) (ha _ _)) (by decide +kernel) (by decide +kernel) (ha _ _) (by rfl)) fun σ H Q q => ?_
  exact mono σ H _ _ (fun v H1 z => ⟨v, rfl, z⟩) q
/-- x.bit_length() -/
theorem hop_bits {a : Expr} {apos pos : Pos} (hb : attributeBase a "bit_length" X.env (eval a X.env) = eval a X.env) (hl : (apos.endLine == pos.line) = true) :
    ∀ t : TE, PE X a t → (∀ σ H Q Q', (∀ v H1, Q v H1 → Q' v H1) → t σ H Q → t σ H Q') → PE X (.Call (.Attribute a "bit_length" apos) [] [] pos) (fun σ H Q => t σ H fun v H1 => r1 c.G .bits [v] H1 Q) := by
  intro t ht mono
  refine PE.imp (pe_bits ht hb hl) fun σ H Q q => mono σ H _ _ (fun v H1 z => ?_) q
  obtain ⟨v', h, W, S, d, e0, s, r, e, a⟩ := z
  cases e0
  rcases look1_cases e (by simp) (by simp) with ⟨y, rfl, f⟩ | ⟨l, rfl, f⟩ | ⟨ks, vs, z⟩
  · cases y with
    | int i =>
      simp only [prim1, Option.some.injEq] at f
      subst f
      obtain rfl := r.int
      exact ⟨i, rfl, a.now s (.int _)⟩
    | _ => simp [prim1] at f
  · simp [prim1] at f
  · exact (r.nodic z).elim
theorem snd_c1L {e : Expr} {l : LK} {o : P1} (hΓ : c.X.Γ = c.G.Γ) (h : PE X e (fun σ H Q => tL c l σ H fun v H1 => r1 c.G o [v] H1 Q)) : PE X e (tE c (mk1 o l)) := by
  refine PE.imp h fun σ H Q q => ?_
  obtain ⟨ρ, S, W, L, ok, g⟩ := q
  rw [eval_mk1] at g
  refine ⟨ρ, S, W, L, ok, g.bind fun h S1 v H1 W1 s1 x1 r1 g1 => ?_⟩
  rw [hΓ] at g1
  cases e1 : look1 c.G.Γ o h with
  | none => rw [e1] at g1; exact g1.elim
  | some d =>
    rw [e1] at g1
    exact ⟨v, h, W1, S1, d, rfl, s1, r1, e1, fun v' H' W' s x r => g1 v' H' W' s x r⟩
/-! ### slices -/
def rSlM (G : Gx) : V → Option Int → Option Int → Hp → VK → Prop := fun x lo hi H Q => ∃ W S d g, StOk G W H S ∧ Rep G W.F d x ∧ sliceD lo hi d = some g ∧ Ans G W H S g Q
theorem SlR.imp' {r r' : V → Option Int → Option Int → Hp → VK → Prop} (h : SlR X r) (i : ∀ x lo hi H Q, r' x lo hi H Q → r x lo hi H Q) : SlR X r' :=
  fun pins s σ H x v vl vu lo hi sl Q I rv hs p1 p2 q => h pins s σ H x v vl vu lo hi sl Q I rv hs p1 p2 (i _ _ _ _ _ q)
theorem sl_M (x : XC rc c k X sc N) : SlR X (rSlM c.G) := SlR.imp' (SlR.or sl_tupA (SlR.or sl_list sl_str)) fun y lo hi H Q q => by
  obtain ⟨W, S, d, g, st, r, e, a⟩ := q
  cases r with
  | tup h r =>
    simp only [sliceD, Option.some.injEq] at e
    subst e
    have e1 := r.length
    refine .inl ⟨_, _, rfl, by rw [x.hK]; exact h.ext st.sub, fun z => ?_, fun _ p hp => ?_⟩
    · refine a.now st (.tup h ?_)
      rw [e1, z.1, z.2]
      unfold cut
      rw [List.drop_zero, Nat.sub_zero, ← e1, List.take_length]
      exact r
    · refine a.lay st hp (.tup (SqT.of upd_same) ?_)
      unfold cutV cut
      rw [e1]
      exact ((r.drop _).take _).mono (Ext.upd (st.dead hp))
  | lst h r =>
    simp only [sliceD, Option.some.injEq] at e
    subst e
    have e1 := r.length
    refine .inr (.inl ⟨_, _, rfl, (.inl (h.ext st.sub)), fun p hp => ?_⟩)
    refine a.lay st hp (.lst (.inl upd_same) ?_)
    unfold cutV cut
    rw [e1]
    exact ((r.drop _).take _).mono (Ext.upd (st.dead hp))
  | str z =>
    simp only [sliceD, lenOk, Option.ite_none_right_eq_some, decide_eq_true_eq, Option.some.injEq] at e
    obtain ⟨e1, rfl⟩ := e
    exact .inr (.inr ⟨z, rfl, e1, a.now st (.str _)⟩)
  | _ => simp [sliceD] at e
/-- a part, read -/
def tPo (c : Cc) (o : Option E) : TO := fun σ H Q => ∃ ρ S W L, Ok c.G W H ρ σ S L ∧ Good c.G c.wx (fun _ _ a b => b = a) σ W H (match o with
      | none => R.ok (none : Option Int) S
      | some e => partV (evalE c.X e ρ S)) Q
theorem po_M : ∀ {e : Option Expr} {o : Option E}, (match e, o with | none, none => True | some e, some m => PE X e (tE c m) | _, _ => False) → PO X e (tPo c o)
  | none, none, _ => ⟨fun pins s σ H Q I h => po_none.run pins s σ H Q I (by
      obtain ⟨ρ, S, W, L, ok, g⟩ := h
      exact g none H W ok.s Xt.refl rfl)⟩
  | some e, some m, he => ⟨fun pins s σ H Q I h => (po_some he).run pins s σ H Q I (by
      obtain ⟨ρ, S, W, L, ok, g⟩ := h
      refine ⟨ρ, S, W, L, ok, ?_⟩
      have g : Good c.G c.wx (fun _ _ a b => b = a) σ W H (partV (evalE c.X m ρ S)) Q := g
      unfold partV at g
      cases ev : evalE c.X m ρ S with
      | ex _ _ _ => rw [ev] at g; exact g
      | st => rw [ev] at g; exact g.elim
      | ok a S1 =>
        rw [ev] at g
        cases a with
        | val d =>
          cases d with
          | int i =>
            intro v H1 W1 s1 x1 r1
            cases r1
            exact ⟨i, rfl, g _ H1 W1 s1 x1 rfl⟩
          | _ => exact g.elim
        | _ => exact g.elim)⟩
  | none, some _, h => h.elim
  | some _, none, h => h.elim
theorem snd_sl (x : XC rc c k X sc N) {a : Expr} {m : E} {lo hi : Option Expr} {l h : Option E} {p2 pos : Pos} (ha : PE X a (tE c m)) (hl : PO X lo (tPo c l)) (hh : PO X hi (tPo c h)) : PE X (.Subscript a (.Slice lo hi none p2) pos) (tE c (.sl m l h)) := by
  refine PE.imp (pe_slice (sl_M x) ha hl hh) fun σ H Q q => ?_
  obtain ⟨ρ, S, W, L, ok, g⟩ := q
  simp only [evalE] at g
  refine ⟨ρ, S, W, L, ok, g.bind fun a S1 v H1 W1 s1 x1 r1 g1 => ?_⟩
  have ok1 := ok.ext s1 x1
  refine ⟨ρ, S1, W1, L, ok1, Good.bind (RL' := fun _ _ (a b : Option Int) => b = a) g1 fun l' S2 l'' H2 W2 s2 x2 e2 g2 => ?_⟩
  subst e2
  have ok2 := ok1.ext s2 x2
  refine ⟨ρ, S2, W2, L, ok2, Good.bind (RL' := fun _ _ (a b : Option Int) => b = a) g2 fun h' S3 h'' H3 W3 s3 x3 e3 g3 => ?_⟩
  subst e3
  cases a with
  | val d =>
    simp only at g3
    cases e : sliceD l'' h'' d with
    | none => rw [e] at g3; exact g3.elim
    | some w => rw [e] at g3; exact ⟨W3, S3, d, w, s3, Rep.mono x3.f (Rep.mono x2.f r1), e, ansOf g3⟩
  | _ => exact g3.elim
/-- x.partition('..') -/
theorem snd_part {a : Expr} {m : E} {z : Str} {j : Nat} {p2 apos pos : Pos} (hΓ : c.X.Γ = c.G.Γ) (ha : PE X a (tE c m)) (hbase : attributeBase a "partition" X.env (eval a X.env) = eval a X.env) (hl : (apos.endLine == pos.line) = true) :
    PE X (.Call (.Attribute a "partition" apos) [.Constant (.str z) j p2] [] pos) (tE c (.p2 .part m (.k (.str z)))) := by
  refine PE.imp (pe_partition ha (pe_str (x := z)) (by rfl) hbase hl) fun σ H Q q => ?_
  obtain ⟨ρ, S, W, L, ok, g⟩ := q
  simp only [evalE, R.bind] at g
  refine ⟨ρ, S, W, L, ok, g.bind fun a S1 v H1 W1 s1 x1 r1 g1 => ?_⟩
  cases a with
  | val d =>
    simp only [hΓ] at g1
    cases e : prim2 c.G.Γ c.X.k .part d (.str z) with
    | none => rw [e] at g1; exact g1.elim
    | some w =>
      rw [e] at g1
      cases d <;> first | (simp [prim2] at e; done) | skip
      rename_i y
      simp only [prim2, lenOk, Bool.and_eq_true, decide_eq_true_eq, bne_iff_ne, Option.ite_none_right_eq_some, Option.some.injEq] at e
      obtain ⟨⟨e1, e2⟩, rfl⟩ := e
      cases r1
      refine ⟨⟨y, rfl⟩, y, z, rfl, rfl, by simpa using e2, e1, fun p hp => ?_⟩
      exact (ansOf g1).lay s1 hp (.tup (SqT.of upd_same) (.cons (.str _) (.cons (.str _) (.cons (.str _) .nil))))
  | _ => exact g1.elim
end
end Mn

set_option maxRecDepth 100000
set_option maxHeartbeats 2000000
/-! what is walked -/
namespace Mn
open PySem PySem.Spec PyProof.Rows L2
/-- an iterator over the data l -/
def ItOk (G : Gx) (F : Hp) (l : List D) (J : It) : Prop := ∀ (i : Nat) (W : Wd) (H : Hp) (S : Sto), Ext F W.F → StOk G W H S → (l.length ≤ i → J.stop i H) ∧ ∀ d, l[i]? = some d → J.go i H ∧ ∀ x H', J.yld i H x H' → ∃ W', StOk G W' H' S ∧ Xt W H W' H' ∧ Rep G W'.F d x
def tIt (c : Cc) (m : E) : TI := fun σ H R => ∃ ρ S W L, Ok c.G W H ρ σ S L ∧ Good c.G c.wx (fun W _ a J => ∃ l, a = .val (.lst l) ∧ ItOk c.G W.F l J) σ W H (evalE c.X m ρ S) R
section
variable {rc : RC} {c : Cc} {k : Nat} {X : L2.Cx} {sc : Scope} {N : List Str}
section
variable {G : Gx} {F : Hp}
theorem itok_list {a : Addr} {vs : List V} {l : List D} {K : PySem.W.Frag} (h : Rd F a (.lst vs)) (r : Reps G F l vs) : ItOk G F l (Itl K a) := by
  intro i W H S ex st
  have hl := r.length
  have hq : SqL K H a vs := .inl ((h.ext ex).ext st.sub)
  refine ⟨fun hi => ⟨vs, hq, by omega⟩, fun d hd => ?_⟩
  obtain ⟨v, hv, rv⟩ := r.get hd
  refine ⟨⟨vs, v, hq, hv⟩, fun x H' y => ?_⟩
  obtain ⟨rfl, y⟩ := y
  have := y vs hq
  rw [hv] at this; cases this
  exact ⟨W, st, Xt.refl, rv.mono ex⟩
theorem itok_tup {a : Addr} {vs : List V} {l : List D} (h : SqT G.K F a vs) (r : Reps G F l vs) : ItOk G F l (Itt G.K a) := by
  intro i W H S ex st
  have hl := r.length
  have hq : SqT G.K H a vs := (h.ext ex).ext st.sub
  refine ⟨fun hi => ⟨vs, hq, by omega⟩, fun d hd => ?_⟩
  obtain ⟨v, hv, rv⟩ := r.get hd
  refine ⟨⟨vs, v, hq, hv⟩, fun x H' y => ?_⟩
  obtain ⟨rfl, y⟩ := y
  have := y vs hq
  rw [hv] at this; cases this
  exact ⟨W, st, Xt.refl, rv.mono ex⟩
theorem itok_range {lo : Int} {n : Nat} : ItOk G F (rangeD lo n) (Itr lo n) := by
  intro i W H S ex st
  refine ⟨fun hi => show n ≤ i by simpa [rangeD] using hi, fun d hd => ?_⟩
  have hi : i < n := by
    have := (List.getElem?_eq_some_iff.mp hd).1
    simpa [rangeD] using this
  have e : d = .int (lo + i) := by
    unfold rangeD at hd
    rw [List.getElem?_map, List.getElem?_range hi] at hd
    simpa using hd.symm
  subst e
  refine ⟨hi, fun x H' y => ?_⟩
  obtain ⟨rfl, rfl⟩ := y
  exact ⟨W, st, Xt.refl, .int _⟩
theorem itok_str {z : Str} : ItOk G F (charsD z) (Its z) := by
  intro i W H S ex st
  refine ⟨fun hi => show z.cps.size ≤ i by simpa [charsD] using hi, fun d hd => ?_⟩
  have hi : i < z.cps.size := by
    have := (List.getElem?_eq_some_iff.mp hd).1
    simpa [charsD] using this
  refine ⟨hi, fun x H' y => ?_⟩
  obtain ⟨rfl, ch, h1, rfl⟩ := y
  have : d = .str ⟨#[ch]⟩ := by
    unfold charsD at hd
    rw [List.getElem?_map] at hd
    have h1' : z.cps.toList[i]? = some ch := by simpa using h1
    rw [h1'] at hd
    simpa using hd.symm
  subst this
  exact ⟨W, st, Xt.refl, .str _⟩
theorem zipD_get : ∀ {l m : List D} {i : Nat} {d : D}, (zipD l m)[i]? = some d → ∃ x y, l[i]? = some x ∧ m[i]? = some y ∧ d = .tup [x, y]
  | [], _, i, d, h => by simp [zipD] at h
  | _ :: _, [], i, d, h => by simp [zipD] at h
  | x :: l, y :: m, 0, d, h => by simp [zipD] at h; exact ⟨x, y, rfl, rfl, h.symm⟩
  | x :: l, y :: m, i + 1, d, h => by
    obtain ⟨x', y', h1, h2, h3⟩ := zipD_get (l := l) (m := m) (i := i) (by simpa [zipD] using h)
    exact ⟨x', y', by simpa using h1, by simpa using h2, h3⟩
theorem zipD_len : ∀ (l m : List D), (zipD l m).length = min l.length m.length
  | [], m => by simp [zipD]
  | _ :: _, [] => by simp [zipD]
  | x :: l, y :: m => by simp [zipD, zipD_len l m, Nat.succ_min_succ]
theorem itok_zipL {a b : Addr} {vs us : List V} {l m : List D} {K : PySem.W.Frag} (h : Rd F a (.lst vs)) (h' : Rd F b (.lst us)) (r : Reps G F l vs) (r' : Reps G F m us) : ItOk G F (zipD l m) (Itz K a b) := by
  intro i W H S ex st
  have hl := r.length
  have hl' := r'.length
  have hq : SqL K H a vs := .inl ((h.ext ex).ext st.sub)
  have hq' : SqL K H b us := .inl ((h'.ext ex).ext st.sub)
  refine ⟨fun hi => ⟨vs, us, hq, hq', by rw [zipD_len] at hi; omega⟩, fun d hd => ?_⟩
  obtain ⟨dx, dy, e1, e2, rfl⟩ := zipD_get hd
  obtain ⟨v, hv, rv⟩ := r.get e1
  obtain ⟨u, hu, ru⟩ := r'.get e2
  refine ⟨⟨vs, us, v, u, hq, hq', hv, hu⟩, fun x H' y => ?_⟩
  obtain ⟨T, v', u', rfl, hT, rfl, y1, y2⟩ := y
  have := y1 vs hq
  rw [hv] at this; cases this
  have := y2 us hq'
  rw [hu] at this; cases this
  refine ⟨_, st.lay hT, Xt.lay st hT, .tup (SqT.of upd_same) ?_⟩
  exact Reps.mono (ex.trans (Ext.upd (st.dead hT))) (.cons rv (.cons ru .nil))
theorem itok_zipT {a b : Addr} {vs us : List V} {l m : List D} (h : SqT G.K F a vs) (h' : SqT G.K F b us) (r : Reps G F l vs) (r' : Reps G F m us) : ItOk G F (zipD l m) (RZ.ItzT G.K a b) := by
  intro i W H S ex st
  have hl := r.length
  have hl' := r'.length
  have hq : SqT G.K H a vs := (h.ext ex).ext st.sub
  have hq' : SqT G.K H b us := (h'.ext ex).ext st.sub
  refine ⟨fun hi => ⟨vs, us, hq, hq', by rw [zipD_len] at hi; omega⟩, fun d hd => ?_⟩
  obtain ⟨dx, dy, e1, e2, rfl⟩ := zipD_get hd
  obtain ⟨v, hv, rv⟩ := r.get e1
  obtain ⟨u, hu, ru⟩ := r'.get e2
  refine ⟨⟨vs, us, v, u, hq, hq', hv, hu⟩, fun x H' y => ?_⟩
  obtain ⟨T, v', u', rfl, hT, rfl, y1, y2⟩ := y
  have := y1 vs hq
  rw [hv] at this; cases this
  have := y2 us hq'
  rw [hu] at this; cases this
  refine ⟨_, st.lay hT, Xt.lay st hT, .tup (SqT.of upd_same) ?_⟩
  exact Reps.mono (ex.trans (Ext.upd (st.dead hT))) (.cons rv (.cons ru .nil))
end
theorem PI.imp {tg it : Expr} {t t' : TI} (h : PI X tg it t) (i : ∀ σ H R, t' σ H R → t σ H R) : PI X tg it t' := ⟨fun pins s σ H R I q => h.run pins s σ H R I (i σ H R q)⟩
/-- iter(x) of a list, a tuple, a text -/
def rItr (K : PySem.W.Frag) : V → Hp → (It → Hp → Prop) → Prop := fun x H R => (∃ a xs, x = .ref a ∧ SqL K H a xs ∧ R (Itl K a) H) ∨ (∃ a xs, x = .ref a ∧ SqT K H a xs ∧ R (Itt K a) H) ∨ ∃ z, x = .str z ∧ R (Its z) H
theorem pi_any {tg l : Expr} {tl : TE} (hl : PE X l tl) : PI X tg l (fun σ H R => tl σ H fun x H1 => rItr X.K x H1 R) := by
  refine ⟨fun pins s σ H R I h => ?_⟩
  refine thn (hl.run pins s σ H _ I h) fun v s1 ⟨x, H1, I1, r1, q1⟩ => ?_
  rcases q1 with ⟨a, xs, rfl, hq, q⟩ | ⟨a, xs, rfl, hq, q⟩ | ⟨z, rfl, q⟩
  · cases r1
    obtain ⟨its, rv, p, hz⟩ := I1.list hq
    refine wpAny_pyIter_list p.isList ?_
    refine ⟨s1.heap.objs.size, [s1.heap.objs.size], _, _, H1, rfl, I1.kept (t' := s1.toks) fun b o e => Heap.get?_push_of_some _ e, turn_list a _, ⟨_, Heap.get?_push_size _ rfl, rfl, rfl⟩, fun b hb => ?_, q⟩
    have e : b = s1.heap.objs.size := by simpa using hb
    subst e
    exact I1.fpOk (Nat.le_refl _) (I1.hok.fresh (Nat.le_refl _))
  · cases r1
    obtain ⟨its, rv, p, hz⟩ := I1.tuple hq
    refine wpAny_pyIter_tuple (show s1.heap.IsTuple a its.toArray from p) ?_
    refine ⟨s1.heap.objs.size, [s1.heap.objs.size], _, _, H1, rfl, I1.kept (t' := s1.toks) fun b o e => Heap.get?_push_of_some _ e, turn_tuple a _, ⟨_, Heap.get?_push_size _ rfl, rfl, rfl⟩, fun b hb => ?_, q⟩
    have e : b = s1.heap.objs.size := by simpa using hb
    subst e
    exact I1.fpOk (Nat.le_refl _) (I1.hok.fresh (Nat.le_refl _))
  · obtain ⟨t, rfl⟩ := r1
    cases ha : z.cps.all (· < 128)
    · exact wpAny_pyIter_wide ha (pi_one (tk := s1.toks) I1 _ (turn_str _ z t "str_iterator" (.inr rfl)) ⟨_, Heap.get?_push_size _ rfl, rfl, rfl⟩ q)
    · exact wpAny_pyIter_ascii ha (pi_one (tk := s1.toks) I1 _ (turn_str _ z t "str_ascii_iterator" (.inl rfl)) ⟨_, Heap.get?_push_size _ rfl, rfl, rfl⟩ q)
/-- data that is walked as it is -/
theorem pi_item (x : XC rc c k X sc N) {tg e : Expr} {l : LK} (h : PE X e (tL c l)) : PI X tg e (tIt c (mk1 .item l)) := by
  refine PI.imp (pi_any h) fun σ H R q => ?_
  obtain ⟨ρ, S, W, L, ok, g⟩ := q
  rw [eval_mk1] at g
  refine ⟨ρ, S, W, L, ok, Good.bind (RL' := fun W H => HR c.G W H) g fun h S1 v H1 W1 s1 x1 r1 g1 => ?_⟩
  rw [x.hΓ] at g1
  cases e : look1 c.G.Γ .item h with
  | none => rw [e] at g1; exact g1.elim
  | some d =>
    rw [e] at g1
    rcases look1_cases e (by simp) (by simp) with ⟨y, rfl, f⟩ | ⟨l, rfl, f⟩ | ⟨ks, vs, z⟩
    · cases r1 with
      | val r1 =>
        rw [x.hK]
        cases r1 with
        | str z =>
          simp only [prim1, lenOk, Option.ite_none_right_eq_some, decide_eq_true_eq, Option.some.injEq] at f
          obtain ⟨f1, rfl⟩ := f
          exact .inr (.inr ⟨z, rfl, g1 (Its z) H1 W1 s1 Xt.refl ⟨_, rfl, itok_str⟩⟩)
        | tup h r =>
          simp only [prim1, items, Option.map_some, Option.some.injEq] at f
          subst f
          exact .inr (.inl ⟨_, _, rfl, h.ext s1.sub, g1 _ H1 W1 s1 Xt.refl ⟨_, rfl, itok_tup h r⟩⟩)
        | lst h r =>
          simp only [prim1, items, Option.map_some, Option.some.injEq] at f
          subst f
          exact .inl ⟨_, _, rfl, (.inl (h.ext s1.sub)), g1 _ H1 W1 s1 Xt.refl ⟨_, rfl, itok_list h r⟩⟩
        | _ => simp [prim1, items] at f
    · simp [look1] at e
    · exact (r1.nodic z).elim
/-- range(a) -/
theorem pi_rng1 (x : XC rc c k X sc N) {tg a : Expr} {m : E} {p pos : Pos} (hg : Gl X "range") (hm : X.mg "range" = none) (ha : PE X a (tE c m)) (hp : Pl a) : PI X tg (.Call (.Name "range" p) [a] [] pos) (tIt c (.p1 .rng m)) := by
  refine PI.imp (pi_range1 hg hm (pa_cons ha pa_nil (hp _ _)) (hp _ _)) fun σ H R q => ?_
  obtain ⟨ρ, S, W, L, ok, g⟩ := q
  simp only [evalE] at g
  refine ⟨ρ, S, W, L, ok, Good.bind (RL' := RA c.G) g fun h S1 v H1 W1 s1 x1 r1 g1 => ?_⟩
  rw [x.hΓ] at g1
  cases h with
  | val d =>
    cases e : look1 c.G.Γ .rng (.val d) with
    | none => rw [e] at g1; exact g1.elim
    | some w =>
      rw [e] at g1
      simp only [look1] at e
      cases d <;> first | (simp [prim1] at e; done) | skip
      rename_i j
      simp only [prim1, small62, Bool.and_eq_true, decide_eq_true_eq, Option.ite_none_right_eq_some, Option.some.injEq] at e
      obtain ⟨⟨e1, e2⟩, rfl⟩ := e
      cases r1
      exact ⟨j, rfl, e1, e2, g1 _ H1 W1 s1 Xt.refl ⟨_, rfl, itok_range⟩⟩
  | ref _ => exact g1.elim
  | _ => exact r1.elim
theorem pi_rng2 (x : XC rc c k X sc N) {tg a b : Expr} {m n : E} {p pos : Pos} (hg : Gl X "range") (hm : X.mg "range" = none) (ha : PE X a (tE c m)) (hb : PE X b (tE c n)) (hp : Pl a) (hp2 : Pl b) : PI X tg (.Call (.Name "range" p) [a, b] [] pos) (tIt c (.p2 .rng2 m n)) := by
  refine PI.imp (pi_range2 hg hm (pa_cons ha (pa_cons hb pa_nil (hp2 _ _)) (hp _ _)) (by rw [hp, hp2]; rfl) (hp2 _ _)) fun σ H R q => ?_
  obtain ⟨ρ, S, W, L, ok, g⟩ := q
  simp only [evalE] at g
  refine ⟨ρ, S, W, L, ok, Good.bind (RL' := RA c.G) g fun h S1 v H1 W1 s1 x1 r1 g1 => ?_⟩
  have ok1 := ok.ext s1 x1
  refine ⟨ρ, S1, W1, L, ok1, Good.bind (RL' := RA c.G) g1 fun h2 S2 v2 H2 W2 s2 x2 r2 g2 => ?_⟩
  cases h with
  | val d =>
    cases h2 with
    | val d2 =>
      simp only [x.hΓ] at g2
      cases e : prim2 c.G.Γ c.X.k .rng2 d d2 with
      | none => rw [e] at g2; exact g2.elim
      | some w =>
        rw [e] at g2
        cases d <;> first | (simp [prim2] at e; done) | skip
        cases d2 <;> first | (simp [prim2] at e; done) | skip
        rename_i i j
        simp only [prim2, small62, Bool.and_eq_true, decide_eq_true_eq, Option.ite_none_right_eq_some, Option.some.injEq] at e
        obtain ⟨⟨⟨e1, e2⟩, e3, e4⟩, rfl⟩ := e
        cases r1
        cases r2
        exact ⟨i, j, rfl, ⟨e1, e2, e3, e4⟩, g2 _ H2 W2 s2 Xt.refl ⟨_, rfl, itok_range⟩⟩
    | _ => exact g2.elim
  | _ => cases h2 <;> exact g2.elim
theorem pi_zipM (x : XC rc c k X sc N) {a b : Expr} {m n : E} {p pos tpos : Pos} {elts : List Expr} {kk : Nat} (hg : Gl X "zip") (hm : X.mg "zip" = none) (ha : PE X a (tE c m)) (hb : PE X b (tE c n)) (hp : Pl a) (hp2 : Pl b) :
    PI X (.Tuple elts kk tpos) (.Call (.Name "zip" p) [a, b] [] pos) (tIt c (.p2 .zip m n)) := by
  refine PI.imp (RZ.pi_zipA hg hm (pa_cons ha (pa_cons hb pa_nil (hp2 _ _)) (hp _ _)) (hp _ _) (Pls.any (es := [b]) fun e he => by simp at he; subst he; exact hp2)) fun σ H R q => ?_
  obtain ⟨ρ, S, W, L, ok, g⟩ := q
  simp only [evalE] at g
  refine ⟨ρ, S, W, L, ok, Good.bind (RL' := RA c.G) g fun h S1 v H1 W1 s1 x1 r1 g1 => ?_⟩
  have ok1 := ok.ext s1 x1
  refine ⟨ρ, S1, W1, L, ok1, Good.bind (RL' := RA c.G) g1 fun h2 S2 v2 H2 W2 s2 x2 r2 g2 => ?_⟩
  cases h with
  | val d =>
    cases h2 with
    | val d2 =>
      simp only [x.hΓ] at g2
      have r1 := Rep.mono x2.f r1
      rw [x.hK]
      cases e : prim2 c.G.Γ c.X.k .zip d d2 with
      | none => rw [e] at g2; exact g2.elim
      | some w =>
        rw [e] at g2
        cases d <;> first | (simp [prim2] at e; done) | skip
        · cases d2 <;> first | (simp [prim2] at e; done) | skip
          simp only [prim2, Option.some.injEq] at e
          subst e
          cases r1 with
          | tup h1 q1 =>
            have r2 : Rep c.G W2.F (.tup _) v2 := r2
            cases r2 with
            | tup h2 q2 => exact ⟨_, _, _, _, rfl, .inr ⟨h1.ext s2.sub, h2.ext s2.sub, g2 _ H2 W2 s2 Xt.refl ⟨_, rfl, itok_zipT h1 h2 q1 q2⟩⟩⟩
        · cases d2 <;> first | (simp [prim2] at e; done) | skip
          simp only [prim2, Option.some.injEq] at e
          subst e
          cases r1 with
          | lst h1 q1 =>
            have r2 : Rep c.G W2.F (.lst _) v2 := r2
            cases r2 with
            | lst h2 q2 => exact ⟨_, _, _, _, rfl, .inl ⟨.inl (h1.ext s2.sub), .inl (h2.ext s2.sub), g2 _ H2 W2 s2 Xt.refl ⟨_, rfl, itok_zipL h1 h2 q1 q2⟩⟩⟩
    | _ => exact g2.elim
  | _ => cases h2 <;> exact g2.elim
end
end Mn

set_option maxRecDepth 100000
set_option maxHeartbeats 2000000
/-! slots take values; comprehensions -/
namespace Mn
open PySem PySem.Spec PyProof.Rows L2
section
variable {G : Gx} {F F' : Hp} {al al' : List Addr} {H H' : Hp} {ρ : Rho} {σ : L2.St} {L : List Addr} {S S' : Sto} {W W' W1 : Wd}
theorem LR.put {a : A} {v : V} (ha : AR G F al H a v []) : ∀ {ρ : Rho} {σ : L2.St} {L : List Addr} {i : Nat}, LR G F al H ρ σ L → i < ρ.length → ∃ L', L'.Sublist L ∧ LR G F al H (ρ.set i (some a)) (σ.set i (some v)) L'
  | _, _, _, _, .nil, h => by simp at h
  | _, _, _, 0, .no r, _ => ⟨_, List.Sublist.refl _, .one (p := []) ha r⟩
  | _, _, _, 0, .one (p := p) (q := q) h r, _ => ⟨q, List.sublist_append_right _ _, .one (p := []) ha r⟩
  | _, _, _, i + 1, .no r, h => by
    obtain ⟨L', h1, h2⟩ := LR.put ha (i := i) r (by simpa using h)
    exact ⟨L', h1, .no h2⟩
  | _, _, _, i + 1, .one (p := p) h0 r, h => by
    obtain ⟨L', h1, h2⟩ := LR.put ha (i := i) r (by simpa using h)
    exact ⟨p ++ L', List.Sublist.append (List.Sublist.refl _) h1, .one h0 h2⟩
theorem LR.drop1 : ∀ {ρ : Rho} {σ : L2.St} {L : List Addr} {i : Nat}, LR G F al H ρ σ L → ∃ L', L'.Sublist L ∧ LR G F al H (ρ.set i none) (σ.set i none) L'
  | _, _, _, _, .nil => ⟨[], List.Sublist.refl _, .nil⟩
  | _, _, _, 0, .no r => ⟨_, List.Sublist.refl _, .no r⟩
  | _, _, _, 0, .one (p := p) (q := q) h r => ⟨q, List.sublist_append_right _ _, .no r⟩
  | _, _, _, i + 1, .no r => by
    obtain ⟨L', h1, h2⟩ := LR.drop1 (i := i) r
    exact ⟨L', h1, .no h2⟩
  | _, _, _, i + 1, .one (p := p) h0 r => by
    obtain ⟨L', h1, h2⟩ := LR.drop1 (i := i) r
    exact ⟨p ++ L', List.Sublist.append (List.Sublist.refl _) h1, .one h0 h2⟩
theorem Ok.sub {L' : List Addr} {ρ' : Rho} {σ' : L2.St} (o : Ok G W H ρ σ S L) (h : L'.Sublist L) (l : LR G W.F W.al H ρ' σ' L') : Ok G W H ρ' σ' S L' :=
  ⟨o.s, l, o.nd.sublist h, fun a ha => o.dj a (h.subset ha), fun a ha => o.fr a (h.subset ha)⟩
theorem Ok.put (o : Ok G W H ρ σ S L) {a : A} {v : V} (ha : AV G W a v) {i : Nat} (hi : i < ρ.length) : ∃ L', Ok G W H (ρ.set i (some a)) (σ.set i (some v)) S L' := by
  have : AR G W.F W.al H a v [] := by
    cases a with
    | val d => exact .val ha
    | ref n => obtain ⟨p, h1, rfl⟩ := ha; exact .ref h1
    | _ => exact ha.elim
  obtain ⟨L', h1, h2⟩ := LR.put this o.l hi
  exact ⟨L', o.sub h1 h2⟩
theorem Ok.wipe (o : Ok G W H ρ σ S L) : ∀ vs : List Nat, ∃ L', Ok G W H (wipeR ρ vs) (wipe σ vs) S L'
  | [] => ⟨L, o⟩
  | v :: vs => by
    obtain ⟨L1, o1⟩ := Ok.wipe o vs
    obtain ⟨L2, h1, h2⟩ := LR.drop1 (i := v) o1.l
    exact ⟨L2, o1.sub h1 h2⟩
/-- something else is written -/
theorem StOk.other (s : StOk G W H S) {D : Addr} {o : HO} (h1 : W.F D = none) (h2 : D ∉ W.fp) : StOk G W (upd H D o) S where
  st := s.st.mono Ext.rfl' ⟨[], by simp⟩ fun b hb ob e => by
    rw [upd_ne]; exact e
    rintro rfl; exact h2 hb
  nd := s.nd
  fr := s.fr
  sub := fun a u e => by
    rw [upd_ne]; exact s.sub a u e
    rintro rfl; rw [h1] at e; cases e
theorem Xt.other (x : Xt W H W' H') {D : Addr} {o : HO} (h : H D = none) : Xt W H W' (upd H' D o) where
  f := x.f
  al := x.al
  keep := fun a u e n => by
    rw [upd_ne]; exact x.keep a u e n
    rintro rfl; rw [h] at e; cases e
  live := fun a u e => by
    rw [upd_ne]; exact x.live a u e
    rintro rfl; rw [h] at e; cases e
  fp := x.fp
  fz := x.fz
/-- a thing that stands apart stays apart -/
theorem Xt.apart (x : Xt W H W' H') {D : Addr} {o : HO} (h : H D = some o) (h1 : W.F D = none) (h2 : D ∉ W.fp) : H' D = some o ∧ W'.F D = none ∧ D ∉ W'.fp := by
  refine ⟨x.keep D o h h2, ?_, fun z => ?_⟩
  · cases e : W'.F D with
    | none => rfl
    | some u =>
      rcases x.fz D u e with q | q | q
      · rw [h1] at q; cases q
      · rw [h] at q; cases q
      · exact absurd q h2
  · rcases x.fp D z with q | q
    · exact h2 q
    · rw [h] at q; cases q
/-- a thing that stands apart is let go as data -/
theorem StOk.keepF (s : StOk G W' H' S) (x : Xt W H W' H') {D : Addr} {o : HO} (h0 : H D = none) (h : H' D = some o) (h1 : W'.F D = none) (h2 : D ∉ W'.fp) : StOk G { W' with F := upd W'.F D o } H' S ∧ Xt W H { W' with F := upd W'.F D o } H' := by
  have ex : Ext W'.F (upd W'.F D o) := Ext.upd h1
  refine ⟨⟨s.st.mono ex ⟨[], by simp⟩ fun b _ ob e => e, s.nd, fun a ha => ?_, fun a u e => ?_⟩, ⟨x.f.trans ex, x.al, x.keep, x.live, x.fp, fun a u e => ?_⟩⟩
  · show upd W'.F D o a = none
    rw [upd_ne]; exact s.fr a ha
    rintro rfl; exact h2 ha
  · have e : upd W'.F D o a = some u := e
    by_cases z : a = D
    · subst z; rw [upd_same] at e; cases e; exact h
    · rw [upd_ne z] at e; exact s.sub a u e
  · have e : upd W'.F D o a = some u := e
    by_cases z : a = D
    · subst z; exact .inr (.inl h0)
    · rw [upd_ne z] at e; exact x.fz a u e
end
/-! ### a for's target -/
/-- the slots but vs are as they were -/
def Same (vs : List Nat) (σ σ' : L2.St) : Prop := σ'.length = σ.length ∧ ∀ i, i ∉ vs → σ'[i]? = σ[i]?
theorem Same.rfl' {vs : List Nat} {σ : L2.St} : Same vs σ σ := ⟨rfl, fun _ _ => rfl⟩
theorem Same.trans {vs : List Nat} {σ σ1 σ2 : L2.St} (a : Same vs σ σ1) (b : Same vs σ1 σ2) : Same vs σ σ2 := ⟨b.1.trans a.1, fun i h => (b.2 i h).trans (a.2 i h)⟩
theorem Same.mono {vs us : List Nat} {σ σ1 : L2.St} (a : Same vs σ σ1) (h : ∀ i ∈ vs, i ∈ us) : Same us σ σ1 := ⟨a.1, fun i hi => a.2 i fun z => hi (h i z)⟩
theorem Same.set {i : Nat} {σ : L2.St} {o : Option V} : Same [i] σ (σ.set i o) := ⟨by simp, fun j hj => by
  have : i ≠ j := fun z => hj (by simp [z])
  rw [List.getElem?_set_ne this]⟩
theorem wipe_get (σ : L2.St) : ∀ (vs : List Nat) (i : Nat), (wipe σ vs)[i]? = if i ∈ vs ∧ i < σ.length then some none else σ[i]?
  | [], i => by simp [wipe]
  | v :: vs, i => by
    simp only [wipe, List.getElem?_set, wipe_length]
    by_cases h : v = i
    · subst h
      simp only [if_true, List.mem_cons, true_or, true_and]
      by_cases h2 : v < σ.length
      · rw [if_pos h2, if_pos h2]
      · rw [if_neg h2, if_neg h2, List.getElem?_eq_none (by omega)]
    · rw [if_neg h, wipe_get σ vs i]
      have : (i ∈ v :: vs) ↔ i ∈ vs := by simp [Ne.symm h]
      simp only [this]
theorem Same.wipe {vs : List Nat} {σ σ1 : L2.St} (a : Same vs (L2.wipe σ vs) σ1) : L2.wipe σ1 vs = L2.wipe σ vs := by
  refine List.ext_getElem? fun i => ?_
  have hl := a.1
  rw [wipe_length] at hl
  rw [wipe_get, wipe_get, hl]
  by_cases h : i ∈ vs ∧ i < σ.length
  · rw [if_pos h, if_pos h]
  · rw [if_neg h, if_neg h]
    by_cases hi : i ∈ vs
    · have : ¬ i < σ.length := fun z => h ⟨hi, z⟩
      rw [List.getElem?_eq_none (by omega), List.getElem?_eq_none (by omega)]
    · rw [a.2 i hi, wipe_get, if_neg h]
def tBd (c : Cc) (b : B) : TG := fun v σ H Q => ∃ ρ S W L d ρ', Ok c.G W H ρ σ S L ∧ Rep c.G W.F d v ∧ bindT b d ρ = some ρ' ∧ ∀ σ' L', Ok c.G W H ρ' σ' S L' → Same (bvars b) σ σ' → Q σ' H
def tBds (c : Cc) (bs : List B) : TGs := fun vs σ H Q => ∃ ρ S W L ds ρ', Ok c.G W H ρ σ S L ∧ Reps c.G W.F ds vs ∧ bindTs bs ds ρ = some ρ' ∧ ∀ σ' L', Ok c.G W H ρ' σ' S L' → Same (bvarss bs) σ σ' → Q σ' H
section
variable {rc : RC} {c : Cc} {k : Nat} {X : L2.Cx} {sc : Scope} {N : List Str}
theorem PG.imp {tg : Expr} {t t' : TG} (h : PG X tg t) (i : ∀ v σ H Q, t' v σ H Q → t v σ H Q) : PG X tg t' := ⟨fun pins s σ H v u Q I r q => h.run pins s σ H v u Q I r (i v σ H Q q)⟩
theorem PGs.imp {tg : List Expr} {t t' : TGs} (h : PGs X tg t) (i : ∀ v σ H Q, t' v σ H Q → t v σ H Q) : PGs X tg t' := ⟨fun pins s σ H v u Q I r q => h.run pins s σ H v u Q I r (i v σ H Q q)⟩
theorem idx_get {l : List Str} {x : Str} {i : Nat} (h : l.idxOf? x = some i) : l[i]? = some x := by
  have h := List.findIdx?_eq_some_iff_getElem.mp (show l.findIdx? (· == x) = some i from h)
  obtain ⟨h1, h2, _⟩ := h
  rw [List.getElem?_eq_getElem h1]
  simpa using h2
/-- a name that is stored to -/
theorem XC.loc (x : XC rc c k X sc N) {y : Str} {i : Nat} (h : (match sc.names.lookup y with | some .local => N.idxOf? y | some .cell => N.idxOf? y | _ => none) = some i) : X.N[i]? = some y ∧ Loc X.env.scope y ∧ (X.fn y = true ∨ X.env.scope.names.lookup y = some .local) := by
  rw [x.hN]
  cases e : sc.names.lookup y with
  | none => rw [e] at h; cases h
  | some kd =>
    rw [e] at h
    cases kd <;> first | (cases h; done) | skip
    · refine ⟨idx_get h, ?_⟩
      rcases x.scf y _ e with q | ⟨q, _⟩
      · exact ⟨.inl q, .inr q⟩
      · cases q
    · refine ⟨idx_get h, ?_⟩
      rcases x.scf y _ e with q | ⟨q, _⟩
      · exact ⟨.inr q, .inl (x.fnc y e)⟩
      · cases q
theorem pg_v (x : XC rc c k X sc N) {y : Str} {i : Nat} {pos : Pos} (h : (match sc.names.lookup y with | some .local => N.idxOf? y | some .cell => N.idxOf? y | _ => none) = some i) : PG X (.Name y pos) (tBd c (.v i)) := by
  obtain ⟨h1, h2, h3⟩ := x.loc h
  refine PG.imp (pg_name (by rw [x.hN]; exact x.nd) h1 h2 h3) fun v σ H Q q => ?_
  obtain ⟨ρ, S, W, L, d, ρ', ok, r, e, q⟩ := q
  simp only [bindT, Option.ite_none_right_eq_some, Option.some.injEq] at e
  obtain ⟨hi, rfl⟩ := e
  obtain ⟨L', ok'⟩ := ok.put (a := .val d) r hi
  exact q _ L' ok' Same.set
theorem pgs_nilM : PGs X [] (tBds c []) := PGs.imp pgs_nil fun vs σ H Q q => by
  obtain ⟨ρ, S, W, L, ds, ρ', ok, r, e, q⟩ := q
  cases r with
  | nil =>
    simp only [bindTs, Option.some.injEq] at e
    subst e
    exact ⟨rfl, q σ L ok Same.rfl'⟩
  | cons _ _ => simp [bindTs] at e
theorem pgs_consM {e : Expr} {es : List Expr} {b : B} {bs : List B} (h1 : PG X e (tBd c b)) (h2 : PGs X es (tBds c bs)) (hs : (assignEach (e :: es) X.env).map (·.2) = assign e X.env :: (assignEach es X.env).map (·.2)) : PGs X (e :: es) (tBds c (b :: bs)) :=
  PGs.imp (pgs_cons h1 h2 hs) fun vs σ H Q q => by
    obtain ⟨ρ, S, W, L, ds, ρ', ok, r, e, q⟩ := q
    cases r with
    | nil => simp [bindTs] at e
    | @cons d v ds vs hd r =>
      simp only [bindTs, Option.bind_eq_some_iff] at e
      obtain ⟨ρ1, e1, e2⟩ := e
      refine ⟨v, vs, rfl, ρ, S, W, L, d, ρ1, ok, hd, e1, fun σ1 L1 ok1 s1 => ?_⟩
      exact ⟨ρ1, S, W, L1, ds, ρ', ok1, r, e2, fun σ2 L2 ok2 s2 => q σ2 L2 ok2 ((s1.mono fun i hi => List.mem_append_left _ hi).trans (s2.mono fun i hi => List.mem_append_right _ hi))⟩
theorem pg_tupM (x : XC rc c k X sc N) {es : List Expr} {bs : List B} {kk : Nat} {pos : Pos} (h : PGs X es (tBds c bs)) (hn : (assignEach es X.env).length = bs.length) (hst : (assignEach es X.env).findIdx? (·.1) = none) : PG X (.Tuple es kk pos) (tBd c (.tup bs)) :=
  PG.imp (pg_tup x.calm h hn hst) fun v σ H Q q => by
    obtain ⟨ρ, S, W, L, d, ρ', ok, r, e, q⟩ := q
    cases r with
    | tup h r =>
      simp only [bindT] at e
      refine ⟨_, _, rfl, by rw [x.hK]; exact h.ext ok.s.sub, ?_, ρ, S, W, L, _, ρ', ok, r, e, q⟩
      rw [← r.length]
      have len : ∀ (bs : List B) (l : List D) (ρ ρ' : Rho), bindTs bs l ρ = some ρ' → l.length = bs.length := by
        intro bs
        induction bs with
        | nil => intro l ρ ρ' h; cases l with | nil => rfl | cons _ _ => simp [bindTs] at h
        | cons b bs ih =>
          intro l ρ ρ' h
          cases l with
          | nil => simp [bindTs] at h
          | cons d l =>
            simp only [bindTs, Option.bind_eq_some_iff] at h
            obtain ⟨ρ1, _, h2⟩ := h
            simp [ih l ρ1 ρ' h2]
      exact len _ _ _ _ e
    | _ => simp [bindT] at e
end
end Mn

set_option maxRecDepth 100000
set_option maxHeartbeats 2000000
/-! comprehensions -/
namespace Mn
open PySem PySem.Spec PyProof.Rows L2
def compF (X : Ev) (elt : E) (t : B) (cond : Option E) (own : List Nat) (ρ : Rho) : D → Sto → R (Option D) := fun d S => match bindT t d (wipeR ρ own) with
  | none => .st
  | some ρ1 => (match cond with
      | none => (evalE X elt ρ1 S).nox.bind fun y S2 => (match y with | .val e => .ok (some e) S2 | _ => .st)
      | some c => (evalE X c ρ1 S).nox.bind fun b S2 => (match b with
          | .val (.bl true) => (evalE X elt ρ1 S2).nox.bind fun y S3 => (match y with | .val e => .ok (some e) S3 | _ => .st)
          | .val (.bl false) => .ok none S2
          | _ => .st))
def fin (acc : List D) (r : R (List D)) : R A := r.bind fun r S2 => if lenOk (acc ++ r).length then .ok (.val (.lst (acc ++ r))) S2 else .st
theorem evalE_comp (X : Ev) (elt : E) (t : B) (it : E) (cond : Option E) (own : List Nat) (ρ : Rho) (S : Sto) : evalE X (.comp elt t it cond own) ρ S = (evalE X it ρ S).bind fun x S1 => (match x with
      | .val (.lst l) => fin [] (compL (compF X elt t cond own ρ) l S1)
      | _ => .st) := by
  simp only [evalE]
  rfl
theorem nox_noex {α β : Type} {r : R α} {f : α → Sto → R β} {c : Nat} {d : D} {S : Sto} (hf : ∀ a S', f a S' ≠ .ex c d S) : r.nox.bind f ≠ .ex c d S := by
  cases r with
  | ok a S' => exact hf a S'
  | ex _ _ _ => intro z; cases z
  | st => intro z; cases z
theorem compF_noex {X : Ev} {elt : E} {t : B} {cond : Option E} {own : List Nat} {ρ : Rho} {d : D} {S : Sto} {c : Nat} {e : D} {S' : Sto} : compF X elt t cond own ρ d S ≠ .ex c e S' := by
  unfold compF
  split
  · intro z; cases z
  · split
    · refine nox_noex fun a S2 => ?_
      split <;> (intro z; cases z)
    · refine nox_noex fun a S2 => ?_
      split
      · refine nox_noex fun a S3 => ?_
        split <;> (intro z; cases z)
      · intro z; cases z
      · intro z; cases z
theorem compL_noex {X : Ev} {elt : E} {t : B} {cond : Option E} {own : List Nat} {ρ : Rho} {c : Nat} {e : D} {S' : Sto} : ∀ {l : List D} {S : Sto}, compL (compF X elt t cond own ρ) l S ≠ .ex c e S'
  | [], S => by simp [compL]
  | d :: l, S => by
    simp only [compL]
    cases h : compF X elt t cond own ρ d S with
    | ok o S1 =>
      simp only [R.bind]
      cases h2 : compL (compF X elt t cond own ρ) l S1 with
      | ok r S2 => intro z; cases z
      | ex c' d' S2 =>
        intro z
        simp only [R.bind, R.ex.injEq] at z
        obtain ⟨rfl, rfl, rfl⟩ := z
        exact compL_noex h2
      | st => intro z; cases z
    | ex c' d' S2 => exact absurd h compF_noex
    | st => intro z; cases z
/-- a turn -/
theorem fin_step {X : Ev} {elt : E} {t : B} {cond : Option E} {own : List Nat} {ρ : Rho} {acc : List D} {d : D} {l : List D} {S : Sto} : fin acc (compL (compF X elt t cond own ρ) (d :: l) S) =
    (compF X elt t cond own ρ d S).bind fun o S1 => fin (match o with | some e => acc ++ [e] | none => acc) (compL (compF X elt t cond own ρ) l S1) := by
  unfold fin
  simp only [compL]
  cases compF X elt t cond own ρ d S with
  | ok o S1 =>
    simp only [R.bind]
    cases compL (compF X elt t cond own ρ) l S1 with
    | ok r S2 => cases o <;> simp [R.bind]
    | ex _ _ _ => rfl
    | st => rfl
  | ex _ _ _ => rfl
  | st => rfl
section
variable {rc : RC} {c : Cc} {k : Nat} {X : L2.Cx} {sc : Scope} {N : List Str}
/-- no exception is wished -/
abbrev Cc.calm (c : Cc) : Cc := ⟨c.G, c.X, fun _ _ _ _ => False⟩
/-- the room of an accumulated list -/
theorem fin_room {X : Ev} {elt : E} {t : B} {cond : Option E} {own : List Nat} {ρ : Rho} {acc : List D} {l : List D} {S : Sto} {G : Gx} {wx : WX} {σ : L2.St} {W : Wd} {H : Hp} {Q : VK} (g : Good G wx (RA G) σ W H (fin acc (compL (compF X elt t cond own ρ) l S)) Q) : acc.length ≤ sizeLine := by
  unfold fin at g
  cases h : compL (compF X elt t cond own ρ) l S with
  | ex _ _ _ => exact absurd h compL_noex
  | st => rw [h] at g; exact g.elim
  | ok r S2 =>
    rw [h] at g
    simp only [R.bind] at g
    by_cases hz : lenOk (acc ++ r).length = true
    · simp only [lenOk, decide_eq_true_eq, List.length_append] at hz
      omega
    · rw [if_neg hz] at g; exact g.elim
/-- where the new list stands -/
structure CompI (G : Gx) (c : Cc) (D : Addr) (acc : List Mn.D) (W1 : Wd) (H1 : Hp) (W : Wd) (H : Hp) (S : Sto) : Prop where
  st : StOk G W H S
  x : Xt W1 H1 W H
  at_ : ∃ vs, H D = some (.lst vs) ∧ Reps G W.F acc vs
  fr : W.F D = none
  nf : D ∉ W.fp
def tCond (c : Cc) : Option E → TT
  | none => tYes
  | some m => tTs c.calm m
theorem comp_tLc {me mi : E} {cond : Option E} {b : B} {us : List Nat} (hbv : ∀ i ∈ bvars b, i ∈ us) {σ : L2.St} {H : Hp} {Q : VK} (q : tE c (.comp me b mi cond us) σ H Q) : tLc (tIt c mi) (tBd c.calm b) (tCond c cond) (tE c.calm me) us σ H Q := by
  obtain ⟨ρ, S, W, L, ok, g⟩ := q
  rw [evalE_comp] at g
  refine ⟨ρ, S, W, L, ok, Good.bind (RL' := fun W _ a J => ∃ l, a = .val (.lst l) ∧ ItOk c.G W.F l J) g fun a S1 J H1 W1 s1 x1 r1 g1 => ?_⟩
  obtain ⟨l, rfl, jt⟩ := r1
  intro D hD
  have ok1 := ok.ext s1 x1
  have hF : W1.F D = none := s1.dead hD
  have hfp : D ∉ W1.fp := fun z => by
    obtain ⟨o, e⟩ := s1.st.live D z
    rw [hD] at e; cases e
  refine ⟨fun i m H => m = l.length - i ∧ i ≤ l.length ∧ ∃ S W acc, CompI c.G c D acc W1 H1 W H S ∧ Good c.G c.wx (RA c.G) σ W1 H1 (fin acc (compL (compF c.X me b cond us ρ) (l.drop i) S)) Q, ⟨_, rfl, Nat.zero_le _, S1, W1, [], ⟨s1.other hF hfp, Xt.refl.other hD, ⟨[], upd_same, .nil⟩, hF, hfp⟩, g1⟩, ?_⟩
  rintro i m H2 ⟨rfl, hi, S2, W2, acc, ci, g2⟩
  obtain ⟨vs, hd2, ra2⟩ := ci.at_
  by_cases hlt : i < l.length
  · refine .inr ?_
    rw [List.drop_eq_getElem_cons hlt, fin_step] at g2
    obtain ⟨_, jg⟩ := jt i W2 H2 S2 ci.x.f ci.st
    obtain ⟨go, jy⟩ := jg l[i] (List.getElem?_eq_getElem hlt)
    refine ⟨go, fun H' => ∃ S W acc, CompI c.G c D acc W1 H1 W H' S ∧ Good c.G c.wx (RA c.G) σ W1 H1 (fin acc (compL (compF c.X me b cond us ρ) (l.drop (i + 1)) S)) Q, fun H' z => ⟨l.length - (i + 1), by omega, rfl, hlt, z⟩, fun y H3 yy => ?_⟩
    obtain ⟨W3, s3, x3, r3⟩ := jy y H3 yy
    obtain ⟨hd3, f3, n3⟩ := x3.apart hd2 ci.fr ci.nf
    have ok3 := ok1.ext s3 (ci.x.trans x3)
    obtain ⟨Lw, okw⟩ := ok3.wipe us
    unfold compF at g2
    cases eb : bindT b l[i] (wipeR ρ us) with
    | none => rw [eb] at g2; exact g2.elim
    | some ρ1 =>
      rw [eb] at g2
      refine ⟨wipeR ρ us, S2, W3, Lw, l[i], ρ1, okw, r3, eb, fun σ' L' ok' sm => ⟨(sm.mono hbv).wipe, ?_⟩⟩
      -- an item comes
      have app : ∀ (S0 : Sto) (W0 : Wd) (H0 : Hp) (L0 : List Addr), Ok c.G W0 H0 ρ1 σ' S0 L0 → Xt W3 H3 W0 H0 → Good c.G c.wx (RA c.G) σ W1 H1 (((evalE c.X me ρ1 S0).nox.bind fun y S2 => (match y with | .val e => R.ok (some e) S2 | _ => .st)).bind fun o S1 => fin (match o with | some e => acc ++ [e] | none => acc) (compL (compF c.X me b cond us ρ) (l.drop (i + 1)) S1)) Q →
          tE c.calm me σ' H0 fun v H4 => ∃ acc', H4 D = some (.lst acc') ∧ acc'.length < sizeLine ∧ ∃ S W accd, CompI c.G c D accd W1 H1 W (upd H4 D (.lst (acc' ++ [v]))) S ∧ Good c.G c.wx (RA c.G) σ W1 H1 (fin accd (compL (compF c.X me b cond us ρ) (l.drop (i + 1)) S)) Q := fun S0 W0 H0 L0 ok0 x0 g0 => by
        refine ⟨ρ1, S0, W0, L0, ok0, ?_⟩
        show Good c.G _ (RA c.G) σ' W0 H0 (evalE c.X me ρ1 S0) _
        cases ev : evalE c.X me ρ1 S0 with
        | ex _ _ _ => rw [ev] at g0; exact g0.elim
        | st => rw [ev] at g0; exact g0.elim
        | ok a S4 =>
          rw [ev] at g0
          cases a with
          | val e =>
            intro v H4 W4 s4 x4 r4
            have x4' := x0.trans x4
            obtain ⟨hd4, f4, n4⟩ := x4'.apart hd3 f3 n3
            have g4 : Good c.G c.wx (RA c.G) σ W1 H1 (fin (acc ++ [e]) (compL (compF c.X me b cond us ρ) (l.drop (i + 1)) S4)) Q := g0
            have hroom := fin_room g4
            have hlen := ra2.length
            rw [List.length_append, List.length_singleton] at hroom
            refine ⟨vs, hd4, by omega, S4, W4, acc ++ [e], ⟨s4.other f4 n4, ((ci.x.trans x3).trans x4').other hD, ⟨_, upd_same, ?_⟩, f4, n4⟩, g4⟩
            exact (ra2.mono (x3.f.trans x4'.f)).append (.cons r4 .nil)
          | _ => exact g0.elim
      cases cond with
      | none =>
        have z := app S2 W3 H3 L' ok' Xt.refl g2
        rw [show tCond c none = tYes from rfl]
        unfold tYes
        dsimp only
        rw [if_pos rfl]
        exact z
      | some mc =>
        show tTs c.calm mc σ' H3 _
        refine ⟨ρ1, S2, W3, L', ok', ?_⟩
        show Good c.G _ RB σ' W3 H3 (testR (evalE c.X mc ρ1 S2)) _
        simp only at g2
        cases ev : evalE c.X mc ρ1 S2 with
        | ex _ _ _ => rw [ev] at g2; exact g2.elim
        | st => rw [ev] at g2; exact g2.elim
        | ok a S4 =>
          rw [ev] at g2
          cases a with
          | val e =>
            cases e with
            | bl t =>
              intro t' H4 W4 s4 x4 e4
              subst e4
              cases t' with
              | true =>
                rw [if_pos rfl]
                exact app S4 W4 H4 L' (ok'.ext s4 x4) x4 g2
              | false =>
                rw [if_neg (by simp)]
                obtain ⟨hd4, f4, n4⟩ := x4.apart hd3 f3 n3
                exact ⟨S4, W4, acc, ⟨s4, (ci.x.trans x3).trans x4, ⟨vs, hd4, ra2.mono (x3.f.trans x4.f)⟩, f4, n4⟩, g2⟩
            | _ => exact g2.elim
          | _ => exact g2.elim
  · refine .inl ?_
    obtain ⟨js, _⟩ := jt i W2 H2 S2 ci.x.f ci.st
    refine ⟨js (by omega), ?_⟩
    rw [List.drop_of_length_le (by omega)] at g2
    have g3 : Good c.G c.wx (RA c.G) σ W1 H1 (if lenOk (acc ++ []).length then R.ok (.val (.lst (acc ++ []))) S2 else .st) Q := g2
    rw [List.append_nil] at g3
    by_cases hz : lenOk acc.length = true
    · rw [if_pos hz] at g3
      obtain ⟨st', x'⟩ := ci.st.keepF ci.x hD hd2 ci.fr ci.nf
      exact g3 (.ref D) H2 _ st' x' (.lst (.inl upd_same) (ra2.mono (Ext.upd ci.fr)))
    · rw [if_neg hz] at g3; exact g3.elim

theorem snd_comp (x : XC rc c k X sc N) {elt tg iter : Expr} {ifs : List Expr} {scope : Scope} {own : List (Str × Nat)} {pos : Pos} {mi me : E} {cond : Option E} {b : B} (hi : PI X tg iter (tIt c mi)) (ok : BlkOk X.N X.env.scope scope own) (hbv : ∀ i ∈ bvars b, i ∈ own.map (·.2))
    (hg : ∀ (s : Shared) (H : Hp) (C : Addr) (cl : List (Str × Addr)) (fp : List Addr), PG (X.blk s H scope (compEnvC scope cl C X.env) fp) tg (tBd c.calm b))
    (ht : ∀ (s : Shared) (H : Hp) (C : Addr) (cl : List (Str × Addr)) (fp : List Addr), PTs (X.blk s H scope (compEnvC scope cl C X.env) fp) ifs (tCond c cond))
    (he : ∀ (s : Shared) (H : Hp) (C : Addr) (cl : List (Str × Addr)) (fp : List Addr), PE (X.blk s H scope (compEnvC scope cl C X.env) fp) elt (tE c.calm me)) (hs : ∀ x, foldedSetIterable iter X.env x = pure x) :
    PE X (.ListComp elt [⟨tg, iter, ifs, 0⟩] scope pos) (tE c (.comp me b mi cond (own.map (·.2)))) :=
  PE.imp (pe_lc x.calm (by rw [x.hN]; exact x.nd) hi ok hg ht he hs) fun σ H Q q => comp_tLc hbv q
end
end Mn

set_option maxRecDepth 100000
set_option maxHeartbeats 2000000
/-! every expression that is compiled is sound -/
namespace Mn
open PySem PySem.Spec PyProof.Rows L2
/-- an expression of a plain shape -/
structure Shp (e : Expr) : Prop where
  pl : Pl e
  base : ∀ attr env (w : Sem Value), attributeBase e attr env w = w
  ix : PlainIx e
  mks : ∀ op, behindInMarks op e = false
  fold : ∀ env x, foldedSetIterable e env x = pure x
theorem abase_not {id attr : Str} {p pos : Pos} {env : Env} {whole : Sem Value} (h : (id == ("super" : Str)) = false) : attributeBase (.Call (.Name id p) [] [] pos) attr env whole = whole := by
  have h' : (id != ("super" : Str)) = true := by rw [bne, h]; rfl
  unfold attributeBase
  first
    | (simp only [h', Bool.true_or, if_true, bind_pure]; done)
    | (rw [h']; simp only [Bool.true_or, if_true, bind_pure]; done)
    | (simp [h']; done)
theorem shp_call {f : Str} {p pos : Pos} {es : List Expr} {kw : List Keyword} (h : (f == ("super" : Str)) = false) : Shp (.Call (.Name f p) es kw pos) := by
  refine ⟨fun _ _ => rfl, fun attr env w => ?_, fun _ _ => rfl, fun _ => rfl, fun _ _ => rfl⟩
  cases es with
  | nil =>
    cases kw with
    | nil => exact abase_not h
    | cons _ _ => rfl
  | cons _ _ => rfl
theorem shp_of {G : RC} {N : List Str} {rec : Rec} {sc : Scope} {e : Expr} {m : E} (h : cStep G N rec sc e = some m) : Shp e := by
  cases e with
  | Call f as kw pos =>
    cases f with
    | Name f p =>
      cases kw with
      | nil =>
        refine shp_call ?_
        simp only [cStep] at h
        by_cases hs : (f == ("super" : Str)) = true
        · rw [if_pos hs] at h; cases h
        · simpa using hs
      | cons _ _ => simp [cStep] at h
    | _ => exact ⟨fun _ _ => rfl, fun _ _ _ => rfl, fun _ _ => rfl, fun _ => rfl, fun _ _ => rfl⟩
  | Starred _ _ => simp [cStep] at h
  | Set _ _ _ => simp [cStep] at h
  | Slice _ _ _ _ => simp [cStep] at h
  | _ => exact ⟨fun _ _ => rfl, fun _ _ _ => rfl, fun _ _ => rfl, fun _ => rfl, fun _ _ => rfl⟩
/-- what is known of the parts -/
structure IH (rc : RC) (k : Nat) (N : List Str) (rec : Rec) : Prop where
  snd : ∀ {c : Cc} {X : L2.Cx} {sc : Scope}, XC rc c k X sc N → ∀ {e : Expr} {m : E}, rec sc e = some m → Snd c X e m
  shp : ∀ {sc : Scope} {e : Expr} {m : E}, rec sc e = some m → Shp e
section
variable {rc : RC} {c : Cc} {k : Nat} {X : L2.Cx} {sc : Scope} {N : List Str} {rec : Rec}
theorem XC.slot (x : XC rc c k X sc N) {y : Str} {i : Nat} (h : slot? N sc y = some i) : X.N[i]? = some y ∧ Vis X.env.scope y ∧ (y == ("__debug__" : Str)) = false ∧ (y == ("__classdict__" : Str)) = false := by
  unfold slot? at h
  have hv : ∃ kd, sc.names.lookup y = some kd ∧ (kd = .local ∨ kd = .cell ∨ kd = .free) ∧ N.idxOf? y = some i := by
    cases e : sc.names.lookup y with
    | none => rw [e] at h; cases h
    | some kd =>
      rw [e] at h
      cases kd <;> first | (cases h; done) | exact ⟨_, rfl, by simp, h⟩
  obtain ⟨kd, e, hk, hi⟩ := hv
  have hg := idx_get hi
  have hd := x.dbg y (List.mem_of_getElem? hg)
  refine ⟨by rw [x.hN]; exact hg, ?_, hd.1, hd.2⟩
  rcases x.scf y kd e with q | ⟨_, q⟩
  · rcases hk with rfl | rfl | rfl
    · exact .inl q
    · exact .inr (.inl q)
    · exact .inr (.inr q)
  · exact .inr (.inl q)
theorem XC.gi (x : XC rc c k X sc N) {y : Str} (h : sc.names.lookup y = some .globalImplicit) : Gl X y := by
  rcases x.scf y _ h with q | ⟨q, _⟩
  · exact q
  · cases q
theorem XC.glob (x : XC rc c k X sc N) {y : Str} {g : Gm} (h : glob? rc sc y = some g) : Gl X y ∧ rc.gl.lookup y = some g := by
  unfold glob? at h
  cases e : sc.names.lookup y with
  | none => rw [e] at h; cases h
  | some kd =>
    rw [e] at h
    cases kd <;> first | (cases h; done) | exact ⟨x.gi e, h⟩
theorem XC.bltn (x : XC rc c k X sc N) {y : Str} (h : blt? rc sc y = true) : Gl X y ∧ X.mg y = none := by
  unfold blt? at h
  cases e : sc.names.lookup y with
  | none => rw [e] at h; cases h
  | some kd =>
    rw [e] at h
    cases kd <;> first | (cases h; done) | exact ⟨x.gi e, x.row.bl y (by simpa using h)⟩
/-! names, constants -/
theorem st_name (x : XC rc c k X sc N) {y : Str} {pos : Pos} {m : E} (h : cName rc N sc y = some m) : Snd c X (.Name y pos) m := by
  refine Snd.plain ?_ fun _ => rfl
  unfold cName at h
  cases e : slot? N sc y with
  | some i =>
    rw [e] at h
    cases h
    obtain ⟨h1, h2, h3, h4⟩ := x.slot e
    exact snd_var h1 h2 h3 h4
  | none =>
    rw [e] at h
    simp only at h
    cases eg : glob? rc sc y with
    | none => rw [eg] at h; cases h
    | some g =>
      rw [eg] at h
      obtain ⟨g1, g2⟩ := x.glob eg
      have gl := x.row.gl y g g2
      cases g with
      | fn f =>
        cases h
        obtain ⟨a, h1, h2⟩ := gl
        exact snd_k (v := .ref a) (pe_glob g1 h2 rfl (x.gdbg _ _ g2)) fun F => .fn h1
      | cls n =>
        cases h
        obtain ⟨C, h1, h2⟩ := gl
        exact snd_k (v := .ref C) (pe_glob g1 h2 rfl (x.gdbg _ _ g2)) fun F => .cls h1
      | con d =>
        cases h
        obtain ⟨u, v, h1, h2, h3⟩ := gl
        exact snd_k (pe_glob g1 h1 h2 (x.gdbg _ _ g2)) h3
      | exc _ => cases h
theorem st_const {z : Const} {j : Nat} {pos : Pos} {m : E} (h : cConst z = some m) : Snd c X (.Constant z j pos) m := by
  refine Snd.plain ?_ fun _ => rfl
  cases z <;> first | (cases h; done) | skip
  · cases h; exact snd_k pe_non fun F => .non
  · cases h; exact snd_k pe_bl fun F => .bl _
  · cases h; exact snd_k pe_int fun F => .int _
  · cases h; exact snd_k pe_str fun F => .str _
/-! what is looked at -/
theorem lk_of (x : XC rc c k X sc N) (ih : IH rc k N rec) {a : Expr} : (∃ i, who rc N sc a = .s i ∧ PE X a (tL c (.s i)) ∧ PE X a (tVar i) ∧ Shp a) ∨ (∃ b f, who rc N sc a = .f b f ∧ Shp a ∧ ∀ n, rec sc b = some n → PE X a (tL c (.f n f))) ∨ who rc N sc a = .e := by
  cases a with
  | Name y pos =>
    simp only [who]
    cases e : slot? N sc y with
    | none => exact .inr (.inr rfl)
    | some i =>
      obtain ⟨h1, h2, h3, h4⟩ := x.slot e
      exact .inl ⟨i, rfl, snd_lkS h1 h2 h3 h4, pe_var h1 h2 h3 h4, ⟨fun _ _ => rfl, fun _ _ _ => rfl, fun _ _ => rfl, fun _ => rfl, fun _ _ => rfl⟩⟩
  | Attribute b y pos =>
    simp only [who]
    cases e : rc.ats.lookup y with
    | none => exact .inr (.inr rfl)
    | some f => exact .inr (.inl ⟨b, f, rfl, ⟨fun _ _ => rfl, fun _ _ _ => rfl, fun _ _ => rfl, fun _ => rfl, fun _ _ => rfl⟩, fun n hn => snd_lkF x.row x.hK x.hΓ (ih.snd x hn).pe e ((ih.shp hn).base _ _ _)⟩)
  | _ => exact .inr (.inr rfl)
theorem c1_of (x : XC rc c k X sc N) (ih : IH rc k N rec) {o : P1} {a : Expr} {m : E} (h : c1 rc N rec sc o a = some m) : ∃ l, m = mk1 o l ∧ PE X a (tL c l) ∧ Shp a := by
  unfold c1 at h
  rcases lk_of x ih (a := a) with ⟨i, e, h1, _, h2⟩ | ⟨b, f, e, h1, h2⟩ | e
  · rw [e] at h; cases h
    exact ⟨.s i, rfl, h1, h2⟩
  · rw [e] at h
    simp only [Option.map_eq_some_iff] at h
    obtain ⟨n, hn, rfl⟩ := h
    exact ⟨.f n f, rfl, h2 n hn, h1⟩
  · rw [e] at h
    simp only [Option.map_eq_some_iff] at h
    obtain ⟨n, hn, rfl⟩ := h
    exact ⟨.e n, rfl, snd_lkE (ih.snd x hn).pe, ih.shp hn⟩
theorem es_of (x : XC rc c k X sc N) (ih : IH rc k N rec) : ∀ {es : List Expr} {ms : List E}, cEs rec sc es = some ms → PA X es (tEs c ms) ∧ Pls es ∧ ms.length = es.length
  | [], ms, h => by cases h; exact ⟨snd_nil, (fun e he => by cases he), rfl⟩
  | e :: es, ms, h => by
    simp only [cEs, Option.bind_eq_some_iff, Option.map_eq_some_iff] at h
    obtain ⟨m, h1, ms', h2, rfl⟩ := h
    obtain ⟨p1, p2, p3⟩ := es_of x ih h2
    have sh := ih.shp h1
    refine ⟨snd_cons (ih.snd x h1).pe p1 (sh.pl _ _), fun z hz => ?_, by simp [p3]⟩
    rcases List.mem_cons.mp hz with rfl | hz
    · exact sh.pl
    · exact p2 z hz
theorem nil_of {es : List Expr} {ms : List E} (h : ms.length = es.length) (he : es = []) : ms = [] := by
  subst he; exact List.length_eq_zero_iff.mp h
/-! operators -/
theorem st_bin (x : XC rc c k X sc N) (ih : IH rc k N rec) {a b : Expr} {op : Operator} {pos : Pos} {m : E} (h : cBin rec sc a op b = some m) : Snd c X (.BinOp a op b pos) m := by
  refine Snd.plain ?_ fun _ => rfl
  have two : ∀ {f : E → E → E}, ((rec sc a).bind fun x => (rec sc b).map fun y => f x y) = some m → ∃ p q, rec sc a = some p ∧ rec sc b = some q ∧ m = f p q := fun h => by
    simp only [Option.bind_eq_some_iff, Option.map_eq_some_iff] at h
    obtain ⟨p, h1, q, h2, rfl⟩ := h
    exact ⟨p, q, h1, h2, rfl⟩
  cases op <;> first | (cases h; done) | skip
  · obtain ⟨p, q, h1, h2, rfl⟩ := two h
    exact snd_bin (o := .add) x (ih.snd x h1).pe (ih.snd x h2).pe
  · obtain ⟨p, q, h1, h2, rfl⟩ := two h
    exact snd_bin (o := .sub) x (ih.snd x h1).pe (ih.snd x h2).pe
  · obtain ⟨p, q, h1, h2, rfl⟩ := two h
    exact snd_bin (o := .mul) x (ih.snd x h1).pe (ih.snd x h2).pe
  · obtain ⟨p, q, h1, h2, rfl⟩ := two h
    exact PE.imp (pe_op or_mod (ih.snd x h1).pe (ih.snd x h2).pe) fun σ H Q q => snd_p2 x.hΓ q
  · obtain ⟨p, q, h1, h2, rfl⟩ := two h
    exact PE.imp (pe_op or_fdiv (ih.snd x h1).pe (ih.snd x h2).pe) fun σ H Q q => snd_p2 x.hΓ q
theorem st_bool (x : XC rc c k X sc N) (ih : IH rc k N rec) {op : BoolOp} {pos : Pos} : ∀ {es : List Expr} {m : E}, cBool rec sc op es = some m → Snd c X (.BoolOp op es pos) m ∧ PW X (.BoolOp op es pos) (tTs c m)
  | [], m, h => by cases h
  | [e], m, h => snd_one (ih.snd x h)
  | e :: b :: es, m, h => by
    simp only [cBool, Option.bind_eq_some_iff, Option.map_eq_some_iff] at h
    obtain ⟨p, h1, q, h2, rfl⟩ := h
    obtain ⟨s, w⟩ := st_bool x ih (op := op) (pos := pos) (show cBool rec sc op (b :: es) = some q from h2)
    cases op with
    | And => exact snd_and (ih.snd x h1) s w
    | Or => exact snd_or (ih.snd x h1) s w
theorem tk_c1 {l : LK} {o : P1} (hΓ : c.X.Γ = c.G.Γ) {σ : L2.St} {H : Hp} {Q : VK} (q : tE c (mk1 o l) σ H Q) : tL c l σ H fun v H1 => r1 c.G o [v] H1 Q := by
  obtain ⟨ρ, S, W, L, ok, g⟩ := q
  rw [eval_mk1] at g
  refine ⟨ρ, S, W, L, ok, g.bind fun h S1 v H1 W1 s1 x1 r1 g1 => ?_⟩
  rw [hΓ] at g1
  cases e1 : look1 c.G.Γ o h with
  | none => rw [e1] at g1; exact g1.elim
  | some d =>
    rw [e1] at g1
    exact ⟨v, h, W1, S1, d, rfl, s1, r1, e1, fun v' H' W' s x r => g1 v' H' W' s x r⟩
theorem isN_r1 {G : Gx} {v : V} {H : Hp} {Q : VK} (z : r1 G .isN [v] H Q) : Q (.bl (decide (v = .non))) H := by
  obtain ⟨v', h, W, S, d, e0, s, r, e, a⟩ := z
  cases e0
  cases r with
  | val r => cases r <;> (simp only [look1, prim1, Option.some.injEq] at e; subst e; exact a.now s (.bl _))
  | ref r => simp only [look1, Option.some.injEq] at e; subst e; exact a.now s (.bl _)
  | own r1 r2 => simp only [look1, prim1, Option.some.injEq] at e; subst e; exact a.now s (.bl _)
theorem notN_r1 {G : Gx} {v : V} {H : Hp} {Q : VK} (z : r1 G .notN [v] H Q) : Q (.bl (!decide (v = .non))) H := by
  obtain ⟨v', h, W, S, d, e0, s, r, e, a⟩ := z
  cases e0
  cases r with
  | val r => cases r <;> (simp only [look1, prim1, Option.some.injEq] at e; subst e; exact a.now s (.bl _))
  | ref r => simp only [look1, Option.some.injEq] at e; subst e; exact a.now s (.bl _)
  | own r1 r2 => simp only [look1, prim1, Option.some.injEq] at e; subst e; exact a.now s (.bl _)
theorem st_cmp (x : XC rc c k X sc N) (ih : IH rc k N rec) {a b : Expr} {op : CmpOp} {pos : Pos} {m : E} (h : cCmp rc N rec sc a op b = some m) : Snd c X (.Compare a [op] [b] pos) m := by
  have two : ∀ {f : E → E → E}, ((rec sc a).bind fun x => (rec sc b).map fun y => f x y) = some m → ∃ p q, rec sc a = some p ∧ rec sc b = some q ∧ m = f p q := fun h => by
    simp only [Option.bind_eq_some_iff, Option.map_eq_some_iff] at h
    obtain ⟨p, h1, q, h2, rfl⟩ := h
    exact ⟨p, q, h1, h2, rfl⟩
  have inn : ∀ {op : CmpOp} {o : P2}, OpR X (compareOp op) (r2hr c.G c.X.k o) → c2r rc N rec sc o a b = some m → Snd c X (.Compare a [op] [b] pos) m := fun {op o} ho h => by
    unfold c2r at h
    simp only [Option.bind_eq_some_iff] at h
    obtain ⟨p, h1, h⟩ := h
    rcases lk_of x ih (a := b) with ⟨i, e, _, h2, sh⟩ | ⟨d, f, e, sh, h2⟩ | e
    · rw [e] at h; cases h
      exact Snd.cmp (PC.imp (PC.of ho (ih.snd x h1).pe h2) fun σ H Q q => tk_b2r x.hΓ q) (sh.mks _)
    · rw [e] at h
      simp only [Option.map_eq_some_iff] at h
      obtain ⟨n, hn, rfl⟩ := h
      exact Snd.cmp (PC.imp (PC.of ho (ih.snd x h1).pe (h2 n hn)) fun σ H Q q => tk_f2r x.hΓ q) (sh.mks _)
    · rw [e] at h
      simp only [Option.map_eq_some_iff] at h
      obtain ⟨n, hn, rfl⟩ := h
      exact Snd.cmp (PC.imp (PC.of ho (ih.snd x h1).pe (ih.snd x hn).pe) fun σ H Q q => tk_e2r x.hΓ q) ((ih.shp hn).mks _)
  cases op with
  | Eq => obtain ⟨p, q, h1, h2, rfl⟩ := two h; exact snd_eq x x.kB (ih.snd x h1).pe (ih.snd x h2).pe
  | NotEq => obtain ⟨p, q, h1, h2, rfl⟩ := two h; exact snd_ne x x.kB (ih.snd x h1).pe (ih.snd x h2).pe
  | Lt => obtain ⟨p, q, h1, h2, rfl⟩ := two h; exact snd_cmp2 x or_lt (by simp) (by simp) (ih.snd x h1).pe (ih.snd x h2).pe
  | LtE => obtain ⟨p, q, h1, h2, rfl⟩ := two h; exact snd_cmp2 x or_le (by simp) (by simp) (ih.snd x h1).pe (ih.snd x h2).pe
  | Gt => obtain ⟨p, q, h1, h2, rfl⟩ := two h; exact snd_cmp2 x or_gt (by simp) (by simp) (ih.snd x h1).pe (ih.snd x h2).pe
  | GtE => obtain ⟨p, q, h1, h2, rfl⟩ := two h; exact snd_cmp2 x or_ge (by simp) (by simp) (ih.snd x h1).pe (ih.snd x h2).pe
  | In => exact inn or_inn h
  | NotIn => exact inn or_notin h
  | Is =>
    cases b <;> first | (cases h; done) | skip
    rename_i z j p
    cases z <;> first | (cases h; done) | skip
    obtain ⟨l, rfl, h1, sh⟩ := c1_of x ih h
    exact Snd.cmp (PC.imp (pc_isN h1) fun σ H Q q => tL_mono (fun v H1 z => isN_r1 z) (tk_c1 x.hΓ q)) rfl
  | IsNot =>
    cases b <;> first | (cases h; done) | skip
    rename_i z j p
    cases z <;> first | (cases h; done) | skip
    obtain ⟨l, rfl, h1, sh⟩ := c1_of x ih h
    exact Snd.cmp (PC.imp (pc_notN h1) fun σ H Q q => tL_mono (fun v H1 z => notN_r1 z) (tk_c1 x.hΓ q)) rfl
theorem ord_ok {op : CmpOp} {o : P2} {G : Gx} (h : ord2 op = some o) : OpR X (compareOp op) (r2 G k o) ∧ op ≠ .In ∧ op ≠ .NotIn := by
  cases op <;> first | (cases h; done) | skip
  · cases h; exact ⟨or_lt, by simp, by simp⟩
  · cases h; exact ⟨or_le, by simp, by simp⟩
theorem st_chain (x : XC rc c k X sc N) (ih : IH rc k N rec) {a b e : Expr} {op op' : CmpOp} {pos : Pos} {m : E} (h : cChain rec sc a op op' b e = some m) : Snd c X (.Compare a [op, op'] [b, e] pos) m := by
  simp only [cChain, Option.bind_eq_some_iff, Option.map_eq_some_iff] at h
  obtain ⟨o, h1, o', h2, p, h3, q, h4, r, h5, rfl⟩ := h
  obtain ⟨a1, _, _⟩ := ord_ok (X := X) (G := c.G) (k := c.X.k) h1
  obtain ⟨b1, b2, b3⟩ := ord_ok (X := X) (G := c.G) (k := c.X.k) h2
  exact snd_chain x a1 b1 b2 b3 (ih.snd x h3).pe (ih.snd x h4).pe (ih.snd x h5).pe
/-! subscripts -/
theorem part_of (x : XC rc c k X sc N) (ih : IH rc k N rec) {e : Option Expr} {o : Option E} (h : cPart rec sc e = some o) : PO X e (tPo c o) := by
  cases e with
  | none => cases h; exact po_M (e := none) (o := none) trivial
  | some e =>
    simp only [cPart, Option.map_eq_some_iff] at h
    obtain ⟨m, h1, rfl⟩ := h
    exact po_M (e := some e) (o := some m) (ih.snd x h1).pe
theorem st_idx (x : XC rc c k X sc N) (ih : IH rc k N rec) {a i : Expr} {pos : Pos} {m : E} (h : c2 rc N rec sc .idx a i = some m) : PE X (.Subscript a i pos) (tE c m) := by
  unfold c2 at h
  simp only [Option.bind_eq_some_iff] at h
  obtain ⟨p, h1, h⟩ := h
  have hix := (ih.shp h1).ix
  rcases lk_of x ih (a := a) with ⟨j, e, _, h2, sh⟩ | ⟨d, f, e, sh, h2⟩ | e
  · rw [e] at h; cases h
    exact PE.imp (pe_ix (ix_all x.hK) h2 (ih.snd x h1).pe hix) fun σ H Q q => tk_b2 x.hΓ q
  · rw [e] at h
    simp only [Option.map_eq_some_iff] at h
    obtain ⟨n, hn, rfl⟩ := h
    exact PE.imp (pe_ix (ix_all x.hK) (h2 n hn) (ih.snd x h1).pe hix) fun σ H Q q => tk_f2 x.hΓ q
  · rw [e] at h
    simp only [Option.map_eq_some_iff] at h
    obtain ⟨n, hn, rfl⟩ := h
    exact PE.imp (pe_ix (ix_all x.hK) (ih.snd x hn).pe (ih.snd x h1).pe hix) fun σ H Q q => tk_e2 x.hΓ q
theorem st_sub (x : XC rc c k X sc N) (ih : IH rc k N rec) {a i : Expr} {pos : Pos} {m : E} (h : cSub rc N rec sc a i = some m) : Snd c X (.Subscript a i pos) m := by
  refine Snd.plain ?_ fun _ => rfl
  cases i with
  | Slice lo hi st p =>
    cases st with
    | some _ => simp [cSub] at h
    | none =>
      simp only [cSub, Option.bind_eq_some_iff, Option.map_eq_some_iff] at h
      obtain ⟨p, h1, l, h2, u, h3, rfl⟩ := h
      exact snd_sl x (ih.snd x h1).pe (part_of x ih h2) (part_of x ih h3)
  | Starred _ _ => simp [cSub] at h
  | _ => exact st_idx x ih h
/-! built-ins -/
theorem fun1_ok (x : XC rc c k X sc N) {f : Str} {o : P1} {a : Expr} {p pos : Pos} (hf : fun1 f = some o) (hb : blt? rc sc f = true) (ha : Pl a) : ∀ t : TE, PE X a t → PE X (.Call (.Name f p) [a] [] pos) (fun σ H Q => t σ H fun v H1 => r1 c.G o [v] H1 Q) := by
  intro t h
  obtain ⟨hg, hm⟩ := x.bltn hb
  unfold fun1 at hf
  by_cases e : (f == ("len" : Str)) = true
  · rw [if_pos e] at hf; cases hf; obtain rfl := eq_of_beq e
    exact hop_B (cr_len x.hK) hg hm (by kernel_rfl) (by decide +kernel) (by decide +kernel) (ha _ _) t h
  rw [if_neg e] at hf
  by_cases e : (f == ("abs" : Str)) = true
  · rw [if_pos e] at hf; cases hf; obtain rfl := eq_of_beq e
    exact hop_B cr_abs hg hm (by kernel_rfl) (by decide +kernel) (by decide +kernel) (ha _ _) t h
  rw [if_neg e] at hf
  by_cases e : (f == ("int" : Str)) = true
  · rw [if_pos e] at hf; cases hf; obtain rfl := eq_of_beq e
    exact hop_T (cr_int x.dg) hg hm (by kernel_rfl) (by decide +kernel) (by decide +kernel) (ha _ _) t h
  rw [if_neg e] at hf
  by_cases e : (f == ("str" : Str)) = true
  · rw [if_pos e] at hf; cases hf; obtain rfl := eq_of_beq e
    exact hop_T (cr_str x.calm x.dg) hg hm (by kernel_rfl) (by decide +kernel) (by decide +kernel) (ha _ _) t h
  rw [if_neg e] at hf
  by_cases e : (f == ("tuple" : Str)) = true
  · rw [if_pos e] at hf; cases hf; obtain rfl := eq_of_beq e
    exact hop_T (cr_tuple x.hK) hg hm (by kernel_rfl) (by decide +kernel) (by decide +kernel) (ha _ _) t h
  rw [if_neg e] at hf
  by_cases e : (f == ("all" : Str)) = true
  · rw [if_pos e] at hf; cases hf; obtain rfl := eq_of_beq e
    exact hop_B (cr_allM x.hK x.calm) hg hm (by kernel_rfl) (by decide +kernel) (by decide +kernel) (ha _ _) t h
  rw [if_neg e] at hf
  by_cases e : (f == ("any" : Str)) = true
  · rw [if_pos e] at hf; cases hf; obtain rfl := eq_of_beq e
    exact hop_B (cr_anyM x.hK x.calm) hg hm (by kernel_rfl) (by decide +kernel) (by decide +kernel) (ha _ _) t h
  rw [if_neg e] at hf
  cases hf
theorem isCls_ok {y : Str} {o : P1} (h : isCls y = some o) : ∃ n, n < 5 ∧ y = tyNm n ∧ o = isP n := by
  unfold isCls at h
  by_cases e : (y == ("int" : Str)) = true
  · rw [if_pos e] at h; cases h; obtain rfl := eq_of_beq e; exact ⟨0, by omega, rfl, rfl⟩
  rw [if_neg e] at h
  by_cases e : (y == ("bool" : Str)) = true
  · rw [if_pos e] at h; cases h; obtain rfl := eq_of_beq e; exact ⟨1, by omega, rfl, rfl⟩
  rw [if_neg e] at h
  by_cases e : (y == ("tuple" : Str)) = true
  · rw [if_pos e] at h; cases h; obtain rfl := eq_of_beq e; exact ⟨2, by omega, rfl, rfl⟩
  rw [if_neg e] at h
  by_cases e : (y == ("list" : Str)) = true
  · rw [if_pos e] at h; cases h; obtain rfl := eq_of_beq e; exact ⟨3, by omega, rfl, rfl⟩
  rw [if_neg e] at h
  by_cases e : (y == ("str" : Str)) = true
  · rw [if_pos e] at h; cases h; obtain rfl := eq_of_beq e; exact ⟨4, by omega, rfl, rfl⟩
  rw [if_neg e] at h
  cases h
theorem st_blt (x : XC rc c k X sc N) (ih : IH rc k N rec) {f : Str} {as : List Expr} {p pos : Pos} {m : E} (hb : blt? rc sc f = true) (h : cBlt rc N rec sc f as = some m) : PE X (.Call (.Name f p) as [] pos) (tE c m) := by
  obtain ⟨hg, hm⟩ := x.bltn hb
  revert h
  match as with
  | [a] =>
    intro h
    simp only [cBlt, Option.bind_eq_some_iff] at h
    obtain ⟨o, h1, h2⟩ := h
    obtain ⟨l, rfl, h3, sh⟩ := c1_of x ih h2
    exact snd_c1L x.hΓ (fun1_ok x h1 hb sh.pl _ h3)
  | [a, b] =>
    intro h
    simp only [cBlt] at h
    have two : ∀ {o : P2}, cp2 rec sc o a b = some m → ∃ p q, rec sc a = some p ∧ rec sc b = some q ∧ m = .p2 o p q := fun h => by
      simp only [cp2, Option.bind_eq_some_iff, Option.map_eq_some_iff] at h
      obtain ⟨p, h1, q, h2, rfl⟩ := h
      exact ⟨p, q, h1, h2, rfl⟩
    by_cases e : (f == ("max" : Str)) = true
    · rw [if_pos e] at h; obtain rfl := eq_of_beq e
      obtain ⟨p, q, h1, h2, rfl⟩ := two h
      exact snd_call2 x.hΓ (cr_max2 x.calm) hg hm (by kernel_rfl) (by decide +kernel) (by decide +kernel) (ih.snd x h1).pe (ih.snd x h2).pe ((ih.shp h1).pl _ _) ((ih.shp h2).pl _ _)
    rw [if_neg e] at h
    by_cases e : (f == ("min" : Str)) = true
    · rw [if_pos e] at h; obtain rfl := eq_of_beq e
      obtain ⟨p, q, h1, h2, rfl⟩ := two h
      exact snd_call2 x.hΓ (cr_min2 x.calm) hg hm (by kernel_rfl) (by decide +kernel) (by decide +kernel) (ih.snd x h1).pe (ih.snd x h2).pe ((ih.shp h1).pl _ _) ((ih.shp h2).pl _ _)
    rw [if_neg e] at h
    by_cases e : (f == ("isinstance" : Str)) = true
    · rw [if_pos e] at h; obtain rfl := eq_of_beq e
      cases b <;> first | (cases h; done) | skip
      rename_i y p2
      simp only at h
      cases eg : glob? rc sc y with
      | some g =>
        rw [eg] at h
        cases g <;> first | (cases h; done) | skip
        rename_i n
        obtain ⟨g1, g2⟩ := x.glob eg
        obtain ⟨C, c1, c2⟩ := x.row.gl y _ g2
        obtain ⟨l, rfl, h3, sh⟩ := c1_of x ih h
        exact snd_c1L x.hΓ (hop_isC x hg hm g1 c1 c2 (x.gdbg _ _ g2) sh.pl _ h3 fun σ H Q Q' hq q => tL_mono hq q)
      | none =>
        rw [eg] at h
        simp only at h
        by_cases hb2 : blt? rc sc y = true
        · rw [if_pos hb2] at h
          simp only [Option.bind_eq_some_iff] at h
          obtain ⟨o, h1, h2⟩ := h
          obtain ⟨n, hn, rfl, rfl⟩ := isCls_ok h1
          obtain ⟨t1, t2⟩ := x.bltn hb2
          obtain ⟨l, rfl, h3, sh⟩ := c1_of x ih h2
          exact snd_c1L x.hΓ (hop_isT x hn hg hm t1 t2 sh.pl _ h3 fun σ H Q Q' hq q => tL_mono hq q)
        · rw [if_neg hb2] at h; cases h
    rw [if_neg e] at h
    cases h
  | [] => intro h; simp [cBlt] at h
  | _ :: _ :: _ :: _ => intro h; simp [cBlt] at h
theorem st_call (x : XC rc c k X sc N) (ih : IH rc k N rec) {f : Str} {as : List Expr} {p pos : Pos} {m : E} (h : cCall rc N rec sc f as = some m) : Snd c X (.Call (.Name f p) as [] pos) m := by
  refine Snd.plain ?_ fun _ => rfl
  unfold cCall at h
  cases e : slot? N sc f with
  | some i =>
    rw [e] at h
    simp only [Option.map_eq_some_iff] at h
    obtain ⟨ms, h1, rfl⟩ := h
    obtain ⟨s1, s2, s3, s4⟩ := x.slot e
    obtain ⟨p1, p2, p3⟩ := es_of x ih h1
    exact snd_calv x s1 s2 s3 s4 p1 p2 (nil_of p3)
  | none =>
    rw [e] at h
    simp only at h
    cases eg : glob? rc sc f with
    | some g =>
      rw [eg] at h
      obtain ⟨g1, g2⟩ := x.glob eg
      have gl := x.row.gl f g g2
      cases g <;> first | (cases h; done) | skip
      · simp only [Option.map_eq_some_iff] at h
        obtain ⟨ms, h1, rfl⟩ := h
        obtain ⟨p1, p2, p3⟩ := es_of x ih h1
        exact snd_call x g1 gl (x.gdbg _ _ g2) p1 p2 (nil_of p3)
      · simp only [Option.map_eq_some_iff] at h
        obtain ⟨ms, h1, rfl⟩ := h
        obtain ⟨p1, p2, p3⟩ := es_of x ih h1
        exact snd_mk x g1 gl (x.gdbg _ _ g2) p1 p2 (nil_of p3)
    | none =>
      rw [eg] at h
      simp only at h
      by_cases hb : blt? rc sc f = true
      · rw [if_pos hb] at h
        exact st_blt x ih hb h
      · rw [if_neg hb] at h; cases h
theorem st_meth (x : XC rc c k X sc N) (ih : IH rc k N rec) {a : Expr} {y : Str} {as : List Expr} {apos pos : Pos} {m : E} (hl : (apos.endLine == pos.line) = true) (hz : as.length ≤ 20) (h : cMeth rc N rec sc a y as = some m) : Snd c X (.Call (.Attribute a y apos) as [] pos) m := by
  refine Snd.plain ?_ fun _ => rfl
  have met : ∀ {f : Nat} {n : E} {ms : List E}, rc.ats.lookup y = some f → rec sc a = some n → cEs rec sc as = some ms → PE X (.Call (.Attribute a y apos) as [] pos) (tE c (.met n f ms)) := fun h1 h2 h3 => by
    obtain ⟨p1, p2, p3⟩ := es_of x ih h3
    exact snd_met x (ih.snd x h2).pe h1 (x.at6 _ _ h1) (fun w => (ih.shp h2).base _ _ _) hl hz p1 p2 (nil_of p3)
  revert h met hz
  match as with
  | [] =>
    intro hz h met
    simp only [cMeth] at h
    by_cases e : (y == ("bit_length" : Str)) = true
    · rw [if_pos e] at h; obtain rfl := eq_of_beq e
      obtain ⟨l, rfl, h3, sh⟩ := c1_of x ih h
      exact snd_c1L x.hΓ (hop_bits (sh.base _ _ _) hl _ h3 fun σ H Q Q' hq q => tL_mono hq q)
    · rw [if_neg e] at h
      simp only [Option.bind_eq_some_iff, Option.map_eq_some_iff] at h
      obtain ⟨f, h1, n, h2, rfl⟩ := h
      exact met h1 h2 rfl
  | [b] =>
    intro hz h met
    simp only [cMeth] at h
    by_cases e : (y == ("partition" : Str)) = true
    · rw [if_pos e] at h; obtain rfl := eq_of_beq e
      cases b <;> first | (cases h; done) | skip
      rename_i z j p
      cases z <;> first | (cases h; done) | skip
      simp only [Option.map_eq_some_iff] at h
      obtain ⟨n, h1, rfl⟩ := h
      exact snd_part x.hΓ (ih.snd x h1).pe ((ih.shp h1).base _ _ _) hl
    · rw [if_neg e] at h
      simp only [Option.bind_eq_some_iff, Option.map_eq_some_iff] at h
      obtain ⟨f, h1, n, h2, q, h3, rfl⟩ := h
      exact met h1 h2 (by simp [cEs, h3])
  | b1 :: b2 :: bs =>
    intro hz h met
    simp only [cMeth, Option.bind_eq_some_iff, Option.map_eq_some_iff] at h
    obtain ⟨f, h1, n, h2, ms, h3, rfl⟩ := h
    exact met h1 h2 h3
end
end Mn

set_option maxRecDepth 100000
set_option maxHeartbeats 2000000
/-! comprehensions, and every expression -/
namespace Mn
open PySem PySem.Spec PyProof.Rows L2
theorem relabel_lookup {env : Env} : ∀ {names : List (Str × NameKind)} {x : Str} {k : NameKind}, names.lookup x = some k →
    (names.map fun (n, k) => if (k == NameKind.free && env.scope.kind == .function && env.kindOf n == some .cell) then (n, NameKind.cell) else (n, k)).lookup x = some k ∨
    (k = .free ∧ (names.map fun (n, k) => if (k == NameKind.free && env.scope.kind == .function && env.kindOf n == some .cell) then (n, NameKind.cell) else (n, k)).lookup x = some .cell)
  | [], _, _, h => by simp at h
  | (n, k₀) :: r, x, k, h => by
    have ih := @relabel_lookup env r x k
    by_cases hx : (x == n) = true
    · have h' : k₀ = k := by simpa only [List.lookup, hx, Option.some.injEq] using h
      subst h'
      by_cases hc : (k₀ == NameKind.free && env.scope.kind == .function && env.kindOf n == some .cell) = true
      · refine .inr ⟨?_, ?_⟩
        · simp only [Bool.and_eq_true] at hc
          exact eq_of_beq hc.1.1
        · simp only [List.map_cons, hc, if_true, List.lookup, hx]
      · refine .inl ?_
        simp only [List.map_cons, hc, if_false, List.lookup, hx, Bool.false_eq_true]
    · have hx' : (x == n) = false := by simpa using hx
      have h' : r.lookup x = some k := by simpa only [List.lookup, hx'] using h
      by_cases hc : (k₀ == NameKind.free && env.scope.kind == .function && env.kindOf n == some .cell) = true
      · simpa only [List.map_cons, hc, if_true, List.lookup, hx'] using ih h'
      · simpa only [List.map_cons, hc, if_false, List.lookup, hx', Bool.false_eq_true] using ih h'
section
variable {rc : RC} {c : Cc} {k : Nat} {X : L2.Cx} {sc : Scope} {N : List Str} {rec : Rec}
/-- a comprehension's block -/
theorem XC.blk (x : XC rc c k X sc N) {scope : Scope} (hk : scope.kind = .function) (s : Shared) (H : Hp) (C : Addr) (cl : List (Str × Addr)) (fp : List Addr) : XC rc c.calm k (X.blk s H scope (compEnvC scope cl C X.env) fp) scope N where
  row := x.row
  hK := x.hK
  hX := x.hX
  hN := x.hN
  nd := x.nd
  calm := x.calm
  room := x.room
  ca := x.ca
  er := x.er
  es := x.es
  cr := x.cr
  ops := x.ops
  kpF := x.kpF
  kpC := x.kpC
  tk := takes_none5
  dg := x.dg
  scf := fun y kd h => relabel_lookup (env := X.env) h
  kd := hk
  gdbg := x.gdbg
  at6 := x.at6
  kB := x.kB
  fnc := fun y h => by show (scope.names.lookup y == some .cell) = true; rw [h]; rfl
  dbg := x.dbg
theorem blkOk_for (x : XC rc c k X sc N) {scope : Scope} {own : List (Str × Nat)} (h : BlkOk N sc scope own) : BlkOk X.N X.env.scope scope own := by
  have hN := x.hN
  refine ⟨h.kind, h.uniq, by rw [hN]; exact h.ix, fun y hy e => ?_, by rw [hN]; exact h.own⟩
  rcases h.free y hy e with q | q
  · rcases x.scf _ _ q with q | ⟨q, _⟩
    · exact .inl q
    · cases q
  · rcases x.scf _ _ q with q | ⟨_, q⟩
    · exact .inr q
    · exact .inl q
/-! targets -/
theorem allO_mem {α : Type} : ∀ {l : List (Option α)} {r : List α}, allO l = some r → l = r.map some
  | [], r, h => by cases h; rfl
  | o :: l, r, h => by
    simp only [allO, Option.bind_eq_some_iff, Option.map_eq_some_iff] at h
    obtain ⟨a, rfl, r', h2, rfl⟩ := h
    rw [allO_mem h2]; rfl
theorem cB_nostar {n : Nat} {e : Expr} {b : B} (h : cB N sc n e = some b) : ∀ es env, assignEach (e :: es) env = (false, assign e env) :: assignEach es env := by
  cases n with
  | zero => cases h
  | succ n =>
    cases e <;> first | (simp [cB] at h; done) | (intro es env; rfl)
theorem b_of (x : XC rc c k X sc N) : ∀ {n : Nat} {e : Expr} {b : B}, cB N sc n e = some b → PG X e (tBd c b) := by
  intro n
  induction n with
  | zero => intro e b h; cases h
  | succ n ih =>
    intro e b h
    cases e <;> first | (simp [cB] at h; done) | skip
    · rename_i y pos
      simp only [cB] at h
      have hi : ∃ i, (match sc.names.lookup y with | some .local => N.idxOf? y | some .cell => N.idxOf? y | _ => none) = some i ∧ b = .v i := by
        cases e : sc.names.lookup y with
        | none => rw [e] at h; cases h
        | some kd =>
          rw [e] at h
          cases kd <;> first | (cases h; done) | skip
          · simp only [Option.map_eq_some_iff] at h
            obtain ⟨i, h1, rfl⟩ := h
            exact ⟨i, h1, rfl⟩
          · simp only [Option.map_eq_some_iff] at h
            obtain ⟨i, h1, rfl⟩ := h
            exact ⟨i, h1, rfl⟩
      obtain ⟨i, h1, rfl⟩ := hi
      exact pg_v x h1
    · rename_i es kk pos
      simp only [cB, Option.map_eq_some_iff] at h
      obtain ⟨bs, h1, rfl⟩ := h
      have h2 := allO_mem h1
      have all : ∀ (es : List Expr) (bs : List B), es.map (cB N sc n) = bs.map some → PGs X es (tBds c bs) ∧ (assignEach es X.env).length = bs.length ∧ (assignEach es X.env).findIdx? (·.1) = none := by
        intro es
        induction es with
        | nil => intro bs h; cases bs with | nil => exact ⟨pgs_nilM, rfl, rfl⟩ | cons _ _ => simp at h
        | cons e es ihe =>
          intro bs h
          cases bs with
          | nil => simp at h
          | cons b bs =>
            simp only [List.map_cons, List.cons.injEq] at h
            obtain ⟨p1, p2, p3⟩ := ihe bs h.2
            have ns := cB_nostar h.1 es X.env
            refine ⟨pgs_consM (ih h.1) p1 (by rw [ns]; rfl), by rw [ns]; simp [p2], ?_⟩
            rw [ns, List.findIdx?_cons]
            simp [p3]
      obtain ⟨p1, p2, p3⟩ := all es bs h2
      exact pg_tupM x p1 p2 p3
/-! what is walked -/
theorem it_of (x : XC rc c k X sc N) (ih : IH rc k N rec) {tg it : Expr} {m : E} (h : cIt rc N rec sc it = some m) : PI X tg it (tIt c m) ∧ ∀ env y, foldedSetIterable it env y = pure y := by
  have plain : ∀ {e : Expr}, c1 rc N rec sc .item e = some m → PI X tg e (tIt c m) ∧ ∀ env y, foldedSetIterable e env y = pure y := fun h => by
    obtain ⟨l, rfl, h3, sh⟩ := c1_of x ih h
    exact ⟨pi_item x h3, sh.fold⟩
  cases it with
  | Call f as kw p' =>
    cases f with
    | Name f p =>
      cases kw with
      | cons _ _ => exact plain (by rcases as with _ | ⟨a, _ | ⟨b, _ | ⟨d, _ | _⟩⟩⟩ <;> exact h)
      | nil =>
        match as with
        | [] => exact plain h
        | [a] =>
          simp only [cIt] at h
          by_cases hb : blt? rc sc f = true
          · rw [if_pos hb] at h
            by_cases e : (f == ("range" : Str)) = true
            · rw [if_pos e] at h
              obtain rfl := eq_of_beq e
              obtain ⟨hg, hm⟩ := x.bltn hb
              simp only [Option.map_eq_some_iff] at h
              obtain ⟨n, h1, rfl⟩ := h
              exact ⟨pi_rng1 x hg hm (ih.snd x h1).pe (ih.shp h1).pl, fun _ _ => rfl⟩
            · rw [if_neg e] at h
              by_cases e2 : (f == ("enumerate" : Str)) = true
              · rw [if_pos e2] at h; cases h
              · rw [if_neg e2] at h; exact plain h
          · rw [if_neg hb] at h; exact plain h
        | [a, b] =>
          simp only [cIt] at h
          by_cases hb : blt? rc sc f = true
          · rw [if_pos hb] at h
            by_cases e : (f == ("range" : Str)) = true
            · rw [if_pos e] at h
              obtain rfl := eq_of_beq e
              obtain ⟨hg, hm⟩ := x.bltn hb
              simp only [cp2, Option.bind_eq_some_iff, Option.map_eq_some_iff] at h
              obtain ⟨n, h1, q, h2, rfl⟩ := h
              exact ⟨pi_rng2 x hg hm (ih.snd x h1).pe (ih.snd x h2).pe (ih.shp h1).pl (ih.shp h2).pl, fun _ _ => rfl⟩
            · rw [if_neg e] at h; cases h
          · rw [if_neg hb] at h; exact plain h
        | [a, b, d] =>
          simp only [cIt] at h
          by_cases hb : blt? rc sc f = true
          · rw [if_pos hb] at h; cases h
          · rw [if_neg hb] at h; exact plain h
        | _ :: _ :: _ :: _ :: _ => exact plain h
    | _ => exact plain h
  | _ => exact plain h
theorem itT_of (x : XC rc c k X sc N) (ih : IH rc k N rec) {tg it : Expr} {m : E} (h : cItT rc N rec sc tg it = some m) : PI X tg it (tIt c m) ∧ ∀ env y, foldedSetIterable it env y = pure y := by
  cases tg with
  | Tuple elts kk tpos =>
    cases it with
    | Call f as kw p' =>
      cases f with
      | Name f p =>
        cases kw with
        | cons _ _ => exact it_of x ih (by rcases as with _ | ⟨a, _ | ⟨b, _ | ⟨d, _ | _⟩⟩⟩ <;> exact h)
        | nil =>
          match as with
          | [a, b] =>
            simp only [cItT] at h
            by_cases hb : (blt? rc sc f && f == ("zip" : Str)) = true
            · rw [if_pos hb] at h
              simp only [Bool.and_eq_true] at hb
              obtain ⟨hb, e⟩ := hb
              obtain rfl := eq_of_beq e
              obtain ⟨hg, hm⟩ := x.bltn hb
              simp only [cp2, Option.bind_eq_some_iff, Option.map_eq_some_iff] at h
              obtain ⟨n, h1, q, h2, rfl⟩ := h
              exact ⟨pi_zipM x hg hm (ih.snd x h1).pe (ih.snd x h2).pe (ih.shp h1).pl (ih.shp h2).pl, fun _ _ => rfl⟩
            · rw [if_neg hb] at h; exact it_of x ih h
          | [] => exact it_of x ih h
          | [_] => exact it_of x ih h
          | _ :: _ :: _ :: _ => exact it_of x ih h
      | _ => exact it_of x ih h
    | _ => exact it_of x ih h
  | _ => exact it_of x ih h
/-- a comprehension's parts -/
theorem comp_of (x : XC rc c k X sc N) (ih : IH rc k N rec) {elt tg it : Expr} {ifs : List Expr} {scope : Scope} {m : E} (h : cComp rc N rec sc elt tg it ifs scope = some m) :
    ∃ mi me cond b, m = .comp me b mi cond ((ownSlots N scope).map (·.2)) ∧ PI X tg it (tIt c mi) ∧ BlkOk X.N X.env.scope scope (ownSlots N scope) ∧ (∀ i ∈ bvars b, i ∈ (ownSlots N scope).map (·.2)) ∧
      (∀ (s : Shared) (H : Hp) (C : Addr) (cl : List (Str × Addr)) (fp : List Addr), PG (X.blk s H scope (compEnvC scope cl C X.env) fp) tg (tBd c.calm b)) ∧
      (∀ (s : Shared) (H : Hp) (C : Addr) (cl : List (Str × Addr)) (fp : List Addr), PTs (X.blk s H scope (compEnvC scope cl C X.env) fp) ifs (tCond c cond)) ∧
      (∀ (s : Shared) (H : Hp) (C : Addr) (cl : List (Str × Addr)) (fp : List Addr), PE (X.blk s H scope (compEnvC scope cl C X.env) fp) elt (tE c.calm me)) ∧ (∀ y, foldedSetIterable it X.env y = pure y) := by
  unfold cComp at h
  by_cases hb : L2.blkC N sc scope (ownSlots N scope) = true
  · rw [if_pos hb] at h
    have bo := blkOk_by hb
    simp only [Option.bind_eq_some_iff] at h
    obtain ⟨mi, h1, b, h2, h⟩ := h
    by_cases hv : ((bvars b).all fun i => (ownSlots N scope).any fun p => p.2 == i) = true
    · rw [if_pos hv] at h
      simp only [Option.bind_eq_some_iff] at h
      obtain ⟨me, h3, h⟩ := h
      obtain ⟨p1, p2⟩ := itT_of x ih h1
      have hv' : ∀ i ∈ bvars b, i ∈ (ownSlots N scope).map (·.2) := fun i hi => by
        have := List.all_eq_true.mp hv i hi
        obtain ⟨p, q1, q2⟩ := List.any_eq_true.mp this
        exact List.mem_map.mpr ⟨p, q1, by simpa using q2⟩
      have bx := fun s H C cl fp => x.blk bo.kind s H C cl fp
      cases ifs with
      | nil =>
        cases h
        exact ⟨mi, me, none, b, rfl, p1, blkOk_for x bo, hv', fun s H C cl fp => b_of (bx s H C cl fp) h2, fun s H C cl fp => pts_nil, fun s H C cl fp => (ih.snd (bx s H C cl fp) h3).pe, p2 _⟩
      | cons e r =>
        cases r with
        | nil =>
          simp only [Option.map_eq_some_iff] at h
          obtain ⟨mc, h4, rfl⟩ := h
          exact ⟨mi, me, some mc, b, rfl, p1, blkOk_for x bo, hv', fun s H C cl fp => b_of (bx s H C cl fp) h2, fun s H C cl fp => pts_one (ih.snd (bx s H C cl fp) h4).pt, fun s H C cl fp => (ih.snd (bx s H C cl fp) h3).pe, p2 _⟩
        | cons _ _ => cases h
    · rw [if_neg hv] at h; cases h
  · rw [if_neg hb] at h; cases h
theorem st_all (x : XC rc c k X sc N) (ih : IH rc k N rec) {e : Expr} {m : E} (h : cStep rc N rec sc e = some m) : Snd c X e m := by
  cases e with
  | Name y pos => exact st_name x h
  | Constant z j pos => exact st_const h
  | BinOp a op b pos => exact st_bin x ih h
  | UnaryOp op a pos =>
    cases op <;> first | (simp [cStep] at h; done) | skip
    · simp only [cStep, Option.map_eq_some_iff] at h
      obtain ⟨n, h1, rfl⟩ := h
      exact snd_not (ih.snd x h1)
    · simp only [cStep, Option.map_eq_some_iff] at h
      obtain ⟨n, h1, rfl⟩ := h
      exact Snd.plain (snd_neg x (ih.snd x h1).pe) fun _ => rfl
  | BoolOp op vs pos => exact (st_bool x ih h).1
  | IfExp t a b pos =>
    simp only [cStep, Option.bind_eq_some_iff, Option.map_eq_some_iff] at h
    obtain ⟨q, h1, m, h2, n, h3, rfl⟩ := h
    exact snd_ite (ih.snd x h1) (ih.snd x h2) (ih.snd x h3)
  | Tuple es kk pos =>
    simp only [cStep] at h
    by_cases hl : es.length ≤ 1000
    · rw [if_pos hl, Option.map_eq_some_iff] at h
      obtain ⟨ms, h1, rfl⟩ := h
      obtain ⟨p1, p2, p3⟩ := es_of x ih h1
      exact Snd.plain (snd_tup p1 (by omega)) fun _ => rfl
    · rw [if_neg hl] at h; cases h
  | List es pos =>
    simp only [cStep] at h
    by_cases hl : es.length ≤ 1000
    · rw [if_pos hl, Option.map_eq_some_iff] at h
      obtain ⟨ms, h1, rfl⟩ := h
      obtain ⟨p1, p2, p3⟩ := es_of x ih h1
      exact Snd.plain (snd_lst p1 (by omega)) fun _ => rfl
    · rw [if_neg hl] at h; cases h
  | Compare a ops bs pos =>
    match ops, bs, h with
    | [op], [b], h => exact st_cmp x ih h
    | [op, op'], [b, d], h => exact st_chain x ih h
    | [], _, h => simp [cStep] at h
    | [_], [], h => simp [cStep] at h
    | [_], _ :: _ :: _, h => simp [cStep] at h
    | [_, _], [], h => simp [cStep] at h
    | [_, _], [_], h => simp [cStep] at h
    | [_, _], _ :: _ :: _ :: _, h => simp [cStep] at h
    | _ :: _ :: _ :: _, _, h => simp [cStep] at h
  | Attribute a y pos =>
    simp only [cStep, Option.bind_eq_some_iff, Option.map_eq_some_iff] at h
    obtain ⟨f, h1, n, h2, rfl⟩ := h
    exact Snd.plain (snd_fld x.row x.hK x.hΓ (ih.snd x h2).pe h1 ((ih.shp h2).base _ _ _)) fun _ => rfl
  | Subscript a i pos => exact st_sub x ih h
  | ListComp elt gs scope pos =>
    match gs, h with
    | [⟨t, it, ifs, as⟩], h =>
      have h0 : (if as == 0 then cComp rc N rec sc elt t it ifs scope else none) = some m := h
      have ha : as = 0 := by
        by_cases z : (as == 0) = true
        · exact eq_of_beq z
        · rw [if_neg z] at h0; cases h0
      subst ha
      have h : cComp rc N rec sc elt t it ifs scope = some m := by simpa using h0
      obtain ⟨mi, me, cond, b, rfl, p1, p2, p3, p4, p5, p6, p7⟩ := comp_of x ih h
      exact Snd.plain (snd_comp x p1 p2 p3 p4 p5 p6 p7) fun _ => rfl
    | [], h => simp [cStep] at h
    | _ :: _ :: _, h => simp [cStep] at h
  | Call f as kw pos =>
    cases f with
    | Name f p =>
      cases kw with
      | cons _ _ => simp [cStep] at h
      | nil =>
        simp only [cStep] at h
        by_cases hs : (f == ("super" : Str)) = true
        · rw [if_pos hs] at h; cases h
        · rw [if_neg hs] at h
          exact st_call x ih h
    | Attribute a y ap =>
      cases kw with
      | cons _ _ => simp [cStep] at h
      | nil =>
        simp only [cStep] at h
        by_cases hc : (ap.endLine == pos.line && decide (as.length ≤ 20)) = true
        · rw [if_pos hc] at h
          simp only [Bool.and_eq_true, decide_eq_true_eq] at hc
          exact st_meth x ih hc.1 hc.2 h
        · rw [if_neg hc] at h; cases h
    | _ => simp [cStep] at h
  | _ => simp [cStep] at h
end
/-- every expression that is compiled is sound -/
theorem ih_all (rc : RC) (k : Nat) (N : List Str) : ∀ n, IH rc k N (cE rc N n)
  | 0 => { snd := fun {c X sc} x {e m} h => (by cases h), shp := fun {sc e m} h => (by cases h) }
  | n + 1 => { snd := fun {c X sc} x {e m} h => st_all x (ih_all rc k N n) h, shp := fun {sc e m} h => shp_of h }
end Mn

set_option maxRecDepth 100000
set_option maxHeartbeats 2000000
/-! statements -/
namespace Mn
open PySem PySem.Spec PyProof.Rows L2
/-- what is wanted behind a statement that ends so -/
def GoodS (c : Cc) (W : Wd) (H : Hp) (r : SR) (D : Ends) : Prop := match r with
  | .nx ρ S => ∀ σ' H' W' L', Ok c.G W' H' ρ σ' S L' → Xt W H W' H' → D.nx σ' H'
  | .rt a S => ∀ v H' W', StOk c.G W' H' S → Xt W H W' H' → AV c.G W' a v → D.rt v H'
  | .bk ρ S => ∀ σ' H' W' L', Ok c.G W' H' ρ σ' S L' → Xt W H W' H' → D.bk σ' H'
  | .ct ρ S => ∀ σ' H' W' L', Ok c.G W' H' ρ σ' S L' → Xt W H W' H' → D.ct σ' H'
  | .ex e d ρ S => ∀ cls dx σ' H' W' L', Ok c.G W' H' ρ σ' S L' → Xt W H W' H' → XR c.G W' H' e d cls dx → c.wx cls dx σ' H'
  | .st => False
def tS (c : Cc) (s : Mn.S) : TS := fun D σ H => ∃ ρ S W L, Ok c.G W H ρ σ S L ∧ GoodS c W H (evalS c.X s ρ S) D
def tSs (c : Cc) (l : List Mn.S) : TS := fun D σ H => ∃ ρ S W L, Ok c.G W H ρ σ S L ∧ GoodS c W H (evalSs c.X l ρ S) D
theorem PS.imp {X : L2.Cx} {st : Stmt} {t t' : TS} (h : PS X st t) (i : ∀ D σ H, t' D σ H → t D σ H) : PS X st t' := ⟨fun pins s σ H D I q => h.run pins s σ H D I (i D σ H q)⟩
theorem PSs.imp {X : L2.Cx} {st : List Stmt} {t t' : TS} (h : PSs X st t) (i : ∀ D σ H, t' D σ H → t D σ H) : PSs X st t' := ⟨fun pins s σ H D I q => h.run pins s σ H D I (i D σ H q)⟩
section
variable {rc : RC} {c : Cc} {k : Nat} {X : L2.Cx} {sc : Scope} {N : List Str} {rec : Rec}
theorem GoodS.re {W W1 : Wd} {H H1 : Hp} {r : SR} {D : Ends} (g : GoodS c W H r D) (x : Xt W H W1 H1) : GoodS c W1 H1 r D := by
  cases r with
  | nx ρ S => exact fun σ' H' W' L' o y => g σ' H' W' L' o (x.trans y)
  | rt a S => exact fun v H' W' s y => g v H' W' s (x.trans y)
  | bk ρ S => exact fun σ' H' W' L' o y => g σ' H' W' L' o (x.trans y)
  | ct ρ S => exact fun σ' H' W' L' o y => g σ' H' W' L' o (x.trans y)
  | ex e d ρ S => exact fun cls dx σ' H' W' L' o y => g cls dx σ' H' W' L' o (x.trans y)
  | st => exact g
/-- an expression's end in a statement -/
theorem GoodS.expr {α β : Type} {RL : Wd → Hp → α → β → Prop} {W : Wd} {H : Hp} {ρ : Rho} {σ : L2.St} {S : Sto} {L : List Addr} {r : R α} {f : α → Sto → SR} {D : Ends} {Q : β → Hp → Prop} (ok : Ok c.G W H ρ σ S L) (g : GoodS c W H (r.sr ρ f) D)
    (h : ∀ a S1 v H1 W1, StOk c.G W1 H1 S1 → Xt W H W1 H1 → Ok c.G W1 H1 ρ σ S1 L → RL W1 H1 a v → GoodS c W1 H1 (f a S1) D → Q v H1) : Good c.G c.wx RL σ W H r Q := by
  cases r with
  | ok a S' => exact fun v H' W' s x y => h a S' v H' W' s x (ok.ext s x) y (GoodS.re (r := f a S') g x)
  | ex e d S' => exact fun cls dx H' W' s x y => g cls dx σ H' W' L (ok.ext s x) x y
  | st => exact g
theorem ss_nil : PSs X [] (tSs c []) := PSs.imp pss_nil fun D σ H q => by
  obtain ⟨ρ, S, W, L, ok, g⟩ := q
  exact g σ H W L ok Xt.refl
theorem ss_cons {st : Stmt} {sts : List Stmt} {m : Mn.S} {ms : List Mn.S} (h : PS X st (tS c m)) (hs : PSs X sts (tSs c ms)) : PSs X (st :: sts) (tSs c (m :: ms)) := PSs.imp (pss_cons h hs) fun D σ H q => by
  obtain ⟨ρ, S, W, L, ok, g⟩ := q
  simp only [evalSs] at g
  refine ⟨ρ, S, W, L, ok, ?_⟩
  cases ev : evalS c.X m ρ S with
  | nx ρ1 S1 => rw [ev] at g; exact fun σ' H' W' L' o x => ⟨ρ1, S1, W', L', o, GoodS.re (r := evalSs c.X ms ρ1 S1) g x⟩
  | rt a S1 => rw [ev] at g; exact g
  | bk ρ1 S1 => rw [ev] at g; exact g
  | ct ρ1 S1 => rw [ev] at g; exact g
  | ex e d ρ1 S1 => rw [ev] at g; exact g
  | st => rw [ev] at g; exact g
/-! small statements -/
theorem ss_pass {pos : Pos} : PS X (.Pass pos) (tS c .pass) := PS.imp ps_pass fun D σ H q => by
  obtain ⟨ρ, S, W, L, ok, g⟩ := q
  exact g σ H W L ok Xt.refl
theorem ss_brk {pos : Pos} : PS X (.Break pos) (tS c .brk) := PS.imp ps_break fun D σ H q => by
  obtain ⟨ρ, S, W, L, ok, g⟩ := q
  exact g σ H W L ok Xt.refl
theorem swaps_plain {e : Expr} {o : Option Expr} {l : Nat} {env : Env} {n : Nat} {m : E} {G : RC} (h : cE G N n sc e = some m) (hc : isComp e = false) : swapsWith e o l env = pure false := by
  cases n with
  | zero => cases h
  | succ n =>
    have h : cStep G N (cE G N n) sc e = some m := h
    cases e <;> first | rfl | (simp [isComp] at hc; done) | (simp [cStep] at h; done)
theorem ss_expr {e : Expr} {m : E} {pos : Pos} (he : PE X e (tE c m)) (hs : swapsWith e none pos.line X.env = pure false) : PS X (.Expr e pos) (tS c (.expr m)) := PS.imp (ps_expr he hs) fun D σ H q => by
  obtain ⟨ρ, S, W, L, ok, g⟩ := q
  simp only [evalS] at g
  exact ⟨ρ, S, W, L, ok, GoodS.expr ok g fun a S1 v H1 W1 s1 x1 ok1 r1 g1 => g1 σ H1 W1 L ok1 Xt.refl⟩
theorem ss_ret {e : Expr} {m : E} {pos : Pos} (he : PE X e (tE c m)) : PS X (.Return (some e) pos) (tS c (.ret m)) := PS.imp (ps_ret he) fun D σ H q => by
  obtain ⟨ρ, S, W, L, ok, g⟩ := q
  simp only [evalS] at g
  exact ⟨ρ, S, W, L, ok, GoodS.expr ok g fun a S1 v H1 W1 s1 x1 ok1 r1 g1 => g1 v H1 W1 s1 Xt.refl r1⟩
theorem ss_retN {pos : Pos} : PS X (.Return none pos) (tS c (.ret (.k .non))) := PS.imp ps_retN fun D σ H q => by
  obtain ⟨ρ, S, W, L, ok, g⟩ := q
  exact g .non H W ok.s Xt.refl (show Rep _ _ _ _ from .non)
/-- return [..] as a thing of the store -/
theorem ss_retl {es : List Expr} {ms : List E} {p pos : Pos} (h : PA X es (tEs c ms)) (hl : ms.length ≤ 1000) : PS X (.Return (some (.List es p)) pos) (tS c (.retl ms)) := PS.imp (ps_ret (pe_lst h)) fun D σ H q => by
  obtain ⟨ρ, S, W, L, ok, g⟩ := q
  simp only [evalS] at g
  show tEs c ms σ H _
  cases ev : evalEs c.X ms ρ S with
  | st => rw [ev] at g; exact g.elim
  | ex e d S' => exact ⟨ρ, S, W, L, ok, by rw [ev] at g ⊢; exact fun cls dx H' W' s x y => g cls dx σ H' W' L (ok.ext s x) x y⟩
  | ok as S1 =>
    have hlen := evalEs_len ev
    refine ⟨ρ, S, W, L, ok, ?_⟩
    rw [ev] at g ⊢
    intro vs H1 W1 s1 x1 r1
    have e1 := r1.length
    refine ⟨Nat.le_trans (by omega) (Nat.le_of_lt (small1000 (n := 1000) (Nat.le_refl _))), fun p hp => ?_⟩
    simp only [R.sr] at g
    cases ed : vals as with
    | none => rw [ed] at g; exact g.elim
    | some ds =>
      rw [ed] at g
      have k : ∀ b o, H1 b = some o → upd H1 p (.lst vs) b = some o := fun b o e => by
        rw [upd_ne (by rintro rfl; rw [hp] at e; cases e)]; exact e
      refine g (.ref p) _ { F := W1.F, al := W1.al ++ [p], fp := W1.fp ++ [p] } ⟨?_, ?_, ?_, fun b o e => k b o (s1.sub b o e)⟩ (x1.trans ⟨Ext.rfl', ⟨[p], rfl⟩, fun b o e _ => k b o e, fun b o e => ⟨o, k b o e⟩, fun a h => ?_, fun a o h => .inl h⟩) ⟨p, by rw [s1.len]; simp, rfl⟩
      · have h1 := (s1.st.mono (al' := W1.al ++ [p]) (H' := upd H1 p (.lst vs)) Ext.rfl' ⟨[p], rfl⟩ fun b _ o e => k b o e)
        exact h1.app (q := [p] ++ []) (.cons (.lst upd_same (r1.vals ed)) .nil)
      · rw [List.nodup_append]
        refine ⟨s1.nd, by simp, fun a h b hb z => ?_⟩
        subst z
        obtain ⟨o, e⟩ := s1.st.live a h
        simp at hb
        subst hb
        rw [hp] at e; cases e
      · intro a h
        rcases List.mem_append.mp h with h | h
        · exact s1.fr a h
        · simp at h; subst h; exact s1.dead hp
      · rcases List.mem_append.mp h with h | h
        · exact .inl h
        · simp at h; subst h; exact .inr hp
theorem ss_if {e : Expr} {a b : List Stmt} {m : E} {x y : List Mn.S} {pos : Pos} (he : PT X e (tTs c m)) (ha : PSs X a (tSs c x)) (hb : PSs X b (tSs c y)) : PS X (.If e a b pos) (tS c (.sif m x y)) := PS.imp (ps_if he ha hb) fun D σ H q => by
  obtain ⟨ρ, S, W, L, ok, g⟩ := q
  simp only [evalS] at g
  refine ⟨ρ, S, W, L, ok, ?_⟩
  cases ev : evalE c.X m ρ S with
  | st => rw [ev] at g; exact g.elim
  | ex e d S' => rw [ev] at g; exact fun cls dx H' W' s x y => g cls dx σ H' W' L (ok.ext s x) x y
  | ok u S1 =>
    rw [ev] at g
    cases u with
    | val d =>
      cases d with
      | bl t =>
        intro t' H1 W1 s1 x1 e1
        subst e1
        cases t' with
        | true => rw [if_pos rfl]; exact ⟨ρ, S1, W1, L, ok.ext s1 x1, GoodS.re g x1⟩
        | false => rw [if_neg (by simp)]; exact ⟨ρ, S1, W1, L, ok.ext s1 x1, GoodS.re g x1⟩
      | _ => exact g.elim
    | _ => exact g.elim
/-! stores -/
theorem gname_ok {i : Nat} {a : Mn.A} {v : V} {ρ : Rho} {σ : L2.St} {S1 : Sto} {L : List Addr} {W1 : Wd} {H1 : Hp} {D : Ends} (ok1 : Ok c.G W1 H1 ρ σ S1 L) (r1 : AV c.G W1 a v) (g1 : GoodS c W1 H1 (assignT c.X (.v i) a ρ S1) D) : D.nx (σ.set i (some v)) H1 := by
  simp only [assignT] at g1
  by_cases hv : isVal a = true
  · rw [if_pos hv] at g1
    unfold putR at g1
    by_cases hi : i < ρ.length
    · rw [if_pos hi] at g1
      obtain ⟨L', ok'⟩ := ok1.put r1 hi
      exact g1 _ H1 W1 L' ok' Xt.refl
    · rw [if_neg hi] at g1; exact g1.elim
  · rw [if_neg hv] at g1; exact g1.elim
theorem ss_setV (x : XC rc c k X sc N) {i : Nat} {y : Str} {e : Expr} {m : E} {py pos : Pos} (hi : (match sc.names.lookup y with | some .local => N.idxOf? y | some .cell => N.idxOf? y | _ => none) = some i) (he : PE X e (tE c m)) (hs : swapsWith e (some (.Name y py)) pos.line X.env = pure false) :
    PS X (.Assign [.Name y py] e pos) (tS c (.set (.v i) m)) := by
  obtain ⟨h1, h2, h3⟩ := x.loc hi
  refine PS.imp (ps_set (by rw [x.hN]; exact x.nd) h1 h2 he hs h3) fun D σ H q => ?_
  obtain ⟨ρ, S, W, L, ok, g⟩ := q
  simp only [evalS, evalP] at g
  exact ⟨ρ, S, W, L, ok, GoodS.expr ok g fun a S1 v H1 W1 s1 x1 ok1 r1 g1 => gname_ok ok1 r1 g1⟩
/-- name = [..] on one line -/
theorem ss_setC (x : XC rc c k X sc N) {i : Nat} {y : Str} {py pos spos : Pos} {elt tg iter : Expr} {ifs : List Expr} {scope : Scope} {m : E} (hi : (match sc.names.lookup y with | some .local => N.idxOf? y | some .cell => N.idxOf? y | _ => none) = some i) (hyl : X.env.scope.names.lookup y = some .local)
    (hsw : swapsWith (.ListComp elt [⟨tg, iter, ifs, 0⟩] scope pos) (some (.Name y py)) spos.line X.env = pure true) {n : Nat} (h : cComp rc N (cE rc N n) sc elt tg iter ifs scope = some m) :
    PS X (.Assign [.Name y py] (.ListComp elt [⟨tg, iter, ifs, 0⟩] scope pos) spos) (tS c (.set (.v i) m)) := by
  obtain ⟨h1, h2, h3⟩ := x.loc hi
  obtain ⟨mi, me, cond, b, rfl, p1, p2, p3, p4, p5, p6, p7⟩ := comp_of x (ih_all rc k N n) h
  refine PS.imp (ps_setLc x.calm (by rw [x.hN]; exact x.nd) h1 hyl hsw p1 p2 p4 p5 p6 p7) fun D σ H q => ?_
  obtain ⟨ρ, S, W, L, ok, g⟩ := q
  simp only [evalS, evalP] at g
  refine comp_tLc p3 ⟨ρ, S, W, L, ok, GoodS.expr ok g fun a S1 v H1 W1 s1 x1 ok1 r1 g1 => gname_ok ok1 r1 g1⟩
end
end Mn

set_option maxRecDepth 100000
set_option maxHeartbeats 2000000
/-! stores to fields, lists of the store, tuples of names -/
namespace Mn
open PySem PySem.Spec PyProof.Rows L2
section
variable {G : Gx} {F : Hp} {al : List Addr} {H H' : Hp}
/-- one thing of the store is written -/
theorem SS.setAt : ∀ {S : Sto} {as q : List Addr} {n : Nat} {o : SO}, SS G F al H S as q → q.Nodup → S[n]? = some o → ∃ a p, as[n]? = some a ∧ SOR G F al H o a p ∧ (∀ b ∈ p, b ∈ q) ∧ p.Nodup ∧
    ∀ (o' : SO) (p' : List Addr) (H' : Hp), (∀ b ∈ q, b ∉ p → ∀ u, H b = some u → H' b = some u) → p'.Sublist p → SOR G F al H' o' a p' → ∃ q', q'.Sublist q ∧ SS G F al H' (S.set n o') as q'
  | _, _, _, _, _, .nil, _, h => by simp at h
  | _, _, _, 0, o, .cons (p := p) (q := q) h r, nd, e => by
    simp at e; subst e
    refine ⟨_, p, rfl, h, fun b hb => List.mem_append_left _ hb, (List.nodup_append.mp nd).1, fun o' p' H' k hs hr => ⟨p' ++ q, List.Sublist.append hs (List.Sublist.refl _), .cons hr (r.mono Ext.rfl' ⟨[], by simp⟩ fun b hb u e => k b (List.mem_append_right _ hb) (fun z => (List.nodup_append.mp nd).2.2 b z b hb rfl) u e)⟩⟩
  | _, _, _, n + 1, o, .cons (p := p0) (q := q) h r, nd, e => by
    obtain ⟨a, p, h1, h2, h3, hnd, h4⟩ := SS.setAt (n := n) r (List.nodup_append.mp nd).2.1 (by simpa using e)
    refine ⟨a, p, by simpa using h1, h2, fun b hb => List.mem_append_right _ (h3 b hb), hnd, fun o' p' H' k hs hr => ?_⟩
    obtain ⟨q', k1, k2⟩ := h4 o' p' H' (fun b hb => k b (List.mem_append_right _ hb)) hs hr
    refine ⟨p0 ++ q', List.Sublist.append (List.Sublist.refl _) k1, ?_⟩
    exact .cons (h.mono Ext.rfl' ⟨[], by simp⟩ fun b hb u e => k b (List.mem_append_left _ hb) (fun z => (List.nodup_append.mp nd).2.2 b hb b (h3 b z) rfl) u e) k2
theorem StOk.setAt {W : Wd} {S : Sto} (s : StOk G W H S) {n : Nat} {o : SO} (e : S[n]? = some o) : ∃ a p, W.al[n]? = some a ∧ SOR G W.F W.al H o a p ∧ (∀ b ∈ p, b ∈ W.fp) ∧ p.Nodup ∧
    ∀ (o' : SO) (p' : List Addr) (u : HO), a ∈ p → p'.Sublist p → SOR G W.F W.al (upd H a u) o' a p' → ∃ q', StOk G { W with fp := q' } (upd H a u) (S.set n o') ∧ Xt W H { W with fp := q' } (upd H a u) := by
  obtain ⟨a, p, h1, h2, h3, hnd, h4⟩ := SS.setAt s.st s.nd e
  refine ⟨a, p, h1, h2, h3, hnd, fun o' p' u ha hs hr => ?_⟩
  obtain ⟨q', k1, k2⟩ := h4 o' p' (upd H a u) (fun b hb hn v ev => by rw [upd_ne (by rintro rfl; exact hn ha)]; exact ev) hs hr
  have hma := h3 a ha
  refine ⟨q', ⟨k2, s.nd.sublist k1, fun b hb => s.fr b (k1.subset hb), fun b v ev => ?_⟩, ⟨Ext.rfl', ⟨[], by simp⟩, fun b v ev hn => ?_, fun b v ev => ?_, fun b hb => .inl (k1.subset hb), fun b v ev => .inl ev⟩⟩
  · have ev : W.F b = some v := ev
    rw [upd_ne]; exact s.sub b v ev
    rintro rfl; rw [s.fr _ hma] at ev; cases ev
  · rw [upd_ne]; exact ev
    rintro rfl; exact hn hma
  · by_cases z : b = a
    · subst z; exact ⟨u, upd_same⟩
    · exact ⟨v, by rw [upd_ne z]; exact ev⟩
/-- a field is put -/
theorem FR.put {f : Nat} {d : D} {v : V} (hv : Rep G F d v) {fds : List Nat} (inj : ∀ f ∈ fds, ∀ g ∈ fds, G.nm f = G.nm g → f = g) (hf : f ∈ fds) : ∀ {fs : List (Nat × A)} {fl : List (Str × V)} {p : List Addr}, FR G F al H fs fl p → (∀ q ∈ fs, q.1 ∈ fds) →
    ∃ p', p'.Sublist p ∧ FR G F al H (Mn.putF f (.val d) fs) (L2.putF (G.nm f) v fl) p' ∧ ∀ q ∈ Mn.putF f (.val d) fs, q.1 ∈ fds
  | _, _, _, .nil, _ => ⟨[], List.Sublist.refl _, .cons (p := []) (fun n z => by cases z) (.val hv) .nil, fun q hq => by simp [Mn.putF] at hq; rw [hq]; exact hf⟩
  | _, _, _, .cons (f := g) (p := p) (q := q) hn h r, hk => by
    have hg : g ∈ fds := hk _ List.mem_cons_self
    by_cases e : g = f
    · subst e
      refine ⟨q, List.sublist_append_right _ _, ?_, ?_⟩
      · simp only [Mn.putF, L2.putF, if_true]
        exact .cons (p := []) (fun n z => by cases z) (.val hv) r
      · intro z hz
        simp only [Mn.putF, if_true] at hz
        rcases List.mem_cons.mp hz with rfl | hz
        · exact hf
        · exact hk z (List.mem_cons_of_mem _ hz)
    · obtain ⟨p', h1, h2, h3⟩ := FR.put hv inj hf r fun z hz => hk z (List.mem_cons_of_mem _ hz)
      have e' : ¬ G.nm g = G.nm f := fun z => e (inj g hg f hf z)
      refine ⟨p ++ p', List.Sublist.append (List.Sublist.refl _) h1, ?_, ?_⟩
      · simp only [Mn.putF, L2.putF, if_neg e, if_neg e']
        exact .cons hn h h2
      · intro z hz
        simp only [Mn.putF, if_neg e] at hz
        rcases List.mem_cons.mp hz with rfl | hz
        · exact hg
        · exact h3 z hz
end

section
variable {rc : RC} {c : Cc} {k : Nat} {X : L2.Cx} {sc : Scope} {N : List Str} {rec : Rec}
theorem FR.len {G : Gx} {F : Hp} {al : List Addr} {H : Hp} {fs : List (Nat × Mn.A)} {fl : List (Str × V)} {p : List Addr} (h : FR G F al H fs fl p) : fl.length = fs.length := by
  induction h with
  | nil => rfl
  | cons _ _ _ ih => simp [ih]
theorem swaps_attr {e o : Expr} {f : Str} {p : Pos} {l : Nat} {env : Env} : swapsWith e (some (.Attribute o f p)) l env = pure false := by
  cases e <;> rfl
theorem swaps_sub {e o i : Expr} {p : Pos} {l : Nat} {env : Env} : swapsWith e (some (.Subscript o i p)) l env = pure false := by
  cases e <;> rfl
theorem swaps_tup {e : Expr} {ts : List Expr} {kk : Nat} {p : Pos} {l : Nat} {env : Env} : swapsWith e (some (.Tuple ts kk p)) l env = pure false := by
  cases e <;> rfl
/-- o.f = v -/
theorem ss_setF (x : XC rc c k X sc N) {o e : Expr} {y : Str} {f : Nat} {m n : E} {p pos : Pos} (hf : rc.ats.lookup y = some f) (he : PE X e (tE c m)) (ho : PE X o (tE c n)) : PS X (.Assign [.Attribute o y p] e pos) (tS c (.set (.f n f) m)) :=
  PS.imp (ps_fld ho he swaps_attr) fun D σ H q => by
    obtain ⟨ρ, S, W, L, ok, g⟩ := q
    simp only [evalS, evalP, assignT] at g
    refine ⟨ρ, S, W, L, ok, GoodS.expr (RL := RA c.G) ok g fun a S1 v H1 W1 s1 x1 ok1 r1 g1 => ?_⟩
    cases a with
    | val d =>
      refine ⟨ρ, S1, W1, L, ok1, GoodS.expr (RL := RA c.G) ok1 g1 fun b S2 u H2 W2 s2 x2 ok2 r2 g2 => ?_⟩
      have hΓ := x.hΓ
      cases hs : setFld c.X.Γ S2 b f (.val d) with
      | none => rw [hs] at g2; exact g2.elim
      | some S3 =>
        rw [hs] at g2
        rw [hΓ] at hs
        cases b with
        | ref n =>
          obtain ⟨a, h1, rfl⟩ := r2
          simp only [setFld] at hs
          cases e1 : S2[n]? with
          | none => rw [e1] at hs; simp at hs
          | some ob =>
            rw [e1] at hs
            cases ob with
            | lst _ => simp at hs
            | ins q fs =>
              simp only at hs
              obtain ⟨a', pp, k1, k2, k3, nd, k4⟩ := s2.setAt e1
              rw [h1] at k1; cases k1
              cases k2 with
              | @ins _ cl _ C dx _ fl p0 g1' g2' g3 g4 g5 g6 =>
                rw [g1'] at hs
                simp only [Bool.and_eq_true, decide_eq_true_eq, Option.ite_none_right_eq_some, Option.some.injEq] at hs
                obtain ⟨⟨hc, hl⟩, rfl⟩ := hs
                have hm : f ∈ cl.flds := by simpa using hc
                obtain ⟨cl', z1, K1⟩ := x.row.cl _ _ g3
                rw [g1'] at z1; cases z1
                have hv : Rep c.G W2.F d v := Rep.mono x2.f r1
                have nm := x.row.nms y f hf
                have hlen := g6.len
                have hp := g6.put hv (x.row.inj _ _ g1') hm g2'
                obtain ⟨p', hp1, hp2, hp3⟩ := hp
                have n1 : dx ≠ a := by
                  have := nd
                  simp at this
                  exact fun z => this.1.1 z.symm
                have n2 : ∀ b ∈ p', b ≠ a := fun b hb z => by
                  have := nd
                  simp at this
                  subst z
                  exact this.1.2 (hp1.subset hb)
                obtain ⟨q', st', xt'⟩ := k4 (.ins _ (Mn.putF f (.val d) fs)) (a :: dx :: p') (.ins C dx (L2.putF (c.G.nm f) v fl)) (by simp) (by simpa using hp1) (.ins g1' hp3 g3 upd_same (by rw [upd_ne n1]; exact g5) (hp2.mono Ext.rfl' ⟨[], by simp⟩ fun b hb ob eb => by
                  rw [upd_ne (n2 b hb)]; exact eb))
                refine ⟨a, C, dx, fl, rfl, g4, by rw [x.hK]; exact K1.cls, by rw [x.hK, ← nm]; exact K1.no f hm, by omega, ?_⟩
                rw [← nm]
                exact g2 σ _ _ L (ok2.ext st' xt') xt'
        | _ => simp [setFld] at hs
    | _ => exact g1.elim

/-- y[i] = v, y a list of the store -/
theorem ss_rset (x : XC rc c k X sc N) {a i e : Expr} {m n q : E} {p pos : Pos} (he : PE X e (tE c m)) (ha : PE X a (tE c n)) (hi : PE X i (tE c q)) (hsl : ∀ v, assign (.Subscript a i p) X.env v = (do
      let ov ← holding [v] (eval a X.env)
      let iv ← holding [v, ov] (eval i X.env)
      standAt p
      holding [v, ov, iv] (setItem ov iv v)
      release [v, ov, iv] [])) : PS X (.Assign [.Subscript a i p] e pos) (tS c (.rset n q m)) :=
  PS.imp (ps_asg he (pg_sub ha hi set_list hsl) (show swapsWith e (some (.Subscript a i p)) pos.line X.env = pure false from swaps_sub) (by rfl) (by rfl)) fun D σ H z => by
    obtain ⟨ρ, S, W, L, ok, g⟩ := z
    simp only [evalS] at g
    refine ⟨ρ, S, W, L, ok, GoodS.expr (RL := RA c.G) ok g fun y S1 v H1 W1 s1 x1 ok1 r1 g1 => ?_⟩
    refine ⟨ρ, S1, W1, L, ok1, GoodS.expr (RL := RA c.G) ok1 g1 fun b S2 u H2 W2 s2 x2 ok2 r2 g2 => ?_⟩
    refine ⟨ρ, S2, W2, L, ok2, GoodS.expr (RL := RA c.G) ok2 g2 fun j S3 w H3 W3 s3 x3 ok3 r3 g3 => ?_⟩
    cases b with
    | ref nn =>
      have r2 := AV.mono r2 x3
      obtain ⟨ad, h1, rfl⟩ := r2
      cases j with
      | val jd =>
        cases y with
        | val d =>
          cases jd with
          | int jj =>
            cases r3
            simp only at g3
            cases e1 : S3[nn]? with
            | none => rw [e1] at g3; exact g3.elim
            | some ob =>
              rw [e1] at g3
              cases ob with
              | ins _ _ => exact g3.elim
              | lst l =>
                simp only at g3
                cases e2 : L2.ixN l.length jj with
                | none => rw [e2] at g3; exact g3.elim
                | some qq =>
                  rw [e2] at g3
                  obtain ⟨a', pp, k1, k2, k3, nd, k4⟩ := s3.setAt e1
                  rw [h1] at k1; cases k1
                  cases k2 with
                  | @lst _ _ vs kk1 kk2 =>
                    have hv : Rep c.G W3.F d v := Rep.mono x3.f (Rep.mono x2.f r1)
                    obtain ⟨q', st', xt'⟩ := k4 (.lst (l.set qq d)) [ad] (.lst (vs.set qq v)) (by simp) (List.Sublist.refl _) (.lst upd_same (kk2.set hv qq))
                    refine ⟨ad, vs, jj, qq, rfl, rfl, kk1, by rw [← kk2.length]; exact e2, ?_⟩
                    exact g3 σ _ _ L (ok3.ext st' xt') xt'
          | _ => exact g3.elim
        | _ => cases jd <;> exact g3.elim
      | _ => exact g3.elim
    | _ => cases j <;> exact g3.elim
/-! a tuple of names -/
mutual
theorem assign_ofB {Y : Ev} : ∀ (b : B) (d : D) (ρ : Rho) (S : Sto), assignT Y (ofB b) (.val d) ρ S = SR.ofR ρ S (bindT b d ρ)
  | .v i, d, ρ, S => by simp only [ofB, assignT, bindT, isVal, if_true, putR]
  | .tup ts, d, ρ, S => by
    cases d with
    | tup l => simp only [ofB, assignT, bindT]; exact assign_ofBs ts l ρ S
    | _ => simp only [ofB, assignT, bindT]; rfl
theorem assign_ofBs {Y : Ev} : ∀ (bs : List B) (l : List D) (ρ : Rho) (S : Sto), assignTs Y (ofBs bs) (l.map .val) ρ S = SR.ofR ρ S (bindTs bs l ρ)
  | [], [], ρ, S => by simp [ofBs, assignTs, bindTs, SR.ofR]
  | [], _ :: _, ρ, S => by simp [ofBs, assignTs, bindTs, SR.ofR]
  | t :: ts, [], ρ, S => by simp [ofBs, assignTs, bindTs, SR.ofR]
  | t :: ts, d :: l, ρ, S => by
    simp only [ofBs, assignTs, bindTs, List.map_cons]
    rw [assign_ofB t d ρ S]
    cases bindT t d ρ with
    | none => rfl
    | some ρ1 =>
      simp only [SR.ofR, SR.seq, Option.bind]
      exact assign_ofBs ts l ρ1 S
end
theorem ss_setB (x : XC rc c k X sc N) {ts : List Expr} {kk : Nat} {p pos : Pos} {e : Expr} {m : E} {bs : List B} (he : PE X e (tE c m)) (hb : PG X (.Tuple ts kk p) (tBd c (.tup bs))) (hw : swappedStores [.Tuple ts kk p] e X.env = pure none) : PS X (.Assign [.Tuple ts kk p] e pos) (tS c (.set (ofB (.tup bs)) m)) :=
  PS.imp (ps_asg he hb (show swapsWith e (some (.Tuple ts kk p)) pos.line X.env = pure false from swaps_tup) hw (by rfl)) fun D σ H z => by
    obtain ⟨ρ, S, W, L, ok, g⟩ := z
    have hP : evalP c.X (ofB (.tup bs)) m ρ S = evalE c.X m ρ S := rfl
    simp only [evalS, hP] at g
    refine ⟨ρ, S, W, L, ok, GoodS.expr (RL := RA c.G) ok g fun y S1 v H1 W1 s1 x1 ok1 r1 g1 => ?_⟩
    cases y with
    | val d =>
      rw [assign_ofB] at g1
      cases eb : bindT (.tup bs) d ρ with
      | none => rw [eb] at g1; exact g1.elim
      | some ρ' =>
        rw [eb] at g1
        exact ⟨ρ, S1, W1, L, d, ρ', ok1, r1, eb, fun σ' L' ok' _ => g1 σ' H1 W1 L' ok' Xt.refl⟩
    | ref n => exact g1.elim
    | _ => exact r1.elim
end
end Mn

set_option maxRecDepth 100000
set_option maxHeartbeats 200000
/-! a, b = x, y -/
namespace Mn
open PySem PySem.Spec PyProof.Rows L2
theorem filterMap_eq {α β : Type} {f g : α → Option β} : ∀ {l : List α}, (∀ e ∈ l, f e = g e) → l.filterMap f = l.filterMap g
  | [], _ => rfl
  | a :: l, h => by
    rw [List.filterMap_cons, List.filterMap_cons, h a List.mem_cons_self, filterMap_eq fun e he => h e (List.mem_cons_of_mem _ he)]
/-- the names as the run sees them -/
def LocNames (sc : Scope) (ts : List Expr) : Prop := ∀ id p, Expr.Name id p ∈ ts → sc.names.lookup id = some .local ∨ sc.names.lookup id = some .cell
def nsC (sc : Scope) (ts : List Expr) : List Str := ts.filterMap fun e => match e with
        | .Name id pos => if sc.names.lookup id == some .local && pos.line == (ts.head?.map (·.pos.line)).getD 0 then some id else none
        | _ => none
theorem swapC_ok {sc : Scope} {ts vs : List Expr} {k k2 : Nat} {p p2 : Pos} {env : Env} {r : Option (List Str)} (hs : ScFor sc env) (hk : env.scope.kind = .function) (hl : LocNames sc ts) (h : swapC sc ts vs = some r) : swappedStores [.Tuple ts k p] (.Tuple vs k2 p2) env = pure r := by
  have hb : env.blockKind = .function := by unfold Env.blockKind; rw [hk]; rfl
  have hn : ∀ line : Nat, (ts.filterMap fun e => match e with
      | .Name id pos => if env.kindOf id == some .local && pos.line == line then some id else none
      | _ => none) = ts.filterMap fun e => match e with
      | .Name id pos => if sc.names.lookup id == some .local && pos.line == line then some id else none
      | _ => none := fun line => by
    refine filterMap_eq fun e he => ?_
    cases e with
    | Name id pos =>
      have : (env.kindOf id == some .local) = (sc.names.lookup id == some .local) := by
        rcases hl id pos he with q | q
        · rcases hs id _ q with z | ⟨z, _⟩
          · rw [q]; show (env.scope.names.lookup id == _) = _; rw [z]
          · cases z
        · rcases hs id _ q with z | ⟨z, _⟩
          · rw [q]; show (env.scope.names.lookup id == _) = _; rw [z]
          · cases z
      simp only [this]
    | _ => rfl
  unfold swapC at h
  unfold swappedStores
  simp only [pure_bind]
  simp only [hb]
  by_cases c1 : (!(ts.length == 2 || ts.length == 3) || vs.length != ts.length) = true
  · rw [if_pos c1] at h; cases h
    rw [if_pos (by simp only [Bool.or_eq_true] at c1 ⊢; exact .inl c1)]
  · rw [if_neg c1] at h
    rw [if_neg (by simp only [Bool.or_eq_true] at c1 ⊢; intro z; rcases z with z | z; exact c1 z; exact absurd z (by decide))]
    by_cases c2 : (vs.any fun e => match e with | .Starred .. => true | _ => false) = true
    · have h := (if_pos c2).symm.trans h
      cases h
      exact if_pos c2
    · have h := (if_neg c2).symm.trans h
      refine (if_neg c2).trans ?_
      have hn' := hn ((ts.head?.map (·.pos.line)).getD 0)
      obtain ⟨ns, hN⟩ : ∃ ns, ns = nsC sc ts := ⟨_, rfl⟩
      have h : (if ((nsC sc ts).length != ts.length || (nsC sc ts).eraseDups.length != (nsC sc ts).length) = true then some none
        else if vs.all (foldedForSure 8) = true then some none else if vs.all (constantsAlone 8) = true then none else some (some (nsC sc ts))) = some r := h
      have hn' := hn'.trans (show _ = nsC sc ts from rfl)
      rw [← hN] at h hn'
      by_cases c3 : (ns.length != ts.length || ns.eraseDups.length != ns.length) = true
      · have h := (if_pos c3).symm.trans h
        cases h
        refine (if_pos ?_).trans rfl
        rw [← hn'] at c3
        exact c3
      · have h := (if_neg c3).symm.trans h
        refine (if_neg (by rw [← hn'] at c3; exact c3)).trans ?_
        by_cases c4 : vs.all (foldedForSure 8) = true
        · have h := (if_pos c4).symm.trans h
          cases h
          exact if_pos c4
        · have h := (if_neg c4).symm.trans h
          refine (if_neg c4).trans ?_
          by_cases c5 : vs.all (constantsAlone 8) = true
          · have h := (if_pos c5).symm.trans h
            cases h
          · have h := (if_neg c5).symm.trans h
            cases h
            refine (if_neg c5).trans ?_
            rw [← hn']
            rfl

/-- slots take values, one after the other -/
def setL (σ : L2.St) : List Nat → List V → L2.St
  | i :: is, v :: vs => setL (σ.set i (some v)) is vs
  | _, _ => σ
theorem setL_set : ∀ {is : List Nat} {vs : List V} {σ : L2.St} {i : Nat} {v : V}, i ∉ is → setL (σ.set i (some v)) is vs = (setL σ is vs).set i (some v)
  | [], vs, σ, i, v, _ => by cases vs <;> rfl
  | j :: is, [], σ, i, v, _ => rfl
  | j :: is, u :: vs, σ, i, v, h => by
    have hj : i ≠ j := fun z => h (by simp [z])
    simp only [setL]
    rw [List.set_comm _ _ hj]
    exact setL_set fun z => h (List.mem_cons_of_mem _ z)
theorem setL_snoc : ∀ {is : List Nat} {vs : List V} {σ : L2.St} {i : Nat} {v : V}, is.length = vs.length → setL σ (is ++ [i]) (vs ++ [v]) = (setL σ is vs).set i (some v)
  | [], [], σ, i, v, _ => rfl
  | [], _ :: _, σ, i, v, h => by simp at h
  | _ :: _, [], σ, i, v, h => by simp at h
  | j :: is, u :: vs, σ, i, v, h => by
    simp only [List.cons_append, setL]
    exact setL_snoc (by simpa using h)
theorem setL_rev : ∀ {is : List Nat} {vs : List V} {σ : L2.St}, is.Nodup → is.length = vs.length → setL σ is.reverse vs.reverse = setL σ is vs
  | [], [], σ, _, _ => rfl
  | [], _ :: _, σ, _, h => by simp at h
  | _ :: _, [], σ, _, h => by simp at h
  | j :: is, u :: vs, σ, nd, h => by
    rw [List.reverse_cons, List.reverse_cons, setL_snoc (by simpa using h), setL_rev (List.nodup_cons.mp nd).2 (by simpa using h)]
    simp only [setL]
    rw [setL_set (List.nodup_cons.mp nd).1]
theorem bindTs_setL {G : Gx} {W : Wd} {H : Hp} {S : Sto} : ∀ {is : List Nat} {ds : List D} {vs : List V} {ρ ρ' : Rho} {σ : L2.St} {L : List Addr}, Ok G W H ρ σ S L → bindTs (is.map B.v) ds ρ = some ρ' → Reps G W.F ds vs → ∃ L', Ok G W H ρ' (setL σ is vs) S L'
  | [], _, _, ρ, ρ', σ, L, ok, h, r => by
    cases r with
    | nil => simp only [List.map_nil, bindTs, Option.some.injEq] at h; subst h; exact ⟨L, ok⟩
    | cons _ _ => simp [bindTs] at h
  | i :: is, _, _, ρ, ρ', σ, L, ok, h, r => by
    cases r with
    | nil => simp [bindTs] at h
    | @cons d v ds vs hd r =>
      simp only [List.map_cons, bindTs, bindT, Option.bind_eq_some_iff, Option.ite_none_right_eq_some, Option.some.injEq] at h
      obtain ⟨ρ1, ⟨hi, rfl⟩, h⟩ := h
      obtain ⟨L1, ok1⟩ := ok.put (a := .val d) (v := v) hd hi
      simp only [setL]
      exact bindTs_setL ok1 h r
theorem stores_ok {X : L2.Cx} {pins : List (Addr × Obj)} {H : Hp} (hN : X.N.Nodup) {Q : Unit → Shared → Prop} : ∀ {l : List (Str × Nat)} {us : List Value} {vs : List V} {σ : L2.St} {s : Shared}, Inv X pins σ H s → (∀ p ∈ l, X.N[p.2]? = some p.1 ∧ X.env.scope.names.lookup p.1 = some .local) → Vals vs us → l.length = us.length →
    (∀ s', Inv X pins (setL σ (l.map (·.2)) vs) H s' → Q () s') → wpAny (model X.prog X.w) X.A (assignInOrder (l.map fun p => fun v => bindName X.env p.1 v) us) Q X.xe s
  | [], [], _, σ, s, I, _, r, _, h => by cases r; exact assignInOrder_nil (h s I)
  | [], _ :: _, _, _, _, _, _, _, hl, _ => by simp at hl
  | _ :: _, [], _, _, _, _, _, _, hl, _ => by simp at hl
  | p :: l, u :: us, _, σ, s, I, hp, r, hl, h => by
    cases r with
    | cons rv r =>
      obtain ⟨h1, h2⟩ := hp p List.mem_cons_self
      refine assignInOrder_cons (wpAny_bindName (store_ok I hN h1 (.inl h2) rv (fun s2 I2 => ?_) (.inr h2)))
      exact stores_ok hN I2 (fun q hq => hp q (List.mem_cons_of_mem _ hq)) r (by simpa using hl) h
theorem vals_rev : ∀ {vs : List V} {us : List Value}, Vals vs us → Vals vs.reverse us.reverse
  | _, _, .nil => .nil
  | _, _, .cons a r => by rw [List.reverse_cons, List.reverse_cons]; exact (vals_rev r).append (.cons a .nil)
def tParN (is : List Nat) (ta : TA) : TS := fun D σ H => ta σ H fun vs H1 => vs.length = is.length ∧ vs.length ≤ sizeLine ∧ D.nx (setL σ is vs) H1
theorem ps_parN {X : L2.Cx} {l : List (Str × Nat)} {ts es : List Expr} {ta : TA} {kt k2 : Nat} {pt pt2 pos : Pos} (hc : X.calm = true) (hN : X.N.Nodup) (hl : ∀ p ∈ l, X.N[p.2]? = some p.1 ∧ X.env.scope.names.lookup p.1 = some .local) (hnd : (l.map (·.2)).Nodup) (ha : PA X es ta) (hlen : es.length = l.length)
    (hw : swappedStores [.Tuple ts kt pt] (.Tuple es k2 pt2) X.env = pure (some (l.map (·.1)))) : PS X (.Assign [.Tuple ts kt pt] (.Tuple es k2 pt2) pos) (tParN (l.map (·.2)) ta) := by
  refine ⟨fun pins s σ H D I h => ?_⟩
  rw [exec_Assign_arm]
  refine wpAny_bind (wpAny_standAt ?_)
  rw [show swapsWithSole [.Tuple ts kt pt] (.Tuple es k2 pt2) pos.line X.env = pure false from rfl]
  refine wpAny_bind (wpAny_pure ?_)
  rw [if_neg (by decide)]
  refine wpAny_bind (Tuple_ (thn (ha.run _ pins s σ H _ I h) fun us s1 ⟨vs, H1, I1, r1, q0, q1, q2⟩ => ?_))
  have hu := r1.length
  refine wpAny_newObj_type ?_ (by show us.toArray.size ≤ sizeLine; rw [List.size_toArray, ← hu]; exact q1)
  have I2 : Inv X pins σ H1 { s1 with heap := s1.heap.push { cls := .type "tuple", data := .seq us.toArray } } := I1.kept (t' := s1.toks) fun b o e => Heap.get?_push_of_some _ e
  rw [hw]
  refine wpAny_bind (wpAny_pure ?_)
  have hsz : (l.map (·.1)).length = us.toArray.size := by
    rw [List.size_toArray, List.length_map, ← hu, q0, List.length_map]
  unfold assignStores
  dsimp only
  refine wpAny_bind (wpAny_rule (wpAny_bind ?_))
  rw [hsz]
  refine unpackItems_tuple (items := us.toArray) (I.ok.hd hc) (IsTup.new s1.heap _) fun h' hx' => ?_
  have I3 := I2.kept (h' := h') (t' := s1.toks) fun b o e => hx' b o (Nat.ne_of_lt (Heap.lt_size e)) e
  have hm : ((l.map (·.1)).reverse.map fun n => bindName X.env n) = (l.reverse.map fun p => fun v => bindName X.env p.1 v) := by
    rw [← List.map_reverse, List.map_map]; rfl
  rw [hm]
  have hrev := vals_rev r1
  refine wpAny_bind (stores_ok hN I3 (fun p hp => hl p (List.mem_reverse.mp hp)) hrev (by rw [List.length_reverse, List.length_reverse, ← hu, q0, List.length_map]) fun s' I' => wpAny_pure ?_)
  rw [List.map_reverse, setL_rev hnd (by rw [q0])] at I'
  exact ⟨_, H1, I', q2⟩

section
variable {rc : RC} {c : Cc} {k : Nat} {X : L2.Cx} {sc : Scope} {N : List Str} {rec : Rec}
/-- stored from the left: the tuple, then its items -/
theorem ss_par0 (x : XC rc c k X sc N) {ts es : List Expr} {ms : List E} {bs : List B} {kt k2 : Nat} {pt pt2 pos : Pos} (ha : PA X es (tEs c ms)) (hz : ms.length ≤ 1000) (hb : PG X (.Tuple ts kt pt) (tBd c (.tup bs))) (hw : swappedStores [.Tuple ts kt pt] (.Tuple es k2 pt2) X.env = pure none) :
    PS X (.Assign [.Tuple ts kt pt] (.Tuple es k2 pt2) pos) (tS c (.par bs ms)) :=
  PS.imp (ps_asg (snd_tup (k := k2) (pos := pt2) ha hz) hb (show swapsWith (.Tuple es k2 pt2) (some (.Tuple ts kt pt)) pos.line X.env = pure false from rfl) hw (by rfl)) fun D σ H z => by
    obtain ⟨ρ, S, W, L, ok, g⟩ := z
    simp only [evalS] at g
    refine ⟨ρ, S, W, L, ok, ?_⟩
    simp only [evalE]
    cases ev : evalEs c.X ms ρ S with
    | st => rw [ev] at g; exact g.elim
    | ex e d S' => rw [ev] at g; exact fun cls dx H' W' s x y => g cls dx σ H' W' L (ok.ext s x) x y
    | ok as S1 =>
      rw [ev] at g
      simp only [R.sr] at g
      simp only [R.bind]
      cases ed : vals as with
      | none => rw [ed] at g; exact g.elim
      | some ds =>
        rw [ed] at g
        simp only [Option.map]
        intro v H1 W1 s1 x1 r1
        have ok1 := ok.ext s1 x1
        cases eb : bindTs bs ds ρ with
        | none => simp only [eb] at g; exact g.elim
        | some ρ' =>
          simp only [eb] at g
          exact ⟨ρ, S1, W1, L, .tup ds, ρ', ok1, r1, by simp only [bindT]; exact eb, fun σ' L' ok' _ => g σ' H1 W1 L' ok' x1⟩
/-- stored from the right -/
theorem ss_parN (x : XC rc c k X sc N) {l : List (Str × Nat)} {ts es : List Expr} {ms : List E} {kt k2 : Nat} {pt pt2 pos : Pos} (ha : PA X es (tEs c ms)) (hz : ms.length ≤ 1000) (hl : ∀ p ∈ l, X.N[p.2]? = some p.1 ∧ X.env.scope.names.lookup p.1 = some .local) (hnd : (l.map (·.2)).Nodup) (hlen : es.length = l.length) (hm : ms.length = es.length)
    (hw : swappedStores [.Tuple ts kt pt] (.Tuple es k2 pt2) X.env = pure (some (l.map (·.1)))) : PS X (.Assign [.Tuple ts kt pt] (.Tuple es k2 pt2) pos) (tS c (.par ((l.map (·.2)).map B.v) ms)) :=
  PS.imp (ps_parN x.calm (by rw [x.hN]; exact x.nd) hl hnd ha hlen hw) fun D σ H z => by
    obtain ⟨ρ, S, W, L, ok, g⟩ := z
    simp only [evalS] at g
    refine ⟨ρ, S, W, L, ok, ?_⟩
    cases ev : evalEs c.X ms ρ S with
    | st => rw [ev] at g; exact g.elim
    | ex e d S' => rw [ev] at g; exact fun cls dx H' W' s x y => g cls dx σ H' W' L (ok.ext s x) x y
    | ok as S1 =>
      have hln := evalEs_len ev
      rw [ev] at g
      simp only [R.sr] at g
      cases ed : vals as with
      | none => rw [ed] at g; exact g.elim
      | some ds =>
        rw [ed] at g
        intro vs H1 W1 s1 x1 r1
        have ok1 := ok.ext s1 x1
        have e1 := r1.length
        cases eb : bindTs ((l.map (·.2)).map B.v) ds ρ with
        | none => simp only [eb] at g; exact g.elim
        | some ρ' =>
          simp only [eb] at g
          obtain ⟨L', ok'⟩ := bindTs_setL ok1 eb (r1.vals ed)
          refine ⟨by rw [← e1, hln, hm, hlen, List.length_map], ?_, g _ H1 W1 L' ok' x1⟩
          rw [← e1, hln]
          exact Nat.le_trans hz (Nat.le_of_lt (small1000 (n := 1000) (Nat.le_refl _)))
end
end Mn

set_option maxRecDepth 100000
set_option maxHeartbeats 1000000
/-! loops -/
namespace Mn
open PySem PySem.Spec PyProof.Rows L2
section
variable {rc : RC} {c : Cc} {k : Nat} {X : L2.Cx} {sc : Scope} {N : List Str} {rec : Rec}
/-- for t in it: b -/
theorem ss_for (x : XC rc c k X sc N) {tg it : Expr} {b : List Stmt} {mi : E} {bt : B} {ms : List Mn.S} {pos : Pos} (hp : PassesOwn (model X.prog X.w) X.A X.env X.xe) (hi : PI X tg it (tIt c mi)) (hg : PG X tg (tBd c bt)) (hb : PSs X b (tSs c ms)) (hs : ∀ y, foldedSetIterable it X.env y = pure y) :
    PS X (.For tg it b [] pos) (tS c (.sfor bt mi ms)) :=
  PS.imp (ps_for hp x.calm hi hg hb hs) fun D σ H z => by
    obtain ⟨ρ, S, W, L, ok, g⟩ := z
    simp only [evalS] at g
    refine ⟨ρ, S, W, L, ok, GoodS.expr (RL := fun W _ a J => ∃ l, a = .val (.lst l) ∧ ItOk c.G W.F l J) ok g fun a S1 J H1 W1 s1 x1 ok1 r1 g1 => ?_⟩
    obtain ⟨l, rfl, jt⟩ := r1
    simp only at g1
    refine ⟨fun i m σ H => m = l.length - i ∧ i ≤ l.length ∧ ∃ ρ S W L, Ok c.G W H ρ σ S L ∧ Xt W1 H1 W H ∧ GoodS c W1 H1 (forL (fun d ρ S => match bindT bt d ρ with | some ρ1 => evalSs c.X ms ρ1 S | none => .st) (l.drop i) ρ S) D, ⟨_, rfl, Nat.zero_le _, ρ, S1, W1, L, ok1, Xt.refl, g1⟩, ?_⟩
    rintro i m σ H ⟨rfl, hi, ρ, S, W, L, ok, xt, g⟩
    by_cases hlt : i < l.length
    · refine .inr ?_
      rw [List.drop_eq_getElem_cons hlt] at g
      obtain ⟨_, jg⟩ := jt i W H S xt.f ok.s
      obtain ⟨go, jy⟩ := jg l[i] (List.getElem?_eq_getElem hlt)
      refine ⟨go, fun σ H => ∃ ρ S W L, Ok c.G W H ρ σ S L ∧ Xt W1 H1 W H ∧ GoodS c W1 H1 (forL (fun d ρ S => match bindT bt d ρ with | some ρ1 => evalSs c.X ms ρ1 S | none => .st) (l.drop (i + 1)) ρ S) D, fun σ' H' z => ⟨l.length - (i + 1), by omega, rfl, hlt, z⟩, fun y H' yy => ?_⟩
      obtain ⟨W', s', x', r'⟩ := jy y H' yy
      have ok' := ok.ext s' x'
      simp only [forL] at g
      cases eb : bindT bt l[i] ρ with
      | none => rw [eb] at g; exact g.elim
      | some ρ1 =>
        rw [eb] at g
        simp only at g
        refine ⟨ρ, S, W', L, l[i], ρ1, ok', r', eb, fun σ2 L2 ok2 _ => ⟨ρ1, S, W', L2, ok2, ?_⟩⟩
        have xt' := xt.trans x'
        cases ev : evalSs c.X ms ρ1 S with
        | nx ρ3 S3 => rw [ev] at g; exact fun σ3 H3 W3 L3 ok3 x3 => ⟨ρ3, S3, W3, L3, ok3, xt'.trans x3, g⟩
        | ct ρ3 S3 => rw [ev] at g; exact fun σ3 H3 W3 L3 ok3 x3 => ⟨ρ3, S3, W3, L3, ok3, xt'.trans x3, g⟩
        | bk ρ3 S3 => rw [ev] at g; exact fun σ3 H3 W3 L3 ok3 x3 => g σ3 H3 W3 L3 ok3 (xt'.trans x3)
        | rt a S3 => rw [ev] at g; exact fun v H3 W3 s3 x3 r3 => g v H3 W3 s3 (xt'.trans x3) r3
        | ex e d ρ3 S3 => rw [ev] at g; exact fun cls dx σ3 H3 W3 L3 ok3 x3 xr => g cls dx σ3 H3 W3 L3 ok3 (xt'.trans x3) xr
        | st => rw [ev] at g; exact g.elim
    · refine .inl ?_
      obtain ⟨js, _⟩ := jt i W H S xt.f ok.s
      rw [List.drop_of_length_le (by omega)] at g
      exact ⟨js (by omega), g σ H W L ok xt⟩
/-- while e: b -/
theorem ss_while (x : XC rc c k X sc N) {e : Expr} {b : List Stmt} {m : E} {ms : List Mn.S} {pos : Pos} (hp : PassesOwn (model X.prog X.w) X.A X.env X.xe) (he : PT X e (tTs c m)) (hb : PSs X b (tSs c ms)) : PS X (.While e b [] pos) (tS c (.swhile m ms)) :=
  PS.imp (ps_while hp he hb) fun D σ H z => by
    obtain ⟨ρ, S, W0, L, ok, g⟩ := z
    simp only [evalS] at g
    obtain ⟨r, hr⟩ : ∃ r, iter (turnW (evalE c.X m) (evalSs c.X ms)) .st (ρ, S) = r := ⟨_, rfl⟩
    rw [hr] at g
    have hne : r ≠ .st := fun z => by rw [z] at g; exact g
    obtain ⟨n, hn⟩ := iter_stuck hr hne
    obtain ⟨H0, hH0⟩ : ∃ H0, H0 = H := ⟨_, rfl⟩
    refine ⟨fun n σ H => ∃ ρ S W L, Ok c.G W H ρ σ S L ∧ Xt W0 H0 W H ∧ iterN (turnW (evalE c.X m) (evalSs c.X ms)) n (ρ, S) = some r, ⟨n, ρ, S, W0, L, ok, by rw [hH0]; exact Xt.refl, hn⟩, ?_⟩
    rw [← hH0] at g
    clear ok hn hr hH0 n
    rintro n σ H ⟨ρ, S, W, L, ok, xt, hn⟩
    cases n with
    | zero => cases hn
    | succ n =>
      simp only [iterN] at hn
      refine ⟨ρ, S, W, L, ok, ?_⟩
      cases ev : evalE c.X m ρ S with
      | st =>
        simp only [turnW, ev] at hn
        cases hn
        exact absurd rfl hne
      | ex e d S1 =>
        simp only [turnW, ev] at hn
        cases hn
        exact fun cls dx H1 W1 s1 x1 xr => g cls dx σ H1 W1 L (ok.ext s1 x1) (xt.trans x1) xr
      | ok a S1 =>
        have stuck : turnW (evalE c.X m) (evalSs c.X ms) (ρ, S) = .inr .st → False := fun z => by
          rw [z] at hn; cases hn; exact hne rfl
        cases a with
        | val d =>
          cases d with
          | bl t =>
            intro t' H1 W1 s1 x1 e1
            subst e1
            have ok1 := ok.ext s1 x1
            have xt1 := xt.trans x1
            cases t' with
            | false =>
              rw [if_neg (by simp)]
              simp only [turnW, ev] at hn
              cases hn
              exact g σ H1 W1 L ok1 xt1
            | true =>
              rw [if_pos rfl]
              refine ⟨fun σ' H' => ∃ ρ S W L, Ok c.G W H' ρ σ' S L ∧ Xt W0 H0 W H' ∧ iterN (turnW (evalE c.X m) (evalSs c.X ms)) n (ρ, S) = some r, fun σ' H' z => ⟨n, Nat.lt_succ_self _, z⟩, ρ, S1, W1, L, ok1, ?_⟩
              simp only [turnW, ev] at hn
              cases eb : evalSs c.X ms ρ S1 with
              | nx ρ3 S3 => rw [eb] at hn; exact fun σ3 H3 W3 L3 ok3 x3 => ⟨ρ3, S3, W3, L3, ok3, xt1.trans x3, hn⟩
              | ct ρ3 S3 => rw [eb] at hn; exact fun σ3 H3 W3 L3 ok3 x3 => ⟨ρ3, S3, W3, L3, ok3, xt1.trans x3, hn⟩
              | bk ρ3 S3 => rw [eb] at hn; cases hn; exact fun σ3 H3 W3 L3 ok3 x3 => g σ3 H3 W3 L3 ok3 (xt1.trans x3)
              | rt a S3 => rw [eb] at hn; cases hn; exact fun v H3 W3 s3 x3 r3 => g v H3 W3 s3 (xt1.trans x3) r3
              | ex e d ρ3 S3 => rw [eb] at hn; cases hn; exact fun cls dx σ3 H3 W3 L3 ok3 x3 xr => g cls dx σ3 H3 W3 L3 ok3 (xt1.trans x3) xr
              | st => rw [eb] at hn; cases hn; exact absurd rfl hne
          | _ => exact (stuck (by simp only [turnW, ev])).elim
        | _ => exact (stuck (by simp only [turnW, ev])).elim
end
end Mn

set_option maxRecDepth 100000
set_option maxHeartbeats 1000000
/-! own exceptions: C(B), B(Exception); __init__ says B.__init__(self, r), then self.f = r -/
namespace PySem
namespace MnX
open PySem.W PySem.Calls PyProof.Rows PySem.HandSPX Builtin Builtin.ObjectAttr
section
variable {prog : Program} {w : World} {A : Around} {E : Value → Shared → Prop} {R : Result → Shared → Prop} {hp : Heap} {g : Array GenState} {d : Drawn} {t : Nat} {os : OsState}
abbrev tail2 (B : Addr) : List Value := .ref B :: ESX.exTail
theorem osa2 {K : W.Frag} {name : Str} {tk : Tok} {v : Value} {x C B : Addr} {fv : Array Value} {cd : ClassData}
    (X : K.In hp) (hx : hp.get? x = some { cls := .ref C, data := .fields fv }) (hcd : W.clsIn K C = some cd) (hm : cd.mro = .ref C :: tail2 B) (hh : cd.hasDict = true) (ha : W.findIn K (.ref C) name = some none)
    (hq : ∀ h' tk' dx, (∀ b o, b ≠ x → hp.get? b = some o → h'.get? b = some o) → hp.objs.size ≤ dx → dx ≠ x → h'.get? x = some { cls := .ref C, dict := some dx, data := .fields fv } →
      h'.Ns1 dx (fun y => if y = name then some v else none) → R (.ok (.ret .none)) ⟨h', g, d, tk', os⟩) :
    codeAny (model prog w) A (.call (.builtin "object.__setattr__") ⟨[.ref x, .str name tk, v], []⟩) R ⟨hp, g, d, t, os⟩ := by
  have I : W.InstAt hp x { cls := .ref C, data := .fields fv } C none := ⟨hx, rfl, rfl, trivial⟩
  have hxs : x ≠ hp.objs.size := Nat.ne_of_lt (Heap.lt_size hx)
  have SF := F.store_object
  have hob : W.mroIn K C (.type "object") = some true := by
    unfold W.mroIn
    rw [hcd, Option.bind_some, hm, if_neg (show ¬ (List.isEmpty (Value.ref C :: tail2 B) = true) from Bool.false_ne_true), List.contains_cons, List.contains_cons]
    rw [show (ESX.exTail.contains (.type "object")) = true by decide +kernel, Bool.or_true, Bool.or_true]
  have sub : W.Looks (model prog w) hp (isInstance (.ref x) (.type "object")) true := I.type.andThen (W.looks_mroIn X hob)
  refine codeAny_call_builtin SF.slot.plain SF.entry (@W.check_slot (model prog w) _ _ ⟨hp, g, d, t, os⟩ "object.__setattr__" "object" "__setattr__" (.ref x) [.str name tk, v] [] _ SF.kind SF.split sub (SF.args (.ref x) (.str name tk) v) ?_)
  have hmr : W.Looks (model prog w) hp (mroOf (.ref C)) cd.mro := (W.looks_clsIn X hcd).andThen .now
  have L3 : W.Looks (model prog w) hp (storeTaker? none) none := .now
  have hpass : refuseLoop (.ref x) "__setattr__" cd.mro = pure () := by
    rw [hm, refuseLoop_ref, refuseLoop_ref]
    exact F.store_Exception.passes _
  rw [W.osa_eq, refuse_eq]
  refine wpAny_bind (wpAny_bind (I.type.at (wpAny_bind (hmr.at ?_))))
  rw [hpass]
  refine wpAny_pure (wpAny_bind (I.type.at (wpAny_bind ((W.looks_findIn X ha).at (wpAny_bind (L3.at ?_))))))
  show wpAny _ _ (storeInOwnDict (.ref x) (.ref C) (.str name tk) name v false) _ _ _
  have hcls : W.Looks (model prog w) hp (classData C) cd := W.looks_clsIn X hcd
  obtain ⟨nm, bs, mro, ns, qn, hd, sn, sb, ab, col, del⟩ := cd
  dsimp only at hh
  subst hh
  unfold storeInOwnDict ownDictForStores
  repeat (first | with_reducible refine HandSPX.store_in_new ?_ ?_ | with_reducible refine wpAny_loadPart_at hx ?_ | with_reducible refine hcls.at ?_ | wp_step)
  · exact ⟨_, #[], _, (Heap.get?_update_ne _ _ _ _ hxs.symm).trans (Heap.get?_push_at rfl rfl), rfl, fun e he => absurd he (by simp), fun _ => rfl⟩
  · intro h' tk' hn' hs
    have hx₁ : (hp.push { cls := .type "dict", data := .dict #[] }).get? x = some { cls := .ref C, data := .fields fv } := Heap.get?_push_of_some _ hx
    refine hq h' tk' hp.objs.size (fun b o hb ho => ?_) (Nat.le_refl _) hxs.symm ?_ hn'
    · exact (hs.2 b (Nat.ne_of_lt (Heap.lt_size ho))).trans ((Heap.get?_update_ne _ _ _ _ hb).trans (Heap.get?_push_of_some _ ho))
    · exact (hs.2 x hxs).trans (Heap.get?_update_self _ hx₁ rfl)
end
/-! ### the text of __init__ -/
def iA (pn : Str) (p1 p2 : Pos) : Arguments := { posonlyargs := [], args := [{ arg := "self", annotation := none, pos := p1 }, { arg := pn, annotation := none, pos := p2 }], vararg := none, kwonlyargs := [], kw_defaults := [], kwarg := none, defaults := [] }
def iB (pn : Str) (a1 a2 a3 a4 a5 a6 q1 q2 q3 q4 : Pos) : List Stmt := [.Expr (.Call (.Attribute (.Name "Fault" a1) "__init__" a2) [.Name "self" a3, .Name pn a4] [] a5) a6, .Assign [.Attribute (.Name "self" q1) pn q2] (.Name pn q3) q4]
def iS (pn : Str) : Scope := { kind := .function, names := [("self", .local), (pn, .local), ("Fault", .globalImplicit)], isGenerator := false, isCoroutine := false, more := [] }

/-- what the written part says of such a class, at C, of its base, at B, of its __init__, at fI -/
structure ExcTxt (K : Frag) (mg : Str → Option Value) (pn qual : Str) (C B fI : Addr) : Prop where
  hpn : pn = "reason" ∨ pn = "at"
  cls : ∃ nm q N bs sn sub ab col dd k0 k1 k2 k3 k5, K.lookup C = some (excClassObj nm q C N bs (tail2 B) true sn sub ab col dd k0 k1 k2 k3 k5 "Exception.__new__")
  sa : findIn K (.ref C) "__setattr__" = some (some (.builtin "object.__setattr__"))
  ga : findIn K (.ref C) "__getattribute__" = some (some (.builtin "BaseException.__getattribute__"))
  gg : findIn K (.ref C) "__getattr__" = some none
  noN : findIn K (.ref C) pn = some none
  iC : findIn K (.ref C) "__init__" = some (some (.ref fI))
  tI : typeIn K (.ref fI) = some (.type "function")
  kC : keepIn K (.ref C) = true
  exC : subIn K (.ref C) (.type "BaseException") = some true
  tyC : typeIn K (.ref C) = some (.type "type")
  hdC : hasDictIn K C = true
  gB : mg "Fault" = some (.ref B)
  gaB : specialIn K (.ref B) "__getattribute__" = some (some (.builtin "type.__getattribute__"))
  rdB : readsIn K B (.type "type") = true
  fB : findCls K (.ref B) (.type "type") "__init__" = some (.val (.builtin "Exception.__init__"))
  fn : ∃ (oc : Value) (od : Option Addr) (kV doc pm : Value) (an : Option Addr) (cdv ct : Value) (osl : Array (Option Value)) (p1 p2 a1 a2 a3 a4 a5 a6 q1 q2 q3 q4 : Pos),
    K.lookup fI = some ⟨oc, od, .func (fnOf "__init__" qual (iA pn p1 p2) (iB pn a1 a2 a3 a4 a5 a6 q1 q2 q3 q4) (iS pn) .none kV doc pm an cdv ct), osl⟩ ∧ codeIn K cdv qual = true ∧ (a2.endLine == a5.line) = true
theorem one_size (v : Value) : [v].length ≤ sizeLine := by
  rw [sizeLine_eq]
  exact (by decide : 1 ≤ 16777216)
theorem tail_eq (B : Addr) : ∀ Y : String, (tail2 B).contains (.type Y) = ESX.exTail.contains (.type Y) := fun Y => by
  rw [List.contains_cons, show ((Value.type Y) == (Value.ref B)) = false from rfl, Bool.false_or]
theorem ldC {M : Model} {s : Shared} {name : Str} {scope : Scope} {L a : Addr} {cd : Value} {m : Str → Option Value} {x : Str} {pos : Pos} {v : Value} {Q : Value → Shared → Prop} {A : Around} {E : Value → Shared → Prop} (hn : s.heap.Ns L m) (hv : m x = some v) (h : Q v s)
    (hk : scope.kind = .function := by rfl) (hl : (envOfC name scope L a cd).kindOf x = some .local := by rfl) (hd : (x == ("__debug__" : Str)) = false := by decide) :
    wpAny M A (eval (.Name x pos) (envOfC name scope L a cd)) Q E s := wpAny_Name (wpAny_loadName_local hk hl hn hv h) hd
/-- what __init__ leaves of a fresh exception at x -/
structure InitEnd (h h' : Heap) (x C dx t1 : Addr) (pn : Str) (v : Value) : Prop where
  keep : ∀ b o, b ≠ x → h.get? b = some o → h'.get? b = some o
  obj : h'.get? x = some { cls := .ref C, dict := some dx, data := .fields #[.ref t1, .none, .none, .none, .bool false, .none] }
  dbig : h.objs.size ≤ dx
  dne : dx ≠ x
  ns : h'.Ns1 dx (fun y => if y = pn then some v else none)
section
variable {prog : Program} {w : World} {A : Around} {E : Value → Shared → Prop} {R : Result → Shared → Prop} {s : Shared} {K : Frag} {mg : Str → Option Value} {C B fI : Addr} {pn qual : Str}
theorem x_init (T : ExcTxt K mg pn qual C B fI) {x t0 : Addr} {v : Value} (X : K.In s.heap) (hG : s.heap.Ns mainGlobals mg) (hlim : s.heap.NoLimit) (hx : s.heap.get? x = some (excO C t0)) (hnx : K.lookup x = none) (hxg : x ≠ mainGlobals) (hroom : A.depth + 2 < recursionLimit)
    (hq : ∀ h' tk dx t1, InitEnd s.heap h' x C dx t1 pn v → R (.ok (.ret .none)) { s with heap := h', toks := tk }) :
    codeAny (model prog w) A (.call (.ref fI) ⟨[.ref x, v], []⟩) R s := by
  obtain ⟨oc, od, kV, doc, pm, an, cdv, ct, osl, p1, p2, a1, a2, a3, a4, a5, a6, q1, q2, q3, q4, ho, hcd, hline⟩ := T.fn
  obtain ⟨nm, q, N, bs, sn, sub, ab, col, dd, k0, k1, k2, k3, k5, hC⟩ := T.cls
  have hcl : clsIn K C = some { name := nm, bases := bs, mro := .ref C :: tail2 B, ns := N, qualname := q, hasDict := true, slotNames := sn, subclasses := sub, abstract := ab, collection := col, hasDel := false } := by unfold clsIn; rw [hC] <;> rfl
  have TT := T
  rcases T.hpn with rfl | rfl
  · refine Att.call_fn (binds := [("self", .ref x), ("reason", v)]) X hlim ho hcd (by omega) (BindsTo.of_eq (by first | rfl | with_unfolding_all rfl)) (by first | rfl | decide | with_unfolding_all rfl) (fun s₁ IC => ?_) rfl rfl rfl
    obtain ⟨h₁, tk₁, rfl⟩ := IC.toInCall.same
    have k : ∀ b o, s.heap.get? b = some o → h₁.get? b = some o := IC.toInCall.keep
    have hn := IC.toInCall.ns
    have hxL : s.heap.objs.size ≠ x := Nat.ne_of_gt (Heap.lt_size hx)
    have X₁ : K.In h₁ := X.keeps k
    have hx₁ := k _ _ hx
    have hG₁ : h₁.Ns mainGlobals mg := hG.keeps k
    show wpAny _ _ (execs _ _) _ _ _
    refine wpAny_execs_cons (wpAny_Expr ?_ (by rfl) (by rfl))
    refine methodCall_KW (pl := do return (← importBound (.Name "Fault" a1) (envOfC qual (iS "reason") s.heap.objs.size fI cdv)).getD true) ?_ (L2.mcall_of rfl fun ov => ?_)
    · refine Name_function_global (by rfl) (by rfl) (loadGlobal_global hG₁ T.gB ?_)
      refine method_cls X₁ T.gaB (cls_value X₁ T.rdB T.fB (by decide +kernel) ?_)
      refine callWith_method1 (Calls.spliced_cons (ldC (v := .ref x) hn (by first | rfl | with_unfolding_all rfl | kernel_rfl) (Calls.spliced_cons (ldC (v := v) hn (by first | rfl | with_unfolding_all rfl | kernel_rfl) (spliced_nil ?_)))))
      refine wpAny_call (init_base F.excBase_Exception (tail_eq B) (X₁ _ _ hC) hx₁ (one_size v) fun h₂ t1 k₂ hx₂ => ?_)
      have X₂ : K.In h₂ := fun a o e => k₂ a o (fun z => by rw [z, hnx] at e; cases e) (X₁ a o e)
      have hn₂ := Heap.Ns.at hn (h' := h₂) fun o e => k₂ _ _ hxL e
      show wpAny _ _ (execs _ _) _ _ _
      refine wpAny_execs_cons (plainObj_wpAny_Assign_Attribute ?_)
      refine ldC (v := v) hn₂ (by first | rfl | with_unfolding_all rfl | kernel_rfl) (ldC (v := .ref x) hn₂ (by first | rfl | with_unfolding_all rfl | kernel_rfl) ?_)
      refine set_plain X₂ (ox := excO C t1) (od := none) ⟨hx₂, rfl, rfl, trivial⟩ TT.sa ?_
      refine osa2 X₂ hx₂ hcl rfl rfl TT.noN (fun h₃ tk₃ dx k₃ dn dne hx₃ hn₃ => ?_)
      show wpAny _ _ (execs _ _) _ _ _
      have z : s.heap.objs.size < h₂.objs.size := hn₂.lt
      exact wpAny_execs_nil (hq h₃ tk₃ dx t1 ⟨fun b o hb e => k₃ b o hb (k₂ b o hb (k b o e)), hx₃, Nat.le_of_lt (Nat.lt_of_lt_of_le z dn), dne, hn₃⟩)
    · unfold methodCall calleeOf methodCallPos
      rw [show methodCallForm ([Expr.Name "self" a3, Expr.Name "reason" a4].length + ([] : List Keyword).length) (backTo a5 (starEach [Expr.Name "self" a3, Expr.Name "reason" a4] (envOfC qual (iS "reason") s.heap.objs.size fI cdv))) (backToKw a5 (keywordEach [] (envOfC qual (iS "reason") s.heap.objs.size fI cdv))) = true from rfl, hline]
      rfl
  · refine Att.call_fn (binds := [("self", .ref x), ("at", v)]) X hlim ho hcd (by omega) (BindsTo.of_eq (by first | rfl | with_unfolding_all rfl)) (by first | rfl | decide | with_unfolding_all rfl) (fun s₁ IC => ?_) rfl rfl rfl
    obtain ⟨h₁, tk₁, rfl⟩ := IC.toInCall.same
    have k : ∀ b o, s.heap.get? b = some o → h₁.get? b = some o := IC.toInCall.keep
    have hn := IC.toInCall.ns
    have hxL : s.heap.objs.size ≠ x := Nat.ne_of_gt (Heap.lt_size hx)
    have X₁ : K.In h₁ := X.keeps k
    have hx₁ := k _ _ hx
    have hG₁ : h₁.Ns mainGlobals mg := hG.keeps k
    show wpAny _ _ (execs _ _) _ _ _
    refine wpAny_execs_cons (wpAny_Expr ?_ (by rfl) (by rfl))
    refine methodCall_KW (pl := do return (← importBound (.Name "Fault" a1) (envOfC qual (iS "at") s.heap.objs.size fI cdv)).getD true) ?_ (L2.mcall_of rfl fun ov => ?_)
    · refine Name_function_global (by rfl) (by rfl) (loadGlobal_global hG₁ T.gB ?_)
      refine method_cls X₁ T.gaB (cls_value X₁ T.rdB T.fB (by decide +kernel) ?_)
      refine callWith_method1 (Calls.spliced_cons (ldC (v := .ref x) hn (by first | rfl | with_unfolding_all rfl | kernel_rfl) (Calls.spliced_cons (ldC (v := v) hn (by first | rfl | with_unfolding_all rfl | kernel_rfl) (spliced_nil ?_)))))
      refine wpAny_call (init_base F.excBase_Exception (tail_eq B) (X₁ _ _ hC) hx₁ (one_size v) fun h₂ t1 k₂ hx₂ => ?_)
      have X₂ : K.In h₂ := fun a o e => k₂ a o (fun z => by rw [z, hnx] at e; cases e) (X₁ a o e)
      have hn₂ := Heap.Ns.at hn (h' := h₂) fun o e => k₂ _ _ hxL e
      show wpAny _ _ (execs _ _) _ _ _
      refine wpAny_execs_cons (plainObj_wpAny_Assign_Attribute ?_)
      refine ldC (v := v) hn₂ (by first | rfl | with_unfolding_all rfl | kernel_rfl) (ldC (v := .ref x) hn₂ (by first | rfl | with_unfolding_all rfl | kernel_rfl) ?_)
      refine set_plain X₂ (ox := excO C t1) (od := none) ⟨hx₂, rfl, rfl, trivial⟩ TT.sa ?_
      refine osa2 X₂ hx₂ hcl rfl rfl TT.noN (fun h₃ tk₃ dx k₃ dn dne hx₃ hn₃ => ?_)
      show wpAny _ _ (execs _ _) _ _ _
      have z : s.heap.objs.size < h₂.objs.size := hn₂.lt
      exact wpAny_execs_nil (hq h₃ tk₃ dx t1 ⟨fun b o hb e => k₃ b o hb (k₂ b o hb (k b o e)), hx₃, Nat.le_of_lt (Nat.lt_of_lt_of_le z dn), dne, hn₃⟩)
    · unfold methodCall calleeOf methodCallPos
      rw [show methodCallForm ([Expr.Name "self" a3, Expr.Name "at" a4].length + ([] : List Keyword).length) (backTo a5 (starEach [Expr.Name "self" a3, Expr.Name "at" a4] (envOfC qual (iS "at") s.heap.objs.size fI cdv))) (backToKw a5 (keywordEach [] (envOfC qual (iS "at") s.heap.objs.size fI cdv))) = true from rfl, hline]
      rfl

/-- a made exception -/
structure OwnMade (h h' : Heap) (e C d : Addr) (pn : Str) (v : Value) : Prop where
  keep : ∀ b o, h.get? b = some o → h'.get? b = some o
  new : h.objs.size ≤ e
  obj : ∃ oe vs, h'.get? e = some oe ∧ oe.cls = .ref C ∧ oe.dict = some d ∧ oe.data = .fields vs ∧ vs[1]? = some .none
  dbig : h.objs.size ≤ d
  dne : d ≠ e
  ns : h'.Ns1 d (fun y => if y = pn then some v else none)
theorem x_made (T : ExcTxt K mg pn qual C B fI) {v : Value} (X : K.In s.heap) (hG : s.heap.Ns mainGlobals mg) (hlim : s.heap.NoLimit) (hroom : A.depth + 3 < recursionLimit)
    (hq : ∀ h' tk e d, OwnMade s.heap h' e C d pn v → R (.ok (.ret (.ref e))) { s with heap := h', toks := tk }) :
    codeAny (model prog w) A (.call (.ref C) ⟨[v], []⟩) R s := by
  obtain ⟨nm, q, N, bs, sn, sub, ab, col, dd, k0, k1, k2, k3, k5, hC⟩ := T.cls
  obtain ⟨hp, g, dr, tk, os⟩ := s
  have k : ∀ b o, hp.get? b = some o → ((hp.push (kdv_tup [v])).push (excO C hp.objs.size)).get? b = some o := fun b o e => Heap.get?_push_of_some _ (Heap.get?_push_of_some _ e)
  have hget : ((hp.push (kdv_tup [v])).push (excO C hp.objs.size)).get? (hp.objs.size + 1) = some (excO C hp.objs.size) := by heap_get
  have hnx : K.lookup (hp.objs.size + 1) = none := by
    cases e : K.lookup (hp.objs.size + 1) with
    | none => rfl
    | some o =>
      have z : hp.get? (hp.objs.size + 1) = some o := X _ _ e
      exact absurd (Nat.lt_of_succ_lt (Heap.lt_size z)) (Nat.lt_irrefl _)
  have hxg : hp.objs.size + 1 ≠ mainGlobals := fun z => by
    have := hG.lt
    rw [← z] at this
    exact absurd (Nat.lt_of_succ_lt this) (Nat.lt_irrefl _)
  refine call_own F.excBase_Exception (tail_eq B) (X _ _ hC) (looks_findIn X T.iC) (fun self => bind_fn X self T.tI) (one_size v) ?_
  refine x_init (s := ⟨(hp.push (kdv_tup [v])).push (excO C hp.objs.size), g, dr, tk, os⟩) T (X.keeps k) (hG.keeps k) (hlim.keeps k) hget hnx hxg ?_ fun h' tk' dx t1 ⟨k', hx, dn, dne, hns⟩ => ?_
  · show A.depth + 1 + 2 < recursionLimit
    exact hroom
  · have old : ∀ b o, hp.get? b = some o → h'.get? b = some o := fun b o e => k' b o (Nat.ne_of_lt (Nat.lt_succ_of_lt (Heap.lt_size e))) (k b o e)
    have z : hp.objs.size + 1 + 1 ≤ dx := by
      first
        | (simpa only [Heap.size_push] using dn)
        | exact dn
        | (have q := dn; rw [Heap.size_push, Heap.size_push] at q; exact q)
    exact ⟨rfl, hq h' tk' (hp.objs.size + 1) dx ⟨old, Nat.le_succ _, ⟨_, _, hx, rfl, rfl, rfl, rfl⟩, Nat.le_trans (Nat.le_trans (Nat.le_succ _) (Nat.le_succ _)) z, dne, hns⟩⟩
end
end MnX
end PySem
namespace Mn
open PySem PySem.Spec PyProof.Rows L2
theorem relO_one {v : V} {v' : Value} {pn : Str} (r : RelV v v') (f : Str) : RelO (List.lookup f [(pn, v)]) (if f = pn then some v' else none) := by
  by_cases hw : f = pn
  · subst hw
    rw [if_pos rfl]
    have q : List.lookup f [(f, v)] = some v := by simp [List.lookup]
    rw [q]
    exact r
  · rw [if_neg hw]
    have qw : (f == pn) = false := by simpa using hw
    have q2 : List.lookup f [(pn, v)] = none := by simp [List.lookup, qw]
    rw [q2]
    trivial
section
variable {X : L2.Cx} {C B fI : Addr} {pn qual : Str}
/-- C(e) -/
def tMkX (C : Addr) (pn : Str) (ta : TE) : L2.St → Hp → XK → Prop := fun σ H Q => ta σ H fun w H1 => ∃ v, [w] = [v] ∧ ∀ d, H1 d = none → Q (.ref C) (some d) (upd H1 d (.xd [(pn, v)]))
theorem pmk_x {y : Str} {a : Expr} {ta : TE} {p pos : Pos} {k : Nat} (T : PySem.MnX.ExcTxt X.K X.mg pn qual C B fI) (hr : Room k X.A) (ha : PE X a ta) (hm : X.mg y = some (.ref C)) (hg : Gl X y) (hd : (y == ("__debug__" : Str)) = false) (hp : Pl a) :
    PMk X (.Call (.Name y p) [a] [] pos) (tMkX C pn ta) := by
  intro pins s σ H Q I h
  refine wpAny_Call_Name_kw (ld_glob I hg hm ?_ hd)
  have hA : PA X [a] (fun σ H P => ta σ H fun v H1 => P [v] H1) := PA.imp (pa_cons ha pa_nil (hp _ _)) fun σ H P q => q
  refine PySem.W.callWith_K (h₀ := X.base) I.ok.mod.kin T.kC (thn (hA.run pos pins s σ H (fun vs H1 => ∃ v, vs = [v] ∧ ∀ d, H1 d = none → Q (.ref C) (some d) (upd H1 d (.xd [(pn, v)]))) I h) fun us s1 hh => ?_) (hp _ _) (by rfl)
  obtain ⟨vs, H1, I1, r1, v, ev, q1⟩ := hh
  subst ev
  refine ⟨I1.kIn, ?_⟩
  cases r1 with
  | cons rv rn =>
    rename_i v' us'
    cases rn
    show wpAny _ _ (call (.ref C) [v']) _ _ _
    have hlim := I1.nolimit
    have hG := I1.mod.glob.keeps I1.bk
    obtain ⟨hp, g, dr, tk, os⟩ := s1
    refine wpAny_call (PySem.MnX.x_made T I1.kIn hG hlim (by have := hr.dp; omega) fun h' tk' e d M => ?_)
    show MkP X pins σ Q (.ref e) ⟨h', g, dr, tk', os⟩
    obtain ⟨oe, fv, hoe, hc, hd, hdat, h1⟩ := M.obj
    have hns := M.ns
    obtain ⟨G', g1, g2⟩ := restrict h' fun b => decide (b ≠ e)
    have gk : ∀ b, b ≠ e → G'.get? b = h'.get? b := fun b hb => g1 b (decide_eq_true hb)
    have ge : G'.get? e = none := g2 e (by simp)
    have old : ∀ b o, hp.get? b = some o → G'.get? b = some o := fun b o q => (gk b (Nat.ne_of_lt (Nat.lt_of_lt_of_le (Heap.lt_size q) M.new))).trans (M.keep b o q)
    have ob : ObjOk X.prog X.w (upd H1 d (.xd [(pn, v)])) G' d (.xd [(pn, v)]) :=
      ⟨_, hns.at (fun o q => (gk d M.dne).trans q), fun f => relO_one rv f⟩
    have J : Inv X pins σ (upd H1 d (.xd [(pn, v)])) ⟨G', g, dr, tk', os⟩ := I1.laid (t' := tk') old M.dbig ob
    refine ⟨e, oe, fv, ⟨G', g, dr, tk', os⟩, _, .ref C, some d, rfl, J, fun b o q => ?_, ge, hoe, ⟨hc, hd⟩, hdat, h1, ?_, rfl, I1.bare, raises_own T.exC T.tyC, q1 d (I1.hok.fresh M.dbig)⟩
    · by_cases hb : b = e
      · have q' : G'.get? b = some o := q
        rw [hb, ge] at q'; cases q'
      · exact (gk b hb).symm.trans q
    · rw [upd_ne (Ne.symm M.dne)]
      exact I1.hok.fresh M.new

end
section
variable {rc : RC} {c : Cc} {k : Nat} {X : L2.Cx} {sc : Scope} {N : List Str}
/-- raise C(e) -/
theorem ss_raise (x : XC rc c k X sc N) {n : Nat} {C B fI : Addr} {qual y : Str} {a : Expr} {m : E} {p pos pos2 : Pos} (T : PySem.MnX.ExcTxt X.K X.mg (c.G.xf n) qual C B fI) (hC : c.G.exA n = some C) (ha : PE X a (tE c m)) (hm : X.mg y = some (.ref C)) (hg : Gl X y) (hd : (y == ("__debug__" : Str)) = false) (hp : Pl a) :
    PS X (.Raise (some (.Call (.Name y p) [a] [] pos)) none pos2) (tS c (.raise n m)) :=
  PS.imp (ps_raise x.calm x.tk (pmk_x T x.room ha hm hg hd hp)) fun D σ H z => by
    obtain ⟨ρ, S, W, L, ok, g⟩ := z
    simp only [evalS] at g
    refine ⟨ρ, S, W, L, ok, GoodS.expr (RL := RA c.G) ok g fun a S1 v H1 W1 s1 x1 ok1 r1 g1 => ?_⟩
    cases a with
    | val d =>
      refine ⟨v, rfl, fun dx hdx => ?_⟩
      have hfp : dx ∉ W1.fp := fun z => by
        obtain ⟨o, e⟩ := s1.st.live dx z
        rw [hdx] at e; cases e
      exact g1 (.ref C) (some dx) σ _ W1 L (ok1.ext (s1.other (s1.dead hdx) hfp) (Xt.refl.other hdx)) (Xt.refl.other hdx) ⟨C, dx, v, hC, rfl, rfl, upd_same, r1⟩
    | _ => exact g1.elim
end
end Mn

set_option maxRecDepth 100000
set_option maxHeartbeats 1000000
/-! try with several clauses, with and without a name -/
namespace Mn
open PySem PySem.Spec PyProof.Rows L2
/-- the ends behind a clause's name -/
def endAs : Option Nat → Ends → Ends
  | none, D => D
  | some i, D => { nx := fun σ' H' => D.nx (σ'.set i none) H', rt := D.rt, bk := fun σ' H' => D.bk (σ'.set i none) H', ct := fun σ' H' => D.ct (σ'.set i none) H' }
def startAs : Option Nat → Addr → L2.St → L2.St
  | none, _, σ => σ
  | some i, a, σ => σ.set i (some (.ref a))
abbrev Clause := Value × Option Nat × (Addr → Value → Option Addr → TS)
def wMix (K : PySem.W.Frag) (Wout : WX) (D : Ends) : List Clause → WX
  | [] => Wout
  | (c, o, ts) :: r => fun cls d σ H => ∃ b, PySem.W.exmOne K cls c = some b ∧ (b = true → ∀ a, H a = none → ts a cls d (endAs o D) (startAs o a σ) H) ∧ (b = false → wMix K Wout D r cls d σ H)
def NameAs (X : L2.Cx) : Option Str → Option Nat → Prop
  | none, none => True
  | some n, some i => X.N[i]? = some n ∧ X.env.kindOf n = some .local
  | _, _ => False
inductive HdMix (X : L2.Cx) : List ExceptHandler → List Clause → Prop
  | nil : HdMix X [] []
  | cons {x : Str} {c : Value} {o : Option Nat} {no : Option Str} {ts : Addr → Value → Option Addr → TS} {b₀ : Stmt} {suite : List Stmt} {np pos' : Pos} {hds : List ExceptHandler} {l : List Clause} (hc : Names X x c) (hn : NameAs X no o)
      (hsu : ∀ (a : Addr) (oe : Obj) (cls : Value) (d : Option Addr) (pn : List (Addr × Obj)), Zc cls d oe → (∃ vs, oe.data = .fields vs) → PSs (X.suite a ((a, oe) :: pn)) (b₀ :: suite) (ts a cls d)) (r : HdMix X hds l) :
      HdMix X (.ExceptHandler (some (.Name x np)) no (b₀ :: suite) pos' :: hds) ((c, o, ts) :: l)
section
variable {X : L2.Cx} {body : List Stmt} {h₀ : ExceptHandler} {hds : List ExceptHandler} {l : List Clause} {pos : Pos} {tb : WX → TS} {Wout : WX}
theorem ps_try_mix (hs : X.stack = X.env :: X.outer) (hf : X.env.frame = some X.env.locals) (hN : X.N.Nodup) (tk : Takes X Wout)
    (hb : ∀ (W : WX) (pn : List (Addr × Obj)) (xe : Value → Shared → Prop), Takes (X.tr pn xe) W → PassesOwn (model X.prog X.w) X.A X.env xe → PSs (X.tr pn xe) body (tb W))
    (hh : HdMix X (h₀ :: hds) l) : PS X (.Try body (h₀ :: hds) [] [] pos) (fun D σ H => tb (wMix X.K Wout D l) D σ H) := by
  refine ⟨fun pins s σ H D I h => ?_⟩
  have ok := I.ok
  have hfr : X.A.frames = some (X.env :: X.outer) := by rw [ok.frames, hs]
  refine wpAny_Try_except ?_
  refine wpAny_mono ((hb (wMix X.K Wout D l) (X.pn ++ pins) (fun e s₁ => wpAny (model X.prog X.w) X.A (noteFrame e X.env) (fun _ s₂ => wpAny (model X.prog X.w) X.A (setFlight e none) (fun _ s₃ =>
    wpAny (model X.prog X.w) X.A (handleBy e X.env (h₀ :: hds)) (SP X pins D) X.xe s₃) X.xe s₂) X.xe s₁) (fun u s' xx => ?_) PassesOwn.looking).run [] s σ H D (I.toTry _) h) (fun f s1 hsp => ?_) (fun e s1 he => he)
  · obtain ⟨a, B, sI, pins', σ', H', cls, d, rfl, J', nb, up, sky, na, os, ag, w⟩ := xx
    have J : Inv X pins σ' H' sI := J'.ofTry ok
    have sky' : Sky B (X.env :: X.outer) a (Zc cls d) X.env.locals s'.heap := by rw [← hs]; exact sky
    show wpAny (model X.prog X.w) X.A (noteFrame (.ref a) X.env) _ _ _
    refine Sky.land Zc.steady hfr hf sky' fun h3 fl3 up3 => ?_
    have J3 : Inv X pins σ' H' { s' with heap := h3 } := J.landed nb fl3.1 (up.trans up3) os ag
    obtain ⟨oe3, vs3, he3, hz3, hd3⟩ := fl3.there
    have notFr : ∀ {h : Heap} {o : Obj} {vs : Array Value}, h.FunFrames B (X.env :: X.outer) → h.get? a = some o → o.data = .fields vs → a ∉ frs (X.env :: X.outer) := fun {h o vs} ff e dd hm => by
      obtain ⟨_, o', e', hnf⟩ := ff.mem hm
      rw [e] at e'; cases e'
      exact hnf _ dd
    have nfr := notFr fl3.2.2.1 he3 hd3
    have nL : a ≠ X.env.locals := fun z => nfr (List.mem_filterMap.mpr ⟨X.env, List.mem_cons_self, by rw [hf, z]⟩)
    have nF : a ∉ X.fs := fun hm => by
      obtain ⟨e, he, q⟩ := List.mem_filterMap.mp hm
      exact nfr (List.mem_filterMap.mpr ⟨e, List.mem_cons_of_mem _ he, q⟩)
    have S3 := J3.suite he3 hd3 na nL nF
    have go : ∀ {hds' : List ExceptHandler} {l' : List Clause}, HdMix X hds' l' → wMix X.K Wout D l' cls d σ' H' →
        wpAny (model X.prog X.w) X.A (handleBy (.ref a) X.env hds') (SP X pins D) X.xe { s' with heap := h3 } := by
      intro hds' l' hk
      induction hk with
      | nil =>
        intro w
        refine wpAny_handleBy_nil ?_
        obtain ⟨k1, k2, k3, oe, vs, T, oT, ts', he, hz, hd, h1, hr⟩ := id fl3
        unfold PySem.passOn
        refine wpAny_bind (wpAny_field he hd h1 ?_)
        rw [if_neg (show ¬ ((Value.ref T == Value.none) = true) from by simp)]
        have fin : wpAny (model X.prog X.w) X.A (setFlight (.ref a) X.env.frame) (fun _ s4 => wpAny (model X.prog X.w) X.A (throw (.ref a) : Sem Flow) (SP X pins D) X.xe s4) X.xe { s' with heap := h3 } := by
          rw [hf]
          refine HandSPX.setFlight_upZ fl3 fun h4 hh4 up4 => wpAny_throw (tk _ _ ?_)
          exact ⟨a, B, sI, pins, σ', H', cls, d, rfl, J, nb, (up.trans up3).trans up4, .inr (.inr (by rw [hs]; exact hh4)), na, os, ag, w⟩
        first
          | exact wpAny_bind (wpAny_pure (wpAny_bind fin))
          | exact wpAny_bind fin
      | @cons x c o no ts b₀ suite np pos' hds2 l2 hc hn hsu r ih =>
        intro w
        obtain ⟨b, hb1, hyes, hno⟩ := w
        refine wpAny_handleBy_cons (codeAny_handlers_test ?_) (by intro q; cases q)
        have LT : PySem.W.Looks (model X.prog X.w) h3 (typeOf (.ref a)) cls := fun A Q E s k q => wpAny_typeOf_ref (k _ _ he3) (by rw [hz3.1]; exact q)
        have LM := PySem.W.exm_one (M := model X.prog X.w) (J3.kIn) LT hb1
        have test : ∀ {Q : Value → Shared → Prop} {E : Value → Shared → Prop}, Q c { s' with heap := h3 } → wpAny (model X.prog X.w) (X.A.mark (some (.ref a))) (eval (.Name x np) X.env) Q E { s' with heap := h3 } := fun {Q E} q => by
          obtain ⟨hg, hdbg, hm | ⟨hm, hv, hnn⟩⟩ := hc
          · exact ld_glob (X := X.suite a ((a, oe3) :: (X.pn ++ pins))) S3 hg hm q hdbg
          · exact ld_blt (X := X.suite a ((a, oe3) :: (X.pn ++ pins))) S3 hg hm hv q hnn hdbg
        refine test (LM.here ?_)
        cases b with
        | true =>
          cases o with
          | none =>
            cases no with
            | some _ => exact hn.elim
            | none =>
              refine codeAny_handlers_suite ?_
              refine HandSPX.lands_againZ fl3 fun h4 fl4 up4 => ?_
              have J4 : Inv X pins σ' H' { s' with heap := h4 } := J.landed nb fl4.1 ((up.trans up3).trans up4) os ag
              obtain ⟨oe4, vs4, he4, hz4, hd4⟩ := fl4.there
              have S4 := J4.suite he4 hd4 na nL nF
              refine wpAny_mono ((hsu a oe4 cls d (X.pn ++ pins) hz4 ⟨_, hd4⟩).run [] _ _ H' _ S4 (hyes rfl a na)) (fun f s6 hsp => ?_) (fun _ _ z => False.elim z)
              cases f with
              | next =>
                obtain ⟨σ6, H6, S6, q6⟩ := hsp
                exact ⟨_, _, S6.unsuite ok, q6⟩
              | brk =>
                obtain ⟨σ6, H6, S6, q6⟩ := hsp
                exact ⟨_, _, S6.unsuite ok, q6⟩
              | cont =>
                obtain ⟨σ6, H6, S6, q6⟩ := hsp
                exact ⟨_, _, S6.unsuite ok, q6⟩
              | ret u =>
                obtain ⟨v6, σ6, H6, S6, r6, q6⟩ := hsp
                exact ⟨_, _, _, S6.unsuite ok, r6, q6⟩
          | some i =>
            cases no with
            | none => exact hn.elim
            | some n =>
              obtain ⟨hi, hln⟩ := hn
              have hloc : Loc X.env.scope n := .inl hln
              refine codeAny_handlers_suite_as ?_
              refine HandSPX.lands_againZ fl3 fun h4 fl4 up4 => ?_
              have J4 : Inv X pins σ' H' { s' with heap := h4 } := J.landed nb fl4.1 ((up.trans up3).trans up4) os ag
              obtain ⟨oe4, vs4, he4, hz4, hd4⟩ := fl4.there
              have S4 := J4.suite he4 hd4 na nL nF
              refine store_ok (X := X.suite a ((a, oe4) :: (X.pn ++ pins))) (v := .ref a) S4 hN hi hloc rfl (fun s5 S5 => ?_) (.inr hln)
              refine wpAny_mono ((hsu a oe4 cls d (X.pn ++ pins) hz4 ⟨_, hd4⟩).run [] s5 _ H' _ S5 (hyes rfl a na)) (fun f s6 hsp => ?_) (fun _ _ z => False.elim z)
              have end_ : ∀ {σ6 : L2.St} {H6 : Hp} {Q : Shared → Prop}, Inv (X.suite a ((a, oe4) :: (X.pn ++ pins))) [] σ6 H6 s6 → (∀ s7, Inv X pins (σ6.set i none) H6 s7 → Q s7) →
                  wpAny (model X.prog X.w) X.A (do bindName X.env n .none; unbindBehindTheSuite X.env n pos') (fun _ s7 => Q s7) X.xe s6 := fun {σ6 H6 Q} S6 hq => gone_ok (S6.unsuite ok) hN hi hln hq
              cases f with
              | next =>
                obtain ⟨σ6, H6, S6, q6⟩ := hsp
                exact end_ S6 fun s7 J7 => ⟨_, _, J7, q6⟩
              | brk =>
                obtain ⟨σ6, H6, S6, q6⟩ := hsp
                exact end_ S6 fun s7 J7 => ⟨_, _, J7, q6⟩
              | cont =>
                obtain ⟨σ6, H6, S6, q6⟩ := hsp
                exact end_ S6 fun s7 J7 => ⟨_, _, J7, q6⟩
              | ret u =>
                obtain ⟨v6, σ6, H6, S6, r6, q6⟩ := hsp
                exact end_ S6 fun s7 J7 => ⟨_, _, _, J7, r6, q6⟩
        | false =>
          show wpAny _ X.A (handleBy (.ref a) X.env hds2) _ _ _
          exact ih (hno rfl)
    exact go hh w
  · cases f with
    | next =>
      obtain ⟨σ', H', J', q⟩ := hsp
      exact wpAny_execs_nil ⟨σ', H', J'.ofTry ok, q⟩
    | brk =>
      obtain ⟨σ', H', J', q⟩ := hsp
      exact ⟨σ', H', J'.ofTry ok, q⟩
    | cont =>
      obtain ⟨σ', H', J', q⟩ := hsp
      exact ⟨σ', H', J'.ofTry ok, q⟩
    | ret u =>
      obtain ⟨v, σ', H', J', r, q⟩ := hsp
      exact ⟨v, σ', H', J'.ofTry ok, r, q⟩
end
end Mn

set_option maxRecDepth 100000
set_option maxHeartbeats 1000000
/-! every statement that is compiled is sound -/
namespace Mn
open PySem PySem.Spec PyProof.Rows L2
/-- what a def promises that is called while an exception is handled -/
structure FnQ (P : Program) (w : World) (K : PySem.W.Frag) (mg : Str → Option Value) (base : Heap) (CX : CXT) (k : Nat) (f : Addr) (fd : FuncData) (ps : List Str) (sp : Sp) : Prop where
  len : ∀ vs H Q E, sp vs H Q E → vs.length = ps.length
  run : ∀ (A : Around) (outer : List Env) (s : Shared) (H : Hp) (args : Args) (us : List Value) (vs : List V) (Q : VK) (E : XK), L2H.RoomH k A → Env0 P w K mg base A outer s H → BindsTo s fd args (ps.zip us) → Vals vs us → sp vs H Q E →
    codeAny (model P w) A (.call (.ref f) args) (CR CX outer P w H s Q E) s
/-- its promise -/
def spH (G : Gx) : Sp := fun vs H Q _ => ∃ v W S d b1 b2, vs = [v] ∧ StOk G W H S ∧ Rep G W.F d v ∧ isTy 0 d = some b1 ∧ isTy 1 d = some b2 ∧ ∀ W' H', StOk G W' H' S → Xt W H W' H' → Q (.bl (b1 && !b2)) H'
/-- the def that is called within an except suite -/
structure HotOk (rc : RC) (G : Gx) (P : Program) (w : World) (K : PySem.W.Frag) (mg : Str → Option Value) (base : Heap) : Prop where
  q : ∀ a, G.fnA rc.hot = some a → ∃ fd, (∀ k, FnQ P w K mg base (L2.CX P w) (k + 1) a fd ["value"] (spH G)) ∧ Binds K fd ["value"] []
  m : ∀ k d S, callM G.Γ k rc.hot [.val d] S = .st ∨ ∃ b1 b2, isTy 0 d = some b1 ∧ isTy 1 d = some b2 ∧ callM G.Γ k rc.hot [.val d] S = .ok (.val (.bl (b1 && !b2))) S
/-- a body's context, for statements -/
structure XS (rc : RC) (c : Cc) (k : Nat) (X : L2.Cx) (sc : Scope) (N : List Str) : Prop where
  xc : XC rc c k X sc N
  po : PassesOwn (model X.prog X.w) X.A X.env X.xe
  ex : ∀ n C, c.G.exA n = some C → ∃ B fI qual, PySem.MnX.ExcTxt X.K X.mg (c.G.xf n) qual C B fI
  stk : X.stack = X.env :: X.outer
  fr : X.env.frame = some X.env.locals
  exm : ∀ n n' C C', c.G.exA n = some C → c.G.exA n' = some C' → PySem.W.exmOne X.K (.ref C) (.ref C') = some (n == n')
  xfs : ∀ n f, rc.xfs.lookup n = some f → c.G.xf n = f
  hot : HotOk rc c.G X.prog X.w X.K X.mg X.base
section
variable {rc : RC} {c : Cc} {k : Nat} {X : L2.Cx} {sc : Scope} {DD : DC} {n : Nat}
theorem loc_at {N : List Str} {y : Str} {i : Nat} (h : loc? N sc y = some i) : (match sc.names.lookup y with | some .local => N.idxOf? y | some .cell => N.idxOf? y | _ => none) = some i := h
/-- what a name takes -/
theorem st_setV (x : XC rc c k X sc DD.N) {y : Str} {py pos : Pos} {v : Expr} {i : Nat} {m : E} (hi : loc? DD.N sc y = some i) (h : cE rc DD.N n sc v = some m) : PS X (.Assign [.Name y py] v pos) (tS c (.set (.v i) m)) := by
  have hs := (ih_all rc k DD.N n).snd x h
  by_cases hc : isComp v = false
  · exact ss_setV x (loc_at hi) hs.pe (swaps_plain h hc)
  · cases v <;> first | (exact absurd rfl hc) | skip
    rename_i elt gs scope vp
    cases n with
    | zero => cases h
    | succ n =>
      match gs, h with
      | [⟨t, it, ifs, as⟩], h =>
        have h0 : (if as == 0 then cComp rc DD.N (cE rc DD.N n) sc elt t it ifs scope else none) = some m := h
        have ha : as = 0 := by
          by_cases z : (as == 0) = true
          · exact eq_of_beq z
          · rw [if_neg z] at h0; cases h0
        subst ha
        have h1 : cComp rc DD.N (cE rc DD.N n) sc elt t it ifs scope = some m := by simpa using h0
        have sw : swapsWith (.ListComp elt [⟨t, it, ifs, 0⟩] scope vp) (some (.Name y py)) pos.line X.env = pure (X.env.blockKind == .function && X.env.kindOf y == some .local && py.line == vp.line && !(scope.names.any fun (n, k) => n == y && (k == .local || k == .cell))) := rfl
        cases hb : (X.env.blockKind == .function && X.env.kindOf y == some .local && py.line == vp.line && !(scope.names.any fun (n, k) => n == y && (k == .local || k == .cell))) with
        | false => exact ss_setV x (loc_at hi) hs.pe (by rw [sw, hb])
        | true =>
          have hl : X.env.kindOf y = some .local := by
            simp only [Bool.and_eq_true] at hb
            exact eq_of_beq hb.1.1.2
          exact ss_setC x (loc_at hi) hl (by rw [sw, hb]) h1
      | [], h => simp [cE, cStep] at h
      | _ :: _ :: _, h => simp [cE, cStep] at h
theorem cB_tup {N : List Str} {q : Nat} {ts : List Expr} {kk : Nat} {p : Pos} {b : B} (h : cB N sc q (.Tuple ts kk p) = some b) : ∃ bs, b = .tup bs := by
  cases q with
  | zero => cases h
  | succ q =>
    simp only [cB, Option.map_eq_some_iff] at h
    obtain ⟨bs, _, rfl⟩ := h
    exact ⟨bs, rfl⟩
/-- the names among targets -/
theorem locNames_of {N : List Str} {q : Nat} : ∀ {ts : List Expr} {bs : List B}, ts.map (cB N sc q) = bs.map some → LocNames sc ts
  | [], _, _ => fun id p h => by cases h
  | t :: ts, [], h => by simp at h
  | t :: ts, b :: bs, h => by
    simp only [List.map_cons, List.cons.injEq] at h
    intro id p hm
    rcases List.mem_cons.mp hm with e | hm
    · subst e
      cases q with
      | zero => cases h.1
      | succ q =>
        have h1 := h.1
        simp only [cB] at h1
        cases e : sc.names.lookup id with
        | none => rw [e] at h1; cases h1
        | some kd =>
          rw [e] at h1
          cases kd <;> first | (cases h1; done) | exact .inl rfl | exact .inr rfl
    · exact locNames_of h.2 id p hm
theorem st_assign (xs : XS rc c k X sc DD.N) {t v : Expr} {pos : Pos} {s : Mn.S} (h : cAssign rc DD (cE rc DD.N n) sc t v = some s) : PS X (.Assign [t] v pos) (tS c s) := by
  have x := xs.xc
  have ih := ih_all rc k DD.N n
  cases t with
  | Name y py =>
    simp only [cAssign, cT0, Option.bind_eq_some_iff, Option.map_eq_some_iff] at h
    obtain ⟨T, ⟨i, h1, rfl⟩, m, h2, rfl⟩ := h
    exact st_setV x h1 h2
  | Attribute a y p =>
    simp only [cAssign, cT0, Option.bind_eq_some_iff, Option.map_eq_some_iff] at h
    obtain ⟨T, ⟨f, h1, o, h2, rfl⟩, m, h3, rfl⟩ := h
    exact ss_setF x h1 (ih.snd x h3).pe (ih.snd x h2).pe
  | Subscript a i p =>
    cases i with
    | Slice _ _ _ _ => simp [cAssign] at h
    | _ =>
      cases a <;> first | (simp [cAssign] at h; done) | skip
      rename_i y py
      simp only [cAssign, Option.bind_eq_some_iff, Option.map_eq_some_iff] at h
      obtain ⟨j, h1, e, h2, e', h3, rfl⟩ := h
      obtain ⟨s1, s2, s3, s4⟩ := x.slot h1
      exact ss_rset x (ih.snd x h3).pe (snd_var s1 s2 s3 s4) (ih.snd x h2).pe (fun _ => rfl)
  | Tuple ts kk p =>
    have go : ∀ {v : Expr}, (∀ env, swappedStores [.Tuple ts kk p] v env = pure none) → ((cB DD.N sc 9 (.Tuple ts kk p)).bind fun b => (cE rc DD.N n sc v).map fun e => Mn.S.set (ofB b) e) = some s → PS X (.Assign [.Tuple ts kk p] v pos) (tS c s) := fun hw h => by
      simp only [Option.bind_eq_some_iff, Option.map_eq_some_iff] at h
      obtain ⟨b, h1, m, h2, rfl⟩ := h
      obtain ⟨bs, rfl⟩ := cB_tup h1
      exact ss_setB x (ih.snd x h2).pe (b_of x h1) (hw _)
    cases v with
    | Tuple vs k2 p2 =>
      simp only [cAssign] at h
      by_cases hl : (ts.length == vs.length && decide (vs.length ≤ 1000)) = true
      · rw [if_pos hl] at h
        simp only [Bool.and_eq_true, decide_eq_true_eq, beq_iff_eq] at hl
        simp only [cPar, Option.bind_eq_some_iff] at h
        obtain ⟨r, h1, bs, h2, ms, h3, h⟩ := h
        obtain ⟨p1, p2', p3⟩ := es_of x ih h3
        have hm := allO_mem h2
        have ln := locNames_of hm
        have sw : swappedStores [.Tuple ts kk p] (.Tuple vs k2 p2) X.env = pure r := swapC_ok x.scf x.kd ln h1
        have hb : cB DD.N sc 9 (.Tuple ts kk p) = some (.tup bs) := by
          show (allO (ts.map (cB DD.N sc 8))).map B.tup = _
          rw [h2]; rfl
        cases r with
        | none =>
          cases h
          exact ss_par0 x p1 (by omega) (b_of x hb) sw
        | some ns =>
          simp only [Option.bind_eq_some_iff] at h
          obtain ⟨is, h4, h⟩ := h
          by_cases hc : (decide is.Nodup && ns.all (fun y => sc.names.lookup y == some .local) && ns.length == vs.length) = true
          · rw [if_pos hc] at h
            cases h
            simp only [Bool.and_eq_true, decide_eq_true_eq, List.all_eq_true, beq_iff_eq] at hc
            obtain ⟨⟨nd, loc⟩, len⟩ := hc
            have h5 := allO_mem h4
            have key : ∀ (ns : List Str) (is : List Nat), ns.map (fun y => DD.N.idxOf? y) = is.map some → (∀ y ∈ ns, sc.names.lookup y = some .local) → ∃ l : List (Str × Nat), l.map (·.1) = ns ∧ l.map (·.2) = is ∧ ∀ q ∈ l, X.N[q.2]? = some q.1 ∧ X.env.scope.names.lookup q.1 = some .local := by
              intro ns
              induction ns with
              | nil => intro is h _; cases is with | nil => exact ⟨[], rfl, rfl, fun q hq => by cases hq⟩ | cons _ _ => simp at h
              | cons y ns ihn =>
                intro is h hl
                cases is with
                | nil => simp at h
                | cons i is =>
                  simp only [List.map_cons, List.cons.injEq] at h
                  obtain ⟨l, l1, l2, l3⟩ := ihn is h.2 fun z hz => hl z (List.mem_cons_of_mem _ hz)
                  refine ⟨(y, i) :: l, by simp [l1], by simp [l2], fun q hq => ?_⟩
                  rcases List.mem_cons.mp hq with rfl | hq
                  · refine ⟨by rw [x.hN]; exact idx_get h.1, ?_⟩
                    rcases x.scf y _ (hl y List.mem_cons_self) with z | ⟨z, _⟩
                    · exact z
                    · cases z
                  · exact l3 q hq
            obtain ⟨l, l1, l2, l3⟩ := key ns is h5 loc
            subst l1
            subst l2
            exact ss_parN x p1 (by omega) l3 nd (by rw [← len, List.length_map]) p3 sw
          · rw [if_neg hc] at h; cases h
      · rw [if_neg hl] at h; cases h
    | _ => exact go (fun env => rfl) h
  | _ => simp [cAssign, cT0] at h

/-- what is known of the statements within -/
def IHS (rc : RC) (k : Nat) (DD : DC) (sc : Scope) (recS : RecS) : Prop := ∀ {c : Cc} {X : L2.Cx}, XS rc c k X sc DD.N → ∀ {sts : List Stmt} {ms : List Mn.S}, recS sts = some ms → PSs X sts (tSs c ms)
/-- try: shown apart -/
def TryOk (rc : RC) (k : Nat) (DD : DC) (sc : Scope) (n : Nat) : Prop := ∀ (recS : RecS), IHS rc k DD sc recS → ∀ {c : Cc} {X : L2.Cx}, XS rc c k X sc DD.N → ∀ {b : List Stmt} {h₀ : ExceptHandler} {hs : List ExceptHandler} {pos : Pos} {ms : List Mn.S} {ys : List (Nat × Option Nat × E)},
  recS b = some ms → cHds rc DD sc (h₀ :: hs) = some ys → PS X (.Try b (h₀ :: hs) [] [] pos) (tS c (.stry ms ys))
theorem st_raise (xs : XS rc c k X sc DD.N) {e : Expr} {pos : Pos} {s : Mn.S} (h : cRaise rc (cE rc DD.N n) sc e = some s) : PS X (.Raise (some e) none pos) (tS c s) := by
  have x := xs.xc
  have ih := ih_all rc k DD.N n
  cases e with
  | Call f as kw p =>
    cases f with
    | Name y py =>
      match as, kw, h with
      | [a], [], h =>
        simp only [cRaise] at h
        cases eg : glob? rc sc y with
        | none => rw [eg] at h; cases h
        | some g =>
          rw [eg] at h
          cases g <;> first | (cases h; done) | skip
          rename_i q
          simp only [Option.map_eq_some_iff] at h
          obtain ⟨m, h1, rfl⟩ := h
          obtain ⟨g1, g2⟩ := x.glob eg
          obtain ⟨C, c1, c2⟩ := x.row.gl y _ g2
          obtain ⟨B, fI, qual, T⟩ := xs.ex q C c1
          exact ss_raise x T c1 (ih.snd x h1).pe c2 g1 (x.gdbg _ _ g2) (ih.shp h1).pl
      | [], _, h => simp [cRaise] at h
      | _ :: _ :: _, _, h => simp [cRaise] at h
      | [_], _ :: _, h => simp [cRaise] at h
    | _ => simp [cRaise] at h
  | _ => simp [cRaise] at h
theorem st_one (T : TryOk rc k DD sc n) {recS : RecS} (ihs : IHS rc k DD sc recS) (xs : XS rc c k X sc DD.N) {st : Stmt} {s : Mn.S} (h : cSt rc DD (cE rc DD.N n) recS sc st = some s) : PS X st (tS c s) := by
  have x := xs.xc
  have ih := ih_all rc k DD.N n
  cases st with
  | Assign ts v pos =>
    match ts, h with
    | [t], h => exact st_assign xs h
    | [], h => simp [cSt] at h
    | _ :: _ :: _, h => simp [cSt] at h
  | Expr e pos =>
    simp only [cSt, cExpr] at h
    by_cases hc : isComp e = true
    · rw [if_pos hc] at h; cases h
    · rw [if_neg hc, Option.map_eq_some_iff] at h
      obtain ⟨m, h1, rfl⟩ := h
      exact ss_expr (ih.snd x h1).pe (swaps_plain h1 (by simpa using hc))
  | Return o pos =>
    cases o with
    | none => simp only [cSt, Option.some.injEq] at h; subst h; exact ss_retN
    | some e =>
      simp only [cSt] at h
      by_cases hw : DD.nw = true
      · rw [if_pos hw] at h
        cases e <;> first | (cases h; done) | skip
        rename_i es p
        simp only at h
        by_cases hl : es.length ≤ 1000
        · rw [if_pos hl, Option.map_eq_some_iff] at h
          obtain ⟨ms, h1, rfl⟩ := h
          obtain ⟨p1, p2, p3⟩ := es_of x ih h1
          exact ss_retl p1 (by omega)
        · rw [if_neg hl] at h; cases h
      · rw [if_neg hw, Option.map_eq_some_iff] at h
        obtain ⟨m, h1, rfl⟩ := h
        exact ss_ret (ih.snd x h1).pe
  | If e a b pos =>
    simp only [cSt, Option.bind_eq_some_iff, Option.map_eq_some_iff] at h
    obtain ⟨m, h1, ms, h2, ns, h3, rfl⟩ := h
    exact ss_if (ih.snd x h1).pt (ihs xs h2) (ihs xs h3)
  | While e b o pos =>
    cases o with
    | cons _ _ => simp [cSt] at h
    | nil =>
      simp only [cSt, Option.bind_eq_some_iff, Option.map_eq_some_iff] at h
      obtain ⟨m, h1, ms, h2, rfl⟩ := h
      exact ss_while x xs.po (ih.snd x h1).pt (ihs xs h2)
  | For t it b o pos =>
    cases o with
    | cons _ _ => simp [cSt] at h
    | nil =>
      simp only [cSt, Option.bind_eq_some_iff, Option.map_eq_some_iff] at h
      obtain ⟨bt, h1, mi, h2, ms, h3, rfl⟩ := h
      obtain ⟨p1, p2⟩ := itT_of x ih h2
      exact ss_for x xs.po p1 (b_of x h1) (ihs xs h3) (p2 _)
  | Raise o f pos =>
    cases o with
    | none => simp [cSt] at h
    | some e =>
      cases f with
      | some _ => simp [cSt] at h
      | none => exact st_raise xs h
  | Try b hs o f pos =>
    cases o with
    | cons _ _ => simp [cSt] at h
    | nil =>
      cases f with
      | cons _ _ => simp [cSt] at h
      | nil =>
        cases hs with
        | nil => simp [cSt] at h
        | cons h₀ hs =>
          simp only [cSt, Option.bind_eq_some_iff, Option.map_eq_some_iff] at h
          obtain ⟨ms, h1, ys, h2, rfl⟩ := h
          exact T recS ihs xs h1 h2
  | Break pos => simp only [cSt, Option.some.injEq] at h; subst h; exact ss_brk
  | Pass pos => simp only [cSt, Option.some.injEq] at h; subst h; exact ss_pass
  | _ => simp [cSt] at h
end
/-- every body that is compiled is sound -/
theorem ihs_all (rc : RC) (k : Nat) (DD : DC) (sc : Scope) (n : Nat) (T : TryOk rc k DD sc n) (q : Nat) : IHS rc k DD sc (cSs rc DD (cE rc DD.N n) sc q) := by
  induction q with
  | zero =>
    intro c X xs sts ms h
    cases h
  | succ q ih =>
    intro c X xs sts ms h
    cases sts with
    | nil => simp only [cSs, Option.some.injEq] at h; subst h; exact ss_nil
    | cons st sts =>
      simp only [cSs, Option.bind_eq_some_iff, Option.map_eq_some_iff] at h
      obtain ⟨s, h1, ms', h2, rfl⟩ := h
      exact ss_cons (st_one T ih xs h1) (ih xs h2)
end Mn

set_option maxRecDepth 100000
set_option maxHeartbeats 1000000
/-! except suites -/
namespace Mn
open PySem PySem.Spec PyProof.Rows L2
section
variable {X : L2.Cx} {C B fI : Addr} {pn qual : Str}
/-- e.f, e the exception that the suite holds (at a; its class cls, its dict d) -/
def tByX (C : Addr) (pn : Str) (a : Addr) (cls : Value) (d : Option Addr) (te : TE) : TE := fun σ H Q => te σ H fun x H1 => x = .ref a ∧ cls = .ref C ∧ ∃ (dd : Addr) (v : V), d = some dd ∧ H1 dd = some (.xd [(pn, v)]) ∧ Q v H1
theorem pe_byX {a : Addr} {oe : Obj} {cls : Value} {d : Option Addr} {ps : List (Addr × Obj)} {e : Expr} {te : TE} {pos : Pos} (T : PySem.MnX.ExcTxt X.K X.mg pn qual C B fI) (hz : Zc cls d oe) (hf : ∃ vs, oe.data = .fields vs) (he : PE (X.suite a ((a, oe) :: ps)) e te)
    (hb : attributeBase e pn X.env (eval e X.env) = eval e X.env) :
    PE (X.suite a ((a, oe) :: ps)) (.Attribute e pn pos) (tByX C pn a cls d te) := by
  refine ⟨fun pins s σ H Q I h => ?_⟩
  refine attr_of hb (thn (he.run pins s σ H _ I h) fun u s1 hh => ?_)
  obtain ⟨x, H1, I1, rx, ex, ec, dd, v, ed, ea, q⟩ := hh
  subst ex
  obtain rfl : u = Value.ref a := rx
  subst ec
  subst ed
  obtain ⟨ha, _⟩ := I1.pin (a, oe) (List.mem_append_left _ List.mem_cons_self)
  obtain ⟨vs, hd⟩ := hf
  have hx : ObjOk X.prog X.w H1 s1.heap dd (.xd [(pn, v)]) := I1.hok dd _ ea
  obtain ⟨mA, hns, hr⟩ := hx
  obtain ⟨od, ho, hl⟩ := lookIn_ns hns
  have l : List.lookup pn [(pn, v)] = some v := by simp [List.lookup]
  obtain ⟨u, hu, ru⟩ := RelO.some_of (v := v) (o := mA pn) (by rw [← l]; exact hr pn)
  have J : PySem.W.InstAt s1.heap a oe C (some od) := ⟨ha, hz.1, by unfold PySem.W.notCls; rw [hd] <;> rfl, by rw [hz.2]; exact ho⟩
  exact HandSPX.exc_get I1.kIn J T.ga T.gg T.exC (PySem.W.findObj_own T.hdC T.noN rfl (by rw [hl, hu])) (handed_of ru) ⟨v, H1, I1.tok _, ru, q⟩
end
/-- what is known in a suite: the exception c with the datum d, in slot i (where there is one), its object at a -/
structure XF (G : Gx) (N : List Str) (i n : Nat) (d : D) (a : Addr) (cls : Value) (dx : Option Addr) (W : Wd) (σ : L2.St) (H : Hp) : Prop where
  sl : i < N.length → σ[i]? = some (some (.ref a))
  ex : ∃ C dd v, G.exA n = some C ∧ cls = .ref C ∧ dx = some dd ∧ H dd = some (.xd [(G.xf n, v)]) ∧ Rep G W.F d v
/-- a part of a suite's answer: the datum p -/
def tP (G : Gx) (N : List Str) (i n : Nat) (d : D) (a : Addr) (cls : Value) (dx : Option Addr) (p : D) : TE := fun σ H Q => ∃ W, XF G N i n d a cls dx W σ H ∧ ∀ v, Rep G W.F p v → Q v H

section
variable {G : Gx} {X : L2.Cx} {N : List Str} {i n : Nat} {d : D} {a : Addr} {cls : Value} {dx : Option Addr}
theorem tp_const {e : Expr} {p : D} {v : V} (h : PE X e (tC v)) (hr : ∀ F, Rep G F p v) : PE X e (tP G N i n d a cls dx p) := PE.imp h fun σ H Q q => by
  obtain ⟨W, _, q⟩ := q
  exact q v (hr _)
theorem tp_pair {e1 e2 : Expr} {p1 p2 : D} {kk : Nat} {pos : Pos} (h1 : PE X e1 (tP G N i n d a cls dx p1)) (h2 : PE X e2 (tP G N i n d a cls dx p2)) (hp1 : Pl e1) (hp2 : Pl e2) :
    PE X (.Tuple [e1, e2] kk pos) (fun σ H Q => ∃ W S, XF G N i n d a cls dx W σ H ∧ StOk G W H S ∧ Ans G W H S (.tup [p1, p2]) Q) :=
  PE.imp (pe_tup (pa_cons h1 (pa_cons h2 pa_nil (hp2 _ _)) (hp1 _ _))) fun σ H Q q => by
    obtain ⟨W, S, xf, st, an⟩ := q
    refine ⟨W, xf, fun v1 r1 => ⟨W, xf, fun v2 r2 => ⟨?_, fun p hp => ?_⟩⟩⟩
    · show 2 ≤ sizeLine
      decide
    · exact an.lay st hp (.tup (SqT.of upd_same) (Reps.mono (Ext.upd (st.dead hp)) (.cons r1 (.cons r2 .nil))))

/-- e.f in a suite, e the clause's name -/
theorem tp_x {oe : Obj} {pns : List (Addr × Obj)} {y : Str} {p1 p2 : Pos} {C B fI : Addr} {qual : Str} (T : PySem.MnX.ExcTxt X.K X.mg (G.xf n) qual C B fI) (hC : G.exA n = some C) (hz : Zc cls dx oe) (hf : ∃ vs, oe.data = .fields vs) (hN : X.N[i]? = some y) (hXN : X.N = N)
    (hv : Vis X.env.scope y) (hd : (y == ("__debug__" : Str)) = false) (hcd : (y == ("__classdict__" : Str)) = false) : PE (X.suite a ((a, oe) :: pns)) (.Attribute (.Name y p1) (G.xf n) p2) (tP G N i n d a cls dx d) :=
  PE.imp (pe_byX T hz hf (pe_var (X := X.suite a ((a, oe) :: pns)) hN hv hd hcd) (by rfl)) fun σ H Q q => by
    obtain ⟨W, xf, q⟩ := q
    have hi : i < N.length := by
      rw [← hXN]
      exact (List.getElem?_eq_some_iff.mp hN).1
    obtain ⟨C', dd, v, e1, e2, e3, e4, r⟩ := xf.ex
    rw [hC] at e1; cases e1
    exact ⟨.ref a, xf.sl hi, rfl, e2, dd, v, e3, e4, q v r⟩

/-- 'text' + e.f -/
theorem tp_cat {Y : L2.Cx} {b : Expr} {z t : Str} {j : Nat} {p1 pos : Pos} (hd : d = .str z) (hz : t.length + z.length ≤ sizeLine) (hb : PE Y b (tP G N i n d a cls dx d)) : PE Y (.BinOp (.Constant (.str t) j p1) .Add b pos) (tP G N i n d a cls dx (.str (t ++ z))) :=
  PE.imp (pe_op op_add_str pe_str hb) fun σ H Q q => by
    obtain ⟨W, xf, q⟩ := q
    refine ⟨W, xf, fun v r => ?_⟩
    subst hd
    cases r
    exact ⟨t, z, rfl, rfl, hz, q _ (.str _)⟩
end

section
variable {rc : RC} {c : Cc} {k : Nat} {X : L2.Cx} {sc : Scope} {N : List Str}
/-- the body of a try -/
theorem XS.tr (xs : XS rc c k X sc N) {W : WX} {pn : List (Addr × Obj)} {xe : Value → Shared → Prop} (tk : Takes (X.tr pn xe) W) (po : PassesOwn (model X.prog X.w) X.A X.env xe) : XS rc ⟨c.G, c.X, W⟩ k (X.tr pn xe) sc N where
  xc := { xs.xc with tk := tk, row := xs.xc.row, hK := xs.xc.hK, hX := xs.xc.hX, hN := xs.xc.hN, nd := xs.xc.nd, calm := xs.xc.calm, room := xs.xc.room, ca := xs.xc.ca, er := xs.xc.er, es := xs.xc.es, cr := xs.xc.cr, ops := xs.xc.ops, kpF := xs.xc.kpF, kpC := xs.xc.kpC, dg := xs.xc.dg, scf := xs.xc.scf, kd := xs.xc.kd, gdbg := xs.xc.gdbg, at6 := xs.xc.at6, kB := xs.xc.kB, fnc := xs.xc.fnc, dbg := xs.xc.dbg }
  po := po
  ex := xs.ex
  stk := xs.stk
  fr := xs.fr
  exm := xs.exm
  xfs := xs.xfs
  hot := xs.hot
end
end Mn

set_option maxRecDepth 100000
set_option maxHeartbeats 1000000
/-! a def's body, at its call -/
namespace Mn
open PySem PySem.Spec PyProof.Rows L2
section
variable {G : Gx} {W : Wd} {H : Hp} {S : Sto}
theorem LR.none {F : Hp} {al : List Addr} {H : Hp} : ∀ n, LR G F al H (List.replicate n Option.none) (List.replicate n Option.none) []
  | 0 => .nil
  | n + 1 => .no (LR.none n)
theorem LR.args : ∀ {as : List A} {vs : List V} {n : Nat}, AVs G W as vs → LR G W.F W.al H (as.map some ++ List.replicate n Option.none) (vs.map some ++ List.replicate n Option.none) []
  | _, _, n, .nil => LR.none n
  | a :: as, v :: vs, n, .cons h r => by
    have h1 : AR G W.F W.al H a v [] := by
      cases a with
      | val d => exact .val h
      | ref n => obtain ⟨p, h1, rfl⟩ := h; exact .ref h1
      | _ => exact h.elim
    exact .one (p := []) h1 (LR.args r)
theorem start_ok {N : List Str} {fd : Fn} {args : List A} {vs : List V} {ρ : Rho} (s : StOk G W H S) (r : AVs G W args vs) (hn : vs.length = fd.np) (hN : N.length = fd.nl) (h : startR fd args = some ρ) : Ok G W H ρ (L2.start N vs) S [] := by
  have hl := r.length
  unfold startR at h
  split at h
  · rename_i hc
    have e0 : fd.np - args.length = 0 := by omega
    rw [e0, Nat.sub_zero, List.drop_length] at h
    simp only [List.map_nil, List.append_nil, Option.some.injEq] at h
    subst h
    refine ⟨s, ?_, List.nodup_nil, fun a ha => (by cases ha), fun a ha => (by cases ha)⟩
    unfold L2.start
    rw [hN, hn]
    exact LR.args r
  · cases h
/-- a body's end, as the call's -/
theorem endR_good {c : Cc} {r : SR} {scp : Bool} {Q : VK} {E : XK} (hw : c.wx = fun cls dx _ H => E cls dx H) (hG : c.G = G) (s : StOk G W H S) (g : Good G (fun cls dx _ H => E cls dx H) (RA G) [] W H (endR scp S r) Q) : GoodS c W H r { nx := fun _ H' => Q .non H', rt := Q } := by
  subst hG
  have hlS := s.len
  cases r with
  | nx ρ' S' =>
    intro σ' H' W' L' ok x
    cases scp with
    | false => exact g .non H' W' ok.s x .non
    | true =>
      obtain ⟨q, hq, st'⟩ := ok.s.cut S.length
      exact g .non H' _ st' (x.cut hlS hq) .non
  | rt a S' =>
    intro v H' W' st x r
    cases a with
    | val d =>
      cases scp with
      | false => exact g v H' W' st x r
      | true =>
        obtain ⟨q, hq, st'⟩ := st.cut S.length
        exact g v H' _ st' (x.cut hlS hq) r
    | ref n =>
      cases scp with
      | false => exact g v H' W' st x r
      | true => exact g.elim
    | _ => exact r.elim
  | ex e d ρ' S' =>
    intro cls dx σ' H' W' L' ok x xr
    rw [hw]
    cases scp with
    | false => exact g cls dx H' W' ok.s x xr
    | true =>
      obtain ⟨q, hq, st'⟩ := ok.s.cut S.length
      exact g cls dx H' _ st' (x.cut hlS hq) xr
  | bk _ _ => exact g.elim
  | ct _ _ => exact g.elim
  | st => exact g.elim
end

/-- what a row gives, wherever its bodies run -/
structure Rw (rc : RC) (G : Gx) (P : Program) (w : World) (K : PySem.W.Frag) (mg : Str → Option Value) (base : Heap) : Prop where
  row : RowOk mg rc G
  hK : K = G.K
  er : EqRow G.K G
  es : EqSpec G.Γ
  cr : ∀ n cl C, G.Γ.cl n = some cl → G.clA n = some C → ClsRun G.K G n cl C
  ops : ∀ (o : Op), ∀ t ∈ (["NoneType", "bool", "int", "str", "list", "tuple"] : List String), ∃ fo ro, PySem.W.findIn G.K (.type t) (PySem.dunder (opn o).info.2) = some fo ∧ PySem.W.findIn G.K (.type t) (PySem.dunderR (opn o).info.2) = some ro
  kpF : ∀ f a, G.fnA f = some a → PySem.W.keepIn G.K (.ref a) = true
  kpC : ∀ n C, G.clA n = some C → PySem.W.keepIn G.K (.ref C) = true
  gdbg : ∀ y g, rc.gl.lookup y = some g → (y == ("__debug__" : Str)) = false
  at6 : ∀ y m, rc.ats.lookup y = some m → 6 ≤ m
  dg : base.NoDigits
  ex : ∀ n C, G.exA n = some C → ∃ B fI qual, PySem.MnX.ExcTxt K mg (G.xf n) qual C B fI
  exm : ∀ n n' C C', G.exA n = some C → G.exA n' = some C' → PySem.W.exmOne K (.ref C) (.ref C') = some (n == n')
  xfs : ∀ n f, rc.xfs.lookup n = some f → G.xf n = f
  hot : HotOk rc G P w K mg base
/-- the defs at the levels up to n, in the row -/
def Calls0 (G : Gx) (P : Program) (w : World) (K : PySem.W.Frag) (mg : Str → Option Value) (base : Heap) (n : Nat) : Prop := ∀ j, j ≤ n → ∀ f fn, G.Γ.fn f = some fn → ∃ a fd ps, FnI K G f fn a fd ps ∧ FnOk P w K mg base (L2.CX P w) j a fd ps (spM G ps.length (callM G.Γ j f))
section
variable {rc : RC} {G : Gx} {P : Program} {w : World} {K : PySem.W.Frag} {mg : Str → Option Value} {base : Heap} {k : Nat} {N : List Str} {qual : Str} {scope : Scope} {f : Addr} {cdv : Value} {A : Around} {outer : List Env} {s : Shared} {H : Hp} {E : XK}
theorem xs_of (R : Rw rc G P w K mg base) (CA : Calls0 G P w K mg base k) (hk : k < tooDeep) (hr : Room k (A.deeper (envOfC qual scope s.heap.objs.size f cdv))) (nd : N.Nodup) (hs : scope.kind = .function) (dbg : ∀ y ∈ N, (y == ("__debug__" : Str)) = false ∧ (y == ("__classdict__" : Str)) = false) :
    XS rc ⟨G, ev G.Γ k, fun cls dx _ H => E cls dx H⟩ k (cxOf (L2.CX P w) P w K mg base N qual scope f cdv A outer s H E) scope N where
  xc := {
    row := R.row
    hK := R.hK
    hX := rfl
    hN := rfl
    nd := nd
    calm := rfl
    room := hr
    ca := CA
    er := R.er
    es := R.es
    cr := R.cr
    ops := R.ops
    kpF := R.kpF
    kpC := R.kpC
    tk := takes_of rfl rfl rfl rfl
    dg := R.dg
    scf := fun y kd h => .inl h
    kd := hs
    gdbg := R.gdbg
    at6 := R.at6
    kB := hk
    fnc := fun y h => rfl
    dbg := dbg }
  po := passes_of rfl
  ex := R.ex
  stk := rfl
  fr := rfl
  exm := R.exm
  xfs := R.xfs
  hot := R.hot

/-- a def at the next level -/
theorem fn_level (R : Rw rc G P w K mg base) (CA : Calls0 G P w K mg base k) (hk : k < tooDeep) {DD : DC} {x : Str} {params : Arguments} {body : List Stmt} {dvs : List V} {fd : FuncData} {ps : List Str} {n : Nat} {fnn : Fn} (T : TryOk rc k DD scope 60)
    (F : FunD K x qual params body scope dvs [] f fd) (Sc : FnScope DD.N ps scope) (hn : G.Γ.fn n = some fnn) (hps : ps.length = fnn.np) (hN : DD.N.length = fnn.nl) (hc : cDef rc DD scope body = some fnn.body)
    (dbg : ∀ y ∈ DD.N, (y == ("__debug__" : Str)) = false ∧ (y == ("__classdict__" : Str)) = false) : FnOk P w K mg base (L2.CX P w) (k + 1) f fd ps (spM G ps.length (callM G.Γ (k + 1) n)) :=
  F.ok Sc (fun vs H Q E ⟨W, S, args, h, _⟩ => h) fun cdv A outer s H vs Q E hr ⟨W, S, args, hl, st, ra, g⟩ => by
    have xs : XS rc ⟨G, ev G.Γ k, fun cls dx _ H => E cls dx H⟩ k (cxOf (L2.CX P w) P w K mg base DD.N qual scope f cdv A outer s H E) scope DD.N := xs_of R CA hk hr Sc.nd Sc.kind dbg
    refine ⟨_, ihs_all rc k DD scope 60 T 60 xs hc, ?_⟩
    have hΓ : (ev G.Γ k).Γ = G.Γ := by cases k <;> rfl
    rw [callM_succ, runB, hΓ, hn] at g
    simp only at g
    cases e : startR fnn args with
    | none => rw [e] at g; exact g.elim
    | some ρ =>
      rw [e] at g
      exact ⟨ρ, S, W, [], start_ok st ra (by rw [hl, hps]) hN e, endR_good rfl rfl st g⟩

/-- every def of the program stands in the row, and is compiled -/
structure DefOk (rc : RC) (G : Gx) (K : PySem.W.Frag) (n : Nat) (fnn : Fn) (a : Addr) (fd : FuncData) (ps : List Str) : Prop where
  fi : FnI K G n fnn a fd ps
  ex : ∃ (x qual : Str) (params : Arguments) (body : List Stmt) (scope : Scope) (dvs : List V) (DD : DC), FunD K x qual params body scope dvs [] a fd ∧ FnScope DD.N ps scope ∧ DD.N.length = fnn.nl ∧ cDef rc DD scope body = some fnn.body ∧
    (∀ y ∈ DD.N, (y == ("__debug__" : Str)) = false ∧ (y == ("__classdict__" : Str)) = false) ∧ ∀ k, TryOk rc k DD scope 60
theorem calls_all (R : Rw rc G P w K mg base) (D : ∀ n fnn, G.Γ.fn n = some fnn → ∃ a fd ps, DefOk rc G K n fnn a fd ps) : ∀ k, k ≤ tooDeep → Calls0 G P w K mg base k := by
  intro k
  induction k with
  | zero =>
    intro hk j hj n fnn hn
    obtain ⟨a, fd, ps, d⟩ := D n fnn hn
    have hj0 : j = 0 := Nat.le_zero.mp hj
    subst hj0
    exact ⟨a, fd, ps, d.fi, ⟨fun vs H Q E ⟨W, S, args, h, _⟩ => h, fun A outer s H args us vs Q E _ _ _ _ ⟨W, S, ar, _, _, _, g⟩ => g.elim⟩⟩
  | succ k ih =>
    intro hk j hj n fnn hn
    by_cases h : j ≤ k
    · exact ih (Nat.le_of_succ_le hk) j h n fnn hn
    · have e : j = k + 1 := Nat.le_antisymm hj (Nat.lt_of_not_le h)
      subst e
      obtain ⟨a, fd, ps, d⟩ := D n fnn hn
      obtain ⟨x, qual, params, body, scope, dvs, DD, d1, d2, d3, d4, d5, d6⟩ := d.ex
      exact ⟨a, fd, ps, d.fi, fn_level R (ih (Nat.le_of_succ_le hk)) (Nat.lt_of_succ_le hk) (d6 k) d1 d2 hn d.fi.np d3 d4 d5⟩
end
end Mn

set_option maxRecDepth 100000
set_option maxHeartbeats 1000000
/-! the def that is called within an except suite: return isinstance(value, int) and not isinstance(value, bool) -/
namespace Mn
open PySem PySem.Spec PyProof.Rows L2
section
variable {rc : RC} {c : Cc} {Y : L2.Cx}
def tHot (G : Gx) : TS := fun D σ H => ∃ v W S d b1 b2, σ[0]? = some (some v) ∧ StOk G W H S ∧ Rep G W.F d v ∧ isTy 0 d = some b1 ∧ isTy 1 d = some b2 ∧ ∀ W' H', StOk G W' H' S → Xt W H W' H' → D.rt (.bl (b1 && !b2)) H'
theorem hot_body (row : RowOk Y.mg rc c.G) (hK : Y.K = c.G.K) (hN : Y.N[0]? = some ("value" : Str)) (hv : Vis Y.env.scope "value") (g1 : Gl Y "isinstance") (m1 : Y.mg "isinstance" = none) (g2 : Gl Y "int") (m2 : Y.mg "int" = none) (g3 : Gl Y "bool") (m3 : Y.mg "bool" = none)
    {p1 p2 p3 p4 p5 p6 p7 p8 p9 p10 p11 : Pos} : PSs Y [.Return (some (.BoolOp .And [.Call (.Name "isinstance" p1) [.Name "value" p2, .Name "int" p3] [] p4, .UnaryOp .Not (.Call (.Name "isinstance" p5) [.Name "value" p6, .Name "bool" p7] [] p8) p9] p10)) p11] (tHot c.G) := by
  have mono : ∀ σ H (Q Q' : VK), (∀ v H1, Q v H1 → Q' v H1) → tVar 0 σ H Q → tVar 0 σ H Q' := fun σ H Q Q' h ⟨v, e, q⟩ => ⟨v, e, h _ _ q⟩
  have v1 : ∀ p, PE Y (.Name "value" p) (tVar 0) := fun p => pe_var hN hv (by decide +kernel) (by decide +kernel)
  have e1 := hop_isT0 (c := c) (n := 0) (p := p1) (p2 := p3) (pos := p4) row hK (by omega) g1 m1 g2 m2 (a := .Name "value" p2) (fun _ _ => rfl) _ (v1 p2) mono
  have e2 := hop_isT0 (c := c) (n := 1) (p := p5) (p2 := p7) (pos := p8) row hK (by omega) g1 m1 g3 m3 (a := .Name "value" p6) (fun _ _ => rfl) _ (v1 p6) mono
  refine PSs.imp (pss_one (ps_ret (pe_and e1 (pe_one (pe_not e2))))) fun D σ H q => ?_
  obtain ⟨v, W, S, d, b1, b2, h0, st, r, t1, t2, k⟩ := q
  refine ⟨v, h0, v, .val d, W, S, .bl b1, rfl, st, .val r, by simp [look1, isP, prim1, t1], fun v' H' W' s x r' => ?_⟩
  cases r'
  refine ⟨b1, rfl, ?_⟩
  cases b1 with
  | false => rw [if_neg (by simp)]; exact k W' H' s x
  | true =>
    rw [if_pos rfl]
    refine ⟨v, h0, v, .val d, W', S, .bl b2, rfl, s, .val (r.mono x.f), by simp [look1, isP, prim1, t2], fun v2 H2 W2 s2 x2 r2 => ?_⟩
    cases r2
    exact ⟨b2, rfl, k W2 H2 s2 (x.trans x2)⟩


/-- the context of a def's body that is called while an exception is handled -/
abbrev cxQ (CX : CXT) (P : Program) (w : World) (K : PySem.W.Frag) (mg : Str → Option Value) (base : Heap) (N : List Str) (qual : Str) (scope : Scope) (f : Addr) (cd : Value) (A : Around) (outer : List Env) (s : Shared) (H : Hp) (E : XK) : L2.Cx :=
  { cxOf CX P w K mg base N qual scope f cd A outer s H E with calm := false }
theorem inv_startQ {CX : CXT} {P : Program} {w : World} {K : PySem.W.Frag} {mg : Str → Option Value} {base : Heap} {N ps : List Str} {qual : Str} {scope : Scope} {f : Addr} {cd : Value} {A : Around} {outer : List Env} {s s1 : Shared} {H : Hp} {E : XK} {us : List Value} {vs : List V}
    (S : FnScope N ps scope) (e0 : Env0 P w K mg base A outer s H) (hl : vs.length = ps.length) (r : Vals vs us)
    (x : InCallC s s.heap.objs.size (bindL (envOfC qual scope s.heap.objs.size f cd).kindOf (ps.zip us) fun _ => none) (cellsFrom (s.heap.objs.size + 1) scope.names []) (bindC (envOfC qual scope s.heap.objs.size f cd).kindOf (ps.zip us) fun _ => none) s1) :
    Inv (cxQ CX P w K mg base N qual scope f cd A outer s H E) [] (L2.start N vs) H s1 := by
  have A0 : Env0 P w K mg base { A with handled := none } outer s H := ⟨e0.frames, e0.mod, e0.bs, e0.bsz, e0.funs, e0.frf, e0.hok, e0.bare⟩
  have I := inv_start (CX := CX) (E := E) (cd := cd) S (A := { A with handled := none }) rfl A0 hl r x
  have ok := I.ok
  exact ⟨⟨ok.mod, ok.kind, ok.glob, ok.blt, ok.above, ok.inj, ok.has, ok.cab, (fun z => Bool.noConfusion (show false = true from z)), Around.frames_deeper e0.frames, ok.stk, ok.exf, ok.bs, ok.bsz, ok.noex, ok.exfs, ok.funs, ok.frf⟩, I.os, I.bare, I.base, I.loc, I.cell, I.free, I.freeC, I.pin, I.hok, I.len⟩
theorem fn_ofQ {CX : CXT} {P : Program} {w : World} {K : PySem.W.Frag} {mg : Str → Option Value} {base : Heap} {k : Nat} {f : Addr} {name qual : Str} {params : Arguments} {body : List Stmt} {scope : Scope} {dV kV doc pm cdv ct oc : Value} {an od : Option Addr}
    {osl : Array (Option Value)} {N ps : List Str} {sp : Sp} (lk : K.lookup f = some ⟨oc, od, .func (PySem.W.fnOf name qual params body scope dV kV doc pm an cdv ct), osl⟩) (hcd : PySem.W.codeIn K cdv qual = true) (S : FnScope N ps scope)
    (len : ∀ vs H Q E, sp vs H Q E → vs.length = ps.length)
    (hbody : ∀ (A : Around) (outer : List Env) (s : Shared) (H : Hp) (vs : List V) (Q : VK) (E : XK), L2H.RoomH k (A.deeper (envOfC qual scope s.heap.objs.size f cdv)) → sp vs H Q E →
      ∃ t, PSs (cxQ CX P w K mg base N qual scope f cdv A outer s H E) body t ∧ t { nx := fun _ H' => Q .non H', rt := Q } (L2.start N vs) H) :
    FnQ P w K mg base CX (k + 1) f (PySem.W.fnOf name qual params body scope dV kV doc pm an cdv ct) ps sp := by
  refine ⟨len, fun A outer s H args us vs Q E hr e0 hb r hsp => ?_⟩
  have hl := len _ _ _ _ hsp
  have KX : K.In s.heap := e0.mod.kin.keeps fun b o e => (e0.bs b o e).1
  have lim : s.heap.NoLimit := e0.mod.nolimit.keeps fun b o e => (e0.bs b o e).1
  have hkind : ∀ y ∈ ps.zip us, scope.names.lookup y.1 = some .local ∨ (scope.names.lookup y.1 = some .cell ∧ ((cellsFrom (s.heap.objs.size + 1) scope.names []).lookup y.1).isSome = true) := fun ⟨n, v⟩ hy => by
    rcases S.par n (List.of_mem_zip hy).1 with q | q
    · exact .inl q
    · exact .inr ⟨q, PySem.W.cellsFrom_some _ _ _ (.inl q)⟩
  refine codeAny_call_function hr.depth (KX _ _ lk) rfl S.co S.gen rfl (PySem.W.codeRec_of KX hcd) (hb _ _ _ _ ?_)
  refine wpAny_newFunctionEnv_cells S.kind hkind fun env he s1 x => ?_
  subst he
  refine ⟨lim.keeps x.toInCall.keep, codeAny_func ?_⟩
  obtain ⟨t, ht, hq⟩ := hbody A outer s H vs Q E (hr.deeper _) hsp
  have I : Inv (cxQ CX P w K mg base N qual scope f cdv A outer s H E) [] (L2.start N vs) H s1 := inv_startQ S e0 hl r x
  refine wpAny_mono (ht.run [] s1 (L2.start N vs) H _ I hq) (fun fl s' hs => ?_) fun e s' hs => hs
  have fin : ∀ {σ' : L2.St} {H' : Hp} {v : V} {u : Value}, Inv (cxQ CX P w K mg base N qual scope f cdv A outer s H E) [] σ' H' s' → RelV v u → Q v H' → CE outer P w H s Q u s' :=
    fun {σ' H' v u} J rv q => ⟨v, H', J.os, J.bare, J.base, J.hok, rv, q⟩
  cases fl with
  | ret u =>
    obtain ⟨v, σ', H', J, rv, q⟩ := hs
    exact fin J rv q
  | next =>
    obtain ⟨σ', H', J, q⟩ := hs
    exact fin (v := V.non) (u := Value.none) J rfl q
  | brk =>
    obtain ⟨_, _, _, q⟩ := hs
    exact False.elim q
  | cont =>
    obtain ⟨_, _, _, q⟩ := hs
    exact False.elim q
section
variable {X : L2.Cx} {CX : CXT} {k : Nat} {f : Addr} {fd : FuncData} {ps : List Str} {sp : Sp} {E : L2.St → XK} {x : Str} {q pos : Pos} {e : Expr} {es : List Expr} {t : TA}
theorem run_fnQ {pins : List (Addr × Obj)} {σ : L2.St} {H : Hp} {s : Shared} {Q : VK} {us : List Value} {vs : List V} (F : FnQ X.prog X.w X.K X.mg X.base CX k f fd ps sp) (hr : L2H.RoomH k X.A) (hb : Binds X.K fd ps []) (hx : PassesAt CX X σ (E σ))
    (I : Inv X pins σ H s) (r : Vals vs us) (h : sp vs H Q (E σ)) : wpAny (model X.prog X.w) X.A (call (.ref f) us) (EP X pins σ Q) X.xe s := by
  have hl : us.length = ps.length := by rw [← r.length]; exact F.len _ _ _ _ h
  have b := hb s us I.kIn (by rw [List.append_nil]; exact hl)
  rw [List.append_nil] at b
  refine wpAny_call (codeAny_mono (F.run X.A X.stack s H ⟨us, []⟩ us vs Q (E σ) hr I.env0 b r h) fun r s' hq => ?_)
  cases r with
  | error e => exact hx pins H s e s' I hq
  | ok fl =>
    cases fl with
    | ret u => exact I.after hq
    | next => exact False.elim hq
    | brk => exact False.elim hq
    | cont => exact False.elim hq
theorem pe_callQ (F : FnQ X.prog X.w X.K X.mg X.base CX k f fd ps sp) (hr : L2H.RoomH k X.A) (hg : Gl X x) (hm : X.mg x = some (.ref f)) (hk : PySem.W.keepIn X.K (.ref f) = true) (hb : Binds X.K fd ps []) (hx : ∀ σ, PassesAt CX X σ (E σ))
    (ha : PA X (e :: es) t) (hdb : (x == ("__debug__" : Str)) = false := by decide) (he : starEach (e :: es) X.env = (false, eval e X.env) :: starEach es X.env := by rfl) (hpl : (backTo pos (starEach es X.env)).any (·.1) = false := by rfl) :
    PE X (.Call (.Name x q) (e :: es) [] pos) (tCallS sp E t) := by
  refine ⟨fun pins s σ H Q I h => ?_⟩
  refine wpAny_Call_Name_kw (ld_glob I hg hm ?_ hdb)
  refine PySem.W.callWith_K (h₀ := X.base) I.ok.mod.kin hk (thn (ha.run pos pins s σ H _ I h) fun us s1 ⟨vs, H1, I1, r, q⟩ => ⟨I1.kIn, ?_⟩) he hpl
  exact run_fnQ F hr hb (hx σ) I1 r q
end
theorem hot_fn {G : Gx} {P : Program} {w : World} {K : PySem.W.Frag} {mg : Str → Option Value} {base : Heap} {k : Nat} {f : Addr} {name qual : Str} {params : Arguments} {scope : Scope} {dV kV doc pm cdv ct oc : Value} {an od : Option Addr} {osl : Array (Option Value)} {ck : Cc} (hck : ck.G = G)
    {p1 p2 p3 p4 p5 p6 p7 p8 p9 p10 p11 : Pos} (row : RowOk mg rc G) (hK : K = G.K)
    (lk : K.lookup f = some ⟨oc, od, .func (PySem.W.fnOf name qual params [.Return (some (.BoolOp .And [.Call (.Name "isinstance" p1) [.Name "value" p2, .Name "int" p3] [] p4, .UnaryOp .Not (.Call (.Name "isinstance" p5) [.Name "value" p6, .Name "bool" p7] [] p8) p9] p10)) p11] scope dV kV doc pm an cdv ct), osl⟩)
    (hcd : PySem.W.codeIn K cdv qual = true) (S : FnScope ["value"] ["value"] scope) (hv : scope.names.lookup ("value" : Str) = some .local) (g1 : scope.names.lookup ("isinstance" : Str) = some .globalImplicit) (m1 : mg "isinstance" = none)
    (g2 : scope.names.lookup ("int" : Str) = some .globalImplicit) (m2 : mg "int" = none) (g3 : scope.names.lookup ("bool" : Str) = some .globalImplicit) (m3 : mg "bool" = none) :
    FnQ P w K mg base (L2.CX P w) (k + 1) f (PySem.W.fnOf name qual params [.Return (some (.BoolOp .And [.Call (.Name "isinstance" p1) [.Name "value" p2, .Name "int" p3] [] p4, .UnaryOp .Not (.Call (.Name "isinstance" p5) [.Name "value" p6, .Name "bool" p7] [] p8) p9] p10)) p11] scope dV kV doc pm an cdv ct) ["value"] (spH G) := by
  subst hck
  refine fn_ofQ lk hcd S (fun vs H Q E ⟨v, W, S, d, b1, b2, h, _⟩ => by rw [h]; rfl) fun A outer s H vs Q E _ hsp => ?_
  refine ⟨_, hot_body (c := ck) (Y := cxQ (L2.CX P w) P w K mg base ["value"] qual scope f cdv A outer s H E) row hK rfl (.inl hv) g1 m1 g2 m2 g3 m3, ?_⟩
  obtain ⟨v, W, S, d, b1, b2, rfl, st, r, t1, t2, q⟩ := hsp
  exact ⟨v, W, S, d, b1, b2, rfl, st, r, t1, t2, q⟩
end
end Mn

set_option maxRecDepth 100000
set_option maxHeartbeats 1000000
/-! try -/
namespace Mn
open PySem PySem.Spec PyProof.Rows L2
theorem PE.ex {X : L2.Cx} {e : Expr} {ι : Type} {t : ι → TE} (h : ∀ d, PE X e (t d)) : PE X e (fun σ H Q => ∃ d, t d σ H Q) := ⟨fun pins s σ H Q I ⟨d, q⟩ => (h d).run pins s σ H Q I q⟩
/-- a part's datum -/
def pD (d : D) : E → Option D
  | .k p => some p
  | .xarg _ => some d
  | .bin _ (.k (.str s)) (.xarg _) => (match d with | .str z => if lenOk (s.length + z.length) then some (.str (s ++ z)) else none | _ => none)
  | _ => none
def qD (d : D) : E → Option D
  | .tup [a, b] => (pD d a).bind fun p => (pD d b).map fun q => .tup [p, q]
  | _ => none
/-- what a suite's slot holds -/
def Hs (N : List Str) (ρ : Rho) (i n : Nat) (d : D) : Prop := i < N.length → ρ[i]? = some (some (.exc n d))
section
variable {rc : RC} {c : Cc} {k : Nat} {X : L2.Cx} {sc : Scope} {DD : DC} {i n : Nat} {d : D} {e : Expr} {m : E} {a C : Addr} {cls : Value} {dx : Option Addr} {oe : Obj} {pns : List (Addr × Obj)}
theorem cX_is (h : cX rc DD sc i n e = some m) : ∃ y f p1 p2, e = .Attribute (.Name y p1) f p2 ∧ slot? DD.N sc y = some i ∧ rc.xfs.lookup n = some f ∧ m = .xarg i := by
  cases e <;> first | (cases h; done) | skip
  rename_i b f p2
  cases b <;> first | (cases h; done) | skip
  rename_i y p1
  simp only [cX] at h
  by_cases hc : (slot? DD.N sc y == some i && rc.xfs.lookup n == some f) = true
  · rw [if_pos hc] at h
    cases h
    simp only [Bool.and_eq_true, beq_iff_eq] at hc
    exact ⟨y, f, p1, p2, rfl, hc.1, hc.2, rfl⟩
  · rw [if_neg hc] at h; cases h
theorem slot_lt (x : XC rc c k X sc DD.N) {y : Str} (h : slot? DD.N sc y = some i) : i < DD.N.length := by
  have := (x.slot h).1
  rw [x.hN] at this
  exact (List.getElem?_eq_some_iff.mp this).1
inductive H0 (rc : RC) (DD : DC) (sc : Scope) (i n : Nat) : Expr → E → Prop
  | k {z : Const} {j : Nat} {p : Pos} {m : E} : cConst z = some m → H0 rc DD sc i n (.Constant z j p) m
  | x {e : Expr} {m : E} : cX rc DD sc i n e = some m → H0 rc DD sc i n e m
  | b {s : Str} {j : Nat} {p1 pos : Pos} {b : Expr} {m : E} : cX rc DD sc i n b = some m → H0 rc DD sc i n (.BinOp (.Constant (.str s) j p1) .Add b pos) (.bin .add (.k (.str s)) m)
theorem h0_of (h : cH0 rc DD sc i n e = some m) : H0 rc DD sc i n e m := by
  cases e <;> first | (exact .x h) | skip
  · rename_i l op r pos
    cases l <;> first | (exact .x h) | skip
    rename_i z j p1
    cases z <;> first | (exact .x h) | skip
    cases op <;> first | (exact .x h) | skip
    simp only [cH0, Option.map_eq_some_iff] at h
    obtain ⟨q, h1, rfl⟩ := h
    exact .b h1
  · exact .k h
theorem const_k {z : Const} (h : cConst z = some m) : ∃ p v, m = .k p ∧ (∀ F, Rep c.G F p v) ∧ ∀ (Y : L2.Cx) j pos, PE Y (.Constant z j pos) (tC v) := by
  cases z <;> first | (cases h; done) | skip
  · cases h; exact ⟨_, _, rfl, fun F => .non, fun Y j pos => pe_non⟩
  · cases h; exact ⟨_, _, rfl, fun F => .bl _, fun Y j pos => pe_bl⟩
  · cases h; exact ⟨_, _, rfl, fun F => .int _, fun Y j pos => pe_int⟩
  · cases h; exact ⟨_, _, rfl, fun F => .str _, fun Y j pos => pe_str⟩
theorem h0_eval (x : XC rc c k X sc DD.N) (h : H0 rc DD sc i n e m) {Y : Ev} {ρ : Rho} {S : Sto} (hs : Hs DD.N ρ i n d) : evalE Y m ρ S = R.d (pD d m) S := by
  have hx : ∀ {e m}, cX rc DD sc i n e = some m → m = .xarg i ∧ ρ[i]? = some (some (.exc n d)) := fun h => by
    obtain ⟨y, f, p1, p2, _, h1, _, h2⟩ := cX_is h
    exact ⟨h2, hs (slot_lt x h1)⟩
  cases h with
  | k h =>
    obtain ⟨p, v, rfl, _⟩ := const_k (c := c) h
    simp [evalE, pD, R.d]
  | x h =>
    obtain ⟨rfl, h2⟩ := hx h
    simp [evalE, pD, R.d, h2]
  | b h =>
    obtain ⟨rfl, h2⟩ := hx h
    simp only [evalE, pD, R.bind, h2, Ev.bin]
    cases d <;> simp [arith, R.d]
theorem h0_pe (xs : XS rc c k X sc DD.N) (hC : c.G.exA n = some C) (hz : Zc cls dx oe) (hf : ∃ vs, oe.data = .fields vs) (h : H0 rc DD sc i n e m) {p : D} (hp : pD d m = some p) : PE (X.suite a ((a, oe) :: pns)) e (tP c.G DD.N i n d a cls dx p) ∧ Pl e := by
  have x := xs.xc
  have hx : ∀ {e m}, cX rc DD sc i n e = some m → m = .xarg i ∧ PE (X.suite a ((a, oe) :: pns)) e (tP c.G DD.N i n d a cls dx d) ∧ Pl e := fun h => by
    obtain ⟨y, f, p1, p2, rfl, h1, h3, h2⟩ := cX_is h
    obtain ⟨B, fI, qual, T⟩ := xs.ex n C hC
    obtain ⟨s1, s2, s3, s4⟩ := x.slot h1
    have e := xs.xfs n f h3
    subst e
    exact ⟨h2, tp_x T hC hz hf s1 x.hN s2 s3 s4, fun _ _ => rfl⟩
  cases h with
  | k h =>
    obtain ⟨q, v, rfl, hr, hq⟩ := const_k (c := c) h
    simp only [pD, Option.some.injEq] at hp
    subst hp
    exact ⟨tp_const (hq _ _ _) hr, fun _ _ => rfl⟩
  | x h =>
    obtain ⟨rfl, h2, h3⟩ := hx h
    simp only [pD, Option.some.injEq] at hp
    subst hp
    exact ⟨h2, h3⟩
  | b h =>
    obtain ⟨rfl, h2, h3⟩ := hx h
    simp only [pD] at hp
    cases d <;> first | (cases hp; done) | skip
    simp only at hp
    split at hp
    · rename_i hl
      cases hp
      exact ⟨tp_cat rfl (of_decide_eq_true hl) h2, fun _ _ => rfl⟩
    · cases hp
/-- two parts -/
inductive H1 (rc : RC) (DD : DC) (sc : Scope) (i n : Nat) : Expr → E → Prop
  | mk {a b : Expr} {kk : Nat} {p : Pos} {x y : E} : H0 rc DD sc i n a x → H0 rc DD sc i n b y → H1 rc DD sc i n (.Tuple [a, b] kk p) (.tup [x, y])
theorem h1_of (h : cH1 rc DD sc i n e = some m) : H1 rc DD sc i n e m := by
  cases e <;> first | (cases h; done) | skip
  rename_i es kk p
  match es, h with
  | [a, b], h =>
    simp only [cH1, Option.bind_eq_some_iff, Option.map_eq_some_iff] at h
    obtain ⟨x, h1, y, h2, rfl⟩ := h
    exact .mk (h0_of h1) (h0_of h2)
  | [], h => cases h
  | [_], h => cases h
  | _ :: _ :: _ :: _, h => cases h
theorem h1_eval (x : XC rc c k X sc DD.N) (h : H1 rc DD sc i n e m) {Y : Ev} {ρ : Rho} {S : Sto} (hs : Hs DD.N ρ i n d) : evalE Y m ρ S = R.d (qD d m) S := by
  cases h with
  | mk h1 h2 =>
    rename_i p q
    simp only [evalE, evalEs, h0_eval x h1 hs, qD]
    cases e1 : pD d p with
    | none => rfl
    | some u =>
      simp only [R.d, R.bind, h0_eval x h2 hs]
      cases e2 : pD d q with
      | none => rfl
      | some v => rfl
theorem h1_pe (xs : XS rc c k X sc DD.N) (hC : c.G.exA n = some C) (hz : Zc cls dx oe) (hf : ∃ vs, oe.data = .fields vs) (h : H1 rc DD sc i n e m) {p : D} (hp : qD d m = some p) :
    PE (X.suite a ((a, oe) :: pns)) e (fun σ H Q => ∃ W S, XF c.G DD.N i n d a cls dx W σ H ∧ StOk c.G W H S ∧ Ans c.G W H S p Q) := by
  cases h with
  | mk h1 h2 =>
    simp only [qD, Option.bind_eq_some_iff, Option.map_eq_some_iff] at hp
    obtain ⟨p1, e1, p2, e2, rfl⟩ := hp
    obtain ⟨a1, a2⟩ := h0_pe (pns := pns) (a := a) xs hC hz hf h1 e1
    obtain ⟨b1, b2⟩ := h0_pe (pns := pns) (a := a) xs hC hz hf h2 e2
    exact tp_pair a1 b1 a2 b2
/-- a pair of constants -/
theorem h1_con (x : XC rc c k X sc DD.N) (h : H1 rc DD sc DD.N.length n e m) : ∃ p, (∀ Y ρ S, evalE Y m ρ S = .ok (.val p) S) ∧ ∀ Y : L2.Cx, PE Y e (fun σ H Q => ∃ W S, StOk c.G W H S ∧ Ans c.G W H S p Q) := by
  have h0 : ∀ {e m}, H0 rc DD sc DD.N.length n e m → ∃ p v, m = .k p ∧ (∀ F, Rep c.G F p v) ∧ (∀ Y : L2.Cx, PE Y e (tC v)) ∧ Pl e := fun h => by
    have no : ∀ {e m}, cX rc DD sc DD.N.length n e = some m → False := fun h => by
      obtain ⟨y, f, p1, p2, _, h1, _, h2⟩ := cX_is h
      exact Nat.lt_irrefl _ (slot_lt x h1)
    cases h with
    | k h =>
      obtain ⟨p, v, h1, h2, h3⟩ := const_k (c := c) h
      exact ⟨p, v, h1, h2, fun Y => h3 Y _ _, fun _ _ => rfl⟩
    | x h => exact (no h).elim
    | b h => exact (no h).elim
  cases h with
  | mk h1 h2 =>
    obtain ⟨p1, v1, rfl, r1, q1, l1⟩ := h0 h1
    obtain ⟨p2, v2, rfl, r2, q2, l2⟩ := h0 h2
    refine ⟨.tup [p1, p2], fun Y ρ S => by simp [evalE, evalEs, vals, R.d], fun Y => ?_⟩
    refine PE.imp (pe_tup (pa_cons (q1 Y) (pa_cons (q2 Y) pa_nil (l2 _ _)) (l1 _ _))) fun σ H Q q => ?_
    obtain ⟨W, S, st, an⟩ := q
    refine ⟨?_, fun p hp => ?_⟩
    · show 2 ≤ sizeLine
      decide
    · exact an.lay st hp (.tup (SqT.of upd_same) (Reps.mono (Ext.upd (st.dead hp)) (.cons (r1 _) (.cons (r2 _) .nil))))
theorem no_pass {CX0 : CXT} {P : Program} {w : World} (Y : L2.Cx) (σ : L2.St) : PassesAt (L2.CX P w) Y σ (fun _ _ _ => False) := fun pins H s e s' I h => by
  obtain ⟨_, _, _, _, _, _, _, _, _, _, _, _, z⟩ := h
  exact z.elim
/-- the test by the def of the row -/
theorem hot_pt (xs : XS rc c k X sc DD.N) (hC : c.G.exA n = some C) (hz : Zc cls dx oe) (hf : ∃ vs, oe.data = .fields vs) {j : Nat} (hk : k = j + 1) {y : Str} (hg : glob? rc sc y = some (.fn rc.hot)) {z : Expr} (h : cX rc DD sc i n z = some m) {p1 p2 : Pos} :
    PT (X.suite a ((a, oe) :: pns)) (.Call (.Name y p1) [z] [] p2) (fun σ H Q => ∃ W S b1 b2, XF c.G DD.N i n d a cls dx W σ H ∧ StOk c.G W H S ∧ isTy 0 d = some b1 ∧ isTy 1 d = some b2 ∧ ∀ W' H', StOk c.G W' H' S → Xt W H W' H' → Q (b1 && !b2) H') := by
  have x := xs.xc
  obtain ⟨g1, g2⟩ := x.glob hg
  obtain ⟨f, f1, f2⟩ := x.row.gl y _ g2
  obtain ⟨fd, F, hb⟩ := xs.hot.q f f1
  have hm : pD d m = some d := by
    obtain ⟨_, _, _, _, _, _, _, rfl⟩ := cX_is h
    rfl
  obtain ⟨a1, a2⟩ := h0_pe (pns := pns) (a := a) xs hC hz hf (.x h) hm
  have F1 := F j
  rw [← hk] at F1
  have rm : L2H.RoomH k (X.suite a ((a, oe) :: pns)).A := ⟨(L2H.roomH_of x.room).dp, (L2H.roomH_of x.room).un⟩
  have hkp : PySem.W.keepIn X.K (.ref f) = true := by rw [x.hK]; exact x.kpF _ _ f1
  have call := pe_callQ (X := X.suite a ((a, oe) :: pns)) (q := p1) (pos := p2) (E := fun _ _ _ _ => False) F1 rm g1 f2 hkp hb (fun σ => no_pass (CX0 := L2.CX X.prog X.w) _ σ) (pa_cons a1 pa_nil (a2 _ _)) (x.gdbg _ _ g2) (a2 _ _) rfl
  refine PT.imp (pt_val call (fun _ => rfl)) fun σ H Q q => ?_
  obtain ⟨W, S, b1, b2, xf, st, t1, t2, q⟩ := q
  exact ⟨W, xf, fun v r => ⟨v, W, S, d, b1, b2, rfl, st, r, t1, t2, fun W' H' s' x' => ⟨_, rfl, q W' H' s' x'⟩⟩⟩
/-- a suite's answer -/
def tH (c : Cc) (DD : DC) (i n : Nat) (m : E) (a : Addr) (cls : Value) (dx : Option Addr) : TE := fun σ H Q => ∃ d W S ρ, XF c.G DD.N i n d a cls dx W σ H ∧ StOk c.G W H S ∧ Hs DD.N ρ i n d ∧ ∀ r, evalE c.X m ρ S = r → (match r with | .ok x S' => ∀ v H' W', StOk c.G W' H' S' → Xt W H W' H' → AV c.G W' x v → Q v H' | .ex _ _ _ => True | .st => False)
theorem h_one (xs : XS rc c k X sc DD.N) (hC : c.G.exA n = some C) (hz : Zc cls dx oe) (hf : ∃ vs, oe.data = .fields vs) (h : cH1 rc DD sc i n e = some m) : PE (X.suite a ((a, oe) :: pns)) e (tH c DD i n m a cls dx) := by
  have h := h1_of h
  refine PE.ex fun d => ?_
  cases hq : qD d m with
  | none =>
    refine ⟨fun pins s σ H Q I q => ?_⟩
    obtain ⟨W, S, ρ, _, _, hs, q⟩ := q
    have := q _ (h1_eval xs.xc h hs)
    rw [hq] at this
    exact this.elim
  | some p =>
    refine PE.imp (h1_pe xs hC hz hf h hq) fun σ H Q q => ?_
    obtain ⟨W, S, ρ, xf, st, hs, q⟩ := q
    have := q _ (h1_eval xs.xc h hs)
    rw [hq] at this
    exact ⟨W, S, xf, st, fun v' H' W' s' x' r' => this v' H' W' s' x' r'⟩
theorem PE.no {X : L2.Cx} {e : Expr} {t : TE} (h : ∀ σ H Q, t σ H Q → False) : PE X e t := ⟨fun pins s σ H Q I q => (h _ _ _ q).elim⟩
theorem h_pe (xs : XS rc c k X sc DD.N) (hC : c.G.exA n = some C) (hz : Zc cls dx oe) (hf : ∃ vs, oe.data = .fields vs) (h : cH rc DD sc i n e = some m) : PE (X.suite a ((a, oe) :: pns)) e (tH c DD i n m a cls dx) := by
  cases e <;> first | (exact h_one xs hC hz hf h) | skip
  rename_i t x y pos
  cases t <;> first | (exact h_one xs hC hz hf h) | skip
  rename_i f as kws p2
  cases f <;> first | (exact h_one xs hC hz hf h) | skip
  rename_i f p1
  match as, kws, h with
  | [], _, h => exact h_one xs hC hz hf h
  | _ :: _ :: _, _, h => exact h_one xs hC hz hf h
  | [_], _ :: _, h => exact h_one xs hC hz hf h
  | [z], [], h =>
    have xc := xs.xc
    simp only [cH] at h
    cases hg : glob? rc sc f with
    | none => rw [hg] at h; cases h
    | some gm =>
      rw [hg] at h
      cases gm <;> first | (cases h; done) | skip
      rename_i g
      simp only at h
      by_cases hh : (g == rc.hot) = true
      · rw [if_pos hh] at h
        obtain rfl : g = rc.hot := eq_of_beq hh
        simp only [Option.bind_eq_some_iff, Option.map_eq_some_iff] at h
        obtain ⟨mz, h1, mx, h2, my, h3, rfl⟩ := h
        obtain ⟨px, ex, qx⟩ := h1_con xc (h1_of h2)
        obtain ⟨py, ey, qy⟩ := h1_con xc (h1_of h3)
        refine PE.ex fun d => ?_
        obtain ⟨_, _, _, _, _, sl, _, rfl⟩ := cX_is h1
        have hev : ∀ {ρ : Rho} {S : Sto}, Hs DD.N ρ i n d → evalE c.X (.ite (.call rc.hot [.xarg i]) mx my) ρ S = (c.X.call rc.hot [.val d] S).bind fun x S1 => (match x with | .val (.bl true) => .ok (.val px) S1 | .val (.bl false) => .ok (.val py) S1 | _ => .st) := fun {ρ S} hs => by
          have h2 := hs (slot_lt xc sl)
          simp only [evalE, evalEs, h2, R.bind, ex, ey]
          try rfl
        cases k with
        | zero =>
          refine PE.no fun σ H Q q => ?_
          obtain ⟨W, S, ρ, _, _, hs, q⟩ := q
          have := q _ (hev hs)
          rw [xc.hX] at this
          exact this.elim
        | succ j =>
          have hcall : ∀ S, c.X.call rc.hot [.val d] S = callM c.G.Γ (j + 1) rc.hot [.val d] S := fun S => by rw [xc.hX]; rfl
          refine PE.imp (pe_ifExp (hot_pt (d := d) xs hC hz hf rfl hg h1) (qx _) (qy _)) fun σ H Q q => ?_
          obtain ⟨W, S, ρ, xf, st, hs, q⟩ := q
          have := q _ (hev hs)
          rw [hcall] at this
          rcases xs.hot.m (j + 1) d S with e | ⟨b1, b2, t1, t2, e⟩
          · rw [e] at this; exact this.elim
          · rw [e] at this
            refine ⟨W, S, b1, b2, xf, st, t1, t2, fun W' H' s' x' => ?_⟩
            cases hb : (b1 && !b2) with
            | true =>
              rw [hb] at this
              rw [if_pos rfl]
              exact ⟨W', S, s', fun v' H2 W2 s2 x2 r2 => this v' H2 W2 s2 (x'.trans x2) r2⟩
            | false =>
              rw [hb] at this
              rw [if_neg (by simp)]
              exact ⟨W', S, s', fun v' H2 W2 s2 x2 r2 => this v' H2 W2 s2 (x'.trans x2) r2⟩
      · rw [if_neg hh] at h; cases h
end
end Mn

set_option maxRecDepth 100000
set_option maxHeartbeats 1000000
/-! try: the whole -/
namespace Mn
open PySem PySem.Spec PyProof.Rows L2
section
variable {rc : RC} {c : Cc} {k : Nat} {X : L2.Cx} {sc : Scope} {DD : DC}
theorem cHd_is {h : ExceptHandler} {n : Nat} {o : Option Nat} {m : E} (hh : cHd rc DD sc h = some (n, o, m)) : ∃ x np no e rp pos', h = .ExceptHandler (some (.Name x np)) no [.Return (some e) rp] pos' ∧ glob? rc sc x = some (.exc n) ∧
    ((no = none ∧ o = none ∧ cH rc DD sc DD.N.length n e = some m) ∨ ∃ nn i, no = some nn ∧ o = some i ∧ sc.names.lookup nn = some .local ∧ loc? DD.N sc nn = some i ∧ cH rc DD sc i n e = some m) := by
  unfold cHd at hh
  split at hh
  · rename_i x np no e rp pos'
    split at hh
    · rename_i cc hg
      split at hh
      · simp only [Option.map_eq_some_iff, Prod.mk.injEq] at hh
        obtain ⟨y, h1, rfl, rfl, rfl⟩ := hh
        exact ⟨_, _, _, _, _, _, rfl, hg, .inl ⟨rfl, rfl, h1⟩⟩
      · rename_i nn
        simp only [Option.bind_eq_some_iff, Option.map_eq_some_iff, Prod.mk.injEq] at hh
        obtain ⟨i, h0, y, h1, rfl, rfl, rfl⟩ := hh
        by_cases hl : (sc.names.lookup nn == some .local) = true
        · rw [if_pos hl] at h0
          exact ⟨_, _, _, _, _, _, rfl, hg, .inr ⟨_, _, rfl, rfl, eq_of_beq hl, h0, h1⟩⟩
        · rw [if_neg hl] at h0; cases h0
    · cases hh
  · cases hh
/-- a suite -/
def tU (c : Cc) (DD : DC) (i n : Nat) (m : E) (a : Addr) (cls : Value) (dx : Option Addr) : TS := fun D σ H => tH c DD i n m a cls dx σ H D.rt
theorem hds_ok (xs : XS rc c k X sc DD.N) : ∀ {hs : List ExceptHandler} {ys : List (Nat × Option Nat × E)}, cHds rc DD sc hs = some ys → ∃ l, HdMix X hs l ∧ ∀ (De : Ends) (e0 : Nat) (d : Mn.D) (ρ : Rho) (S : Sto) (σ : L2.St) (H : Hp) (W : Wd) (L : List Addr) (cls : Value) (dx : Option Addr),
    Ok c.G W H ρ σ S L → XR c.G W H e0 d cls dx → GoodS c W H (handle c.X e0 d ρ S ys) De → wMix X.K c.wx De l cls dx σ H
  | [], ys, h => by
    simp only [cHds, Option.some.injEq] at h
    subst h
    exact ⟨[], .nil, fun D e0 d ρ S σ H W L cls dx ok xr g => g cls dx σ H W L ok Xt.refl xr⟩
  | h :: hs, ys, hh => by
    simp only [cHds, Option.bind_eq_some_iff, Option.map_eq_some_iff] at hh
    obtain ⟨⟨n, o, m⟩, h1, r, h2, rfl⟩ := hh
    obtain ⟨l, hl, hw⟩ := hds_ok xs h2
    obtain ⟨x, np, no, e, rp, pos', rfl, hg, ho⟩ := cHd_is h1
    have xc := xs.xc
    obtain ⟨g1, g2⟩ := xc.glob hg
    obtain ⟨C, hC, hmg⟩ := xc.row.gl x _ g2
    have nam : Names X x (.ref C) := ⟨g1, xc.gdbg _ _ g2, .inl hmg⟩
    rcases ho with ⟨rfl, rfl, hc⟩ | ⟨nn, i, rfl, rfl, hlo, hi, hc⟩
    · refine ⟨(.ref C, none, fun a cls dx => tU c DD DD.N.length n m a cls dx) :: l, .cons nam trivial (fun a oe cls d pn hz hf => PSs.imp (pss_one (ps_ret (h_pe xs hC hz hf hc))) fun D σ H q => q) hl, ?_⟩
      intro D e0 d ρ S σ H W L cls dx ok xr g
      obtain ⟨C0, dd, v, x1, x2, x3, x4, x5⟩ := xr
      refine ⟨e0 == n, by rw [x2]; exact xs.exm e0 n C0 C x1 hC, fun hb a ha => ?_, fun hb => ?_⟩
      · obtain rfl : e0 = n := eq_of_beq hb
        simp only [handle, if_pos] at g
        refine ⟨d, W, S, ρ, ⟨fun hi => absurd hi (Nat.lt_irrefl _), C0, dd, v, x1, x2, x3, x4, x5⟩, ok.s, fun hi => absurd hi (Nat.lt_irrefl _), fun r hr => ?_⟩
        rw [hr] at g
        cases r with
        | ok y S' => exact g
        | ex _ _ _ => trivial
        | st => exact g
      · have hne : ¬ n = e0 := fun z => by rw [z] at hb; simp at hb
        simp only [handle, if_neg hne] at g
        exact hw D e0 d ρ S σ H W L cls dx ok ⟨C0, dd, v, x1, x2, x3, x4, x5⟩ g
    · obtain ⟨hN, _, _⟩ := xc.loc hi
      have hki : X.env.kindOf nn = some .local := by
        rcases xc.scf nn _ hlo with z | ⟨z, _⟩
        · exact z
        · cases z
      refine ⟨(.ref C, some i, fun a cls dx => tU c DD i n m a cls dx) :: l, .cons nam ⟨hN, hki⟩ (fun a oe cls d pn hz hf => PSs.imp (pss_one (ps_ret (h_pe xs hC hz hf hc))) fun D σ H q => q) hl, ?_⟩
      intro D e0 d ρ S σ H W L cls dx ok xr g
      obtain ⟨C0, dd, v, x1, x2, x3, x4, x5⟩ := xr
      refine ⟨e0 == n, by rw [x2]; exact xs.exm e0 n C0 C x1 hC, fun hb a ha => ?_, fun hb => ?_⟩
      · obtain rfl : e0 = n := eq_of_beq hb
        simp only [handle, if_pos] at g
        unfold putR at g
        by_cases hlt : i < ρ.length
        · rw [if_pos hlt] at g
          simp only at g
          have hlen := ok.l.length
          refine ⟨d, W, S, ρ.set i (some (.exc e0 d)), ⟨fun hi => ?_, C0, dd, v, x1, x2, x3, x4, x5⟩, ok.s, fun hi => by rw [List.getElem?_set_self hlt], fun r hr => ?_⟩
          · show (σ.set i (some (.ref a)))[i]? = _
            rw [List.getElem?_set_self (by omega)]
          · rw [hr] at g
            cases r with
            | ok y S' => exact g
            | ex _ _ _ => trivial
            | st => exact g
        · rw [if_neg hlt] at g
          exact g.elim
      · have hne : ¬ n = e0 := fun z => by rw [z] at hb; simp at hb
        simp only [handle, if_neg hne] at g
        exact hw D e0 d ρ S σ H W L cls dx ok ⟨C0, dd, v, x1, x2, x3, x4, x5⟩ g
theorem try_ok {n : Nat} : TryOk rc k DD sc n := fun recS ihs c X xs b h₀ hs pos ms ys h1 h2 => by
  obtain ⟨l, hl, hw⟩ := hds_ok xs h2
  refine PS.imp (ps_try_mix (tb := fun W => tSs ⟨c.G, c.X, W⟩ ms) xs.stk xs.fr (by rw [xs.xc.hN]; exact xs.xc.nd) xs.xc.tk (fun W pn xe tk po => ihs (xs.tr tk po) h1) hl) fun D σ H q => ?_
  obtain ⟨ρ, S, W, L, ok, g⟩ := q
  simp only [evalS] at g
  refine ⟨ρ, S, W, L, ok, ?_⟩
  cases ev : evalSs c.X ms ρ S with
  | ex e d ρ1 S1 => rw [ev] at g; exact fun cls dx σ' H' W' L' o x xr => hw D e d ρ1 S1 σ' H' W' L' cls dx o xr (GoodS.re g x)
  | nx _ _ => rw [ev] at g; exact g
  | rt _ _ => rw [ev] at g; exact g
  | bk _ _ => rw [ev] at g; exact g
  | ct _ _ => rw [ev] at g; exact g
  | st => rw [ev] at g; exact g
end
end Mn

set_option maxRecDepth 100000
set_option maxHeartbeats 1000000
/-! a row's facts, by one look -/
namespace Mn
open PySem PySem.Spec PyProof.Rows L2
abbrev ag (x : Str) : Str × Option Str := (x, none)
abbrev am (x m : Str) : Str × Option Str := (x, some m)
abbrev fp (n : Nat) (p : Str × Option Str) : Nat × (Str × Option Str) := (n, p)
abbrev cp (n : Nat) (x : Str) : Nat × Str := (n, x)
/-- a row's data: its names, its program, where its defs, classes, exceptions stand -/
structure RD where
  rc : RC
  Γ : Prog
  fns : List (Nat × (Str × Option Str))
  cls : List (Nat × Str)
  exs : List (Nat × Str)
namespace RD
variable (R : RD) (K : PySem.W.Frag)
def nm (f : Nat) : Str := match R.rc.ats.find? (fun p => p.2 == f) with
  | some p => p.1
  | none => ""
def fnA (f : Nat) : Option Addr := (R.fns.lookup f).map (He.fAd K)
def clA (c : Nat) : Option Addr := (R.cls.lookup c).map (He.ga K)
def exA (n : Nat) : Option Addr := (R.exs.lookup n).map (He.ga K)
def G : Gx := { K := K, Γ := R.Γ, fnA := R.fnA K, clA := R.clA K, exA := R.exA K, nm := R.nm, xf := fun n => (R.rc.xfs.lookup n).getD "" }
def dInt (a b : Option Value) : Bool := decide (a = b)
def isAt (x : Str) (o : Option Addr) : Bool := match o with
  | some a => He.eqO (PySem.W.nsIn K mainGlobals x) (some (some (.ref a)))
  | none => false
def conOk (x : Str) (d : D) : Bool := match d with
  | .int i => (match PySem.W.nsIn K mainGlobals x with
    | some (some (.int j _)) => decide (j = i)
    | _ => false)
  | .str z => (match PySem.W.nsIn K mainGlobals x with
    | some (some (.str y _)) => decide (y = z)
    | _ => false)
  | _ => false
def glOk (p : Str × Gm) : Bool := !(p.1 == ("__debug__" : Str)) && (match p.2 with
  | .fn f => isAt K p.1 (R.fnA K f)
  | .cls c => isAt K p.1 (R.clA K c)
  | .exc c => isAt K p.1 (R.exA K c)
  | .con d => conOk K p.1 d)
def tys : List String := ["NoneType", "bool", "int", "str", "list", "tuple"]
def find? (C : Addr) (m : Str) (o : Option Addr) : Bool := match o with
  | some a => He.eqO (PySem.W.findIn K (.ref C) m) (some (some (.ref a)))
  | none => true
def opOk (C : Addr) (cl : Cl) (o : Op) : Bool := match cl.meths.lookup o.nm with
  | none => true
  | some f => find? K C (PySem.dunder (opn o).info.2) (R.fnA K f) && He.eqO (PySem.W.findIn K (.ref C) (PySem.dunderR (opn o).info.2)) (some none)
def methOk (C : Addr) (cl : Cl) (p : Nat × Nat) : Bool := (match R.fnA K p.2 with
  | none => false
  | some a => PySem.W.isFn K (.ref a) && (decide (p.1 < 6) || (He.eqO (PySem.W.findIn K (.ref C) (R.nm p.1)) (some (some (.ref a))) && cl.flds.all fun g => !(R.nm g == R.nm p.1))))
def eqOk (C : Addr) (cl : Cl) : Bool := cl.mu || (match cl.meths.lookup 4 with
  | none => false
  | some f => (match R.Γ.fn f with
    | none => false
    | some fn => fn.np == 2) && find? K C "__eq__" (R.fnA K f) && (tys.all fun t => PySem.W.notFirst K C (.type t)) && R.cls.all fun q => PySem.W.notFirst K C (.ref (He.ga K q.2)))
def clsOk1 (name : Str) (cl : Cl) : Bool := (He.Fa.cls name).ok K && (cl.flds.all fun f => (He.Fa.noat name (R.nm f)).ok K) && He.eqO (PySem.W.findIn K (.ref (He.ga K name)) "__class__") (some (some (.builtin "object.__class__"))) &&
  decide (PySem.W.mroIn K (He.ga K name) (.type "object") = some true) && (["int", "bool", "tuple", "list", "str"].all fun t => decide (PySem.W.kitOne K (.ref (He.ga K name)) (.type t) = some false)) &&
  tys.all fun t => decide (PySem.W.kitOne K (.type t) (.ref (He.ga K name)) = some false)
def clsOk2 (C : Addr) (cl : Cl) : Bool := PySem.W.makesIn K C && PySem.W.keepIn K (.ref C) && find? K C "__init__" (R.fnA K cl.init) && (cl.meths.all fun p => R.methOk K C cl p) && PySem.W.selfFirst K C &&
  (([.add, .sub, .mul] : List Op).all fun o => R.opOk K C cl o) && (match cl.meths.lookup 3 with
    | none => true
    | some f => find? K C "__neg__" (R.fnA K f)) && tys.all fun t => decide (PySem.W.subIn K (.type t) (.ref C) = some false)
def clOk (p : Nat × Str) : Bool := match R.Γ.cl p.1 with
  | none => false
  | some cl => R.clsOk1 K p.2 cl && R.clsOk2 K (He.ga K p.2) cl && R.eqOk K (He.ga K p.2) cl && (cl.flds.all fun f => cl.flds.all fun g => !(R.nm f == R.nm g) || f == g) &&
    R.cls.all fun q => decide (PySem.W.kitOne K (.ref (He.ga K p.2)) (.ref (He.ga K q.2)) = some (p.1 == q.1))
def excLook (C B : Addr) : Bool := match K.lookup C with
  | some ⟨.type t, _, .cls cd, sl⟩ => decide (t = "type") && (match cd.mro, sl.toList with
    | .ref C' :: bm, [_, _, _, _, some (.builtin n), _] => decide (C' = C) && decide (n = "Exception.__new__") && !cd.hasDel && cd.hasDict && decide (bm = PySem.MnX.tail2 B)
    | _, _ => false)
  | _ => false
def excOk (p : Nat × Str) : Bool :=
  let C := He.ga K p.2
  let B := He.ga K "Fault"
  let pn : Str := (R.rc.xfs.lookup p.1).getD ""
  (decide (pn = "reason") || decide (pn = "at")) && excLook K C B && He.eqO (PySem.W.findIn K (.ref C) "__setattr__") (some (some (.builtin "object.__setattr__"))) &&
  He.eqO (PySem.W.findIn K (.ref C) "__getattribute__") (some (some (.builtin "BaseException.__getattribute__"))) && He.eqO (PySem.W.findIn K (.ref C) "__getattr__") (some none) && He.eqO (PySem.W.findIn K (.ref C) pn) (some none) &&
  He.eqO (PySem.W.findIn K (.ref C) "__init__") (some (some (.ref (He.ma K C "__init__")))) && PySem.W.isFn K (.ref (He.ma K C "__init__")) && PySem.W.keepIn K (.ref C) && decide (PySem.W.subIn K (.ref C) (.type "BaseException") = some true) &&
  decide (PySem.W.typeIn K (.ref C) = some (.type "type")) && PySem.W.hasDictIn K C && He.eqO (PySem.W.nsIn K mainGlobals "Fault") (some (some (.ref B))) && He.eqO (PySem.W.specialIn K (.ref B) "__getattribute__") (some (some (.builtin "type.__getattribute__"))) &&
  PySem.W.readsIn K B (.type "type") && (match PySem.W.findCls K (.ref B) (.type "type") "__init__" with
    | some (.val v) => decide (v = .builtin "Exception.__init__")
    | _ => false) && R.exs.all fun q => decide (PySem.W.exmOne K (.ref C) (.ref (He.ga K q.2)) = some (p.1 == q.1))
/-- all of it -/
def ok : Bool := (R.rc.gl.all fun p => R.glOk K p) && (R.rc.blt.all fun x => He.eqO (PySem.W.nsIn K mainGlobals x) (some none)) && (R.rc.ats.all fun p => decide (R.nm p.2 = p.1) && decide (6 ≤ p.2)) && (R.cls.all fun p => R.clOk K p) && (R.exs.all fun p => R.excOk K p) &&
  (R.fns.all fun p => PySem.W.isFn K (.ref (He.fAd K p.2)) && PySem.W.keepIn K (.ref (He.fAd K p.2))) && He.eqO (PySem.W.specialIn K (.builtin "object.__class__") "__get__") (some (some (.builtin "getset_descriptor.__get__"))) &&
  decide (PySem.W.takesIn K (.builtin "object.__class__") = some true) && (([.add, .sub, .mul] : List Op).all fun o => tys.all fun t => (PySem.W.findIn K (.type t) (PySem.dunder (opn o).info.2)).isSome && (PySem.W.findIn K (.type t) (PySem.dunderR (opn o).info.2)).isSome) &&
  He.eqO (PySem.W.nsIn K cStatics "sys.int_max_str_digits") (some none) && K.all fun q => !(q.2.cls == .type "list")
end RD
end Mn

set_option maxRecDepth 100000
set_option maxHeartbeats 1000000
/-! a row's facts, by one look: what they give -/
namespace Mn
open PySem PySem.Spec PyProof.Rows L2
theorem lk_mem {α β : Type} [BEq α] [LawfulBEq α] {x : α} {v : β} : ∀ {l : List (α × β)}, l.lookup x = some v → (x, v) ∈ l
  | [], h => by cases h
  | (a, b) :: l, h => by
    simp only [List.lookup] at h
    split at h
    · rename_i e
      cases h
      rw [eq_of_beq e]
      exact List.mem_cons_self
    · exact List.mem_cons_of_mem _ (lk_mem h)
namespace RD
section
variable {R : RD} {K : PySem.W.Frag} {h : Heap} {mg : Str → Option Value}
theorem fnA_of {f : Nat} {a : Addr} (e : (R.G K).fnA f = some a) : ∃ p, (f, p) ∈ R.fns ∧ a = He.fAd K p := by
  have e : (R.fns.lookup f).map (He.fAd K) = some a := e
  rw [Option.map_eq_some_iff] at e
  obtain ⟨p, h1, h2⟩ := e
  exact ⟨p, lk_mem h1, h2.symm⟩
theorem clA_of {c : Nat} {C : Addr} (e : (R.G K).clA c = some C) : ∃ p, (c, p) ∈ R.cls ∧ C = He.ga K p := by
  have e : (R.cls.lookup c).map (He.ga K) = some C := e
  rw [Option.map_eq_some_iff] at e
  obtain ⟨p, h1, h2⟩ := e
  exact ⟨p, lk_mem h1, h2.symm⟩
theorem exA_of {c : Nat} {C : Addr} (e : (R.G K).exA c = some C) : ∃ p, (c, p) ∈ R.exs ∧ C = He.ga K p := by
  have e : (R.exs.lookup c).map (He.ga K) = some C := e
  rw [Option.map_eq_some_iff] at e
  obtain ⟨p, h1, h2⟩ := e
  exact ⟨p, lk_mem h1, h2.symm⟩
theorem nodigits {h : Heap} {K : PySem.W.Frag} (X : K.In h) (hn : h.NoLimit) (e : PySem.W.nsIn K cStatics "sys.int_max_str_digits" = some none) : h.NoDigits := by
  obtain ⟨mc, h1, _⟩ := hn
  refine ⟨mc, h1, ?_⟩
  obtain ⟨o, es, ep, ho, hd, _, hf⟩ := h1
  unfold PySem.W.nsIn at e
  cases q : K.lookup cStatics with
  | none => rw [q] at e; cases e
  | some ob =>
    have := X _ _ q
    rw [ho] at this
    cases this
    rw [q] at e
    obtain ⟨oc, od, dt, osl⟩ := o
    cases hd
    simp only at e
    split at e
    · cases e
    · rename_i he
      have := hf "sys.int_max_str_digits"
      rw [← this]
      unfold PySem.nsFind PySem.findBy
      rw [← Array.find?_toList, he]
      rfl
theorem isAt_ok (X : K.In h) (Gm : h.Ns mainGlobals mg) {x : Str} {o : Option Addr} (e : isAt K x o = true) : ∃ a, o = some a ∧ mg x = some (.ref a) := by
  cases o with
  | none => cases e
  | some a => exact ⟨a, rfl, PySem.W.mg_of X Gm (He.eqO_ok e)⟩
theorem find_ok {C : Addr} {m : Str} {o : Option Addr} {a : Addr} (e : find? K C m o = true) (h : o = some a) : PySem.W.findIn K (.ref C) m = some (some (.ref a)) := by
  subst h
  exact He.eqO_ok e
theorem con_ok (X : K.In h) (Gm : h.Ns mainGlobals mg) {x : Str} {d : D} (e : conOk K x d = true) : ∃ u v, mg x = some u ∧ RelV v u ∧ ∀ F, Rep (R.G K) F d v := by
  cases d <;> first | (cases e; done) | skip
  · rename_i i
    simp only [conOk] at e
    split at e
    · rename_i j t q
      obtain rfl : j = i := of_decide_eq_true e
      exact ⟨_, .int j, PySem.W.mg_of X Gm q, ⟨t, rfl⟩, fun F => .int _⟩
    · cases e
  · rename_i z
    simp only [conOk] at e
    split at e
    · rename_i y t q
      obtain rfl : y = z := of_decide_eq_true e
      exact ⟨_, .str y, PySem.W.mg_of X Gm q, ⟨t, rfl⟩, fun F => .str _⟩
    · cases e
structure Ok1 (R : RD) (K : PySem.W.Frag) : Prop where
  gl : ∀ p ∈ R.rc.gl, R.glOk K p = true
  blt : ∀ x ∈ R.rc.blt, He.eqO (PySem.W.nsIn K mainGlobals x) (some none) = true
  ats : ∀ p ∈ R.rc.ats, R.nm p.2 = p.1 ∧ 6 ≤ p.2
  cls : ∀ p ∈ R.cls, R.clOk K p = true
  exs : ∀ p ∈ R.exs, R.excOk K p = true
  fns : ∀ p ∈ R.fns, PySem.W.isFn K (.ref (He.fAd K p.2)) = true ∧ PySem.W.keepIn K (.ref (He.fAd K p.2)) = true
  cg : PySem.W.specialIn K (.builtin "object.__class__") "__get__" = some (some (.builtin "getset_descriptor.__get__"))
  ct : PySem.W.takesIn K (.builtin "object.__class__") = some true
  ops : ∀ (o : Op), ∀ t ∈ tys, ∃ fo ro, PySem.W.findIn K (.type t) (PySem.dunder (opn o).info.2) = some fo ∧ PySem.W.findIn K (.type t) (PySem.dunderR (opn o).info.2) = some ro
  dg : PySem.W.nsIn K cStatics "sys.int_max_str_digits" = some none
  nol : ∀ b o, K.lookup b = some o → o.cls ≠ .type "list"
theorem ok1 (e : R.ok K = true) : Ok1 R K := by
  unfold ok at e
  simp only [Bool.and_eq_true, List.all_eq_true, decide_eq_true_eq] at e
  obtain ⟨⟨⟨⟨⟨⟨⟨⟨⟨⟨e1, e2⟩, e3⟩, e4⟩, e5⟩, e6⟩, e7⟩, e8⟩, e9⟩, e10⟩, e11⟩ := e
  refine ⟨e1, e2, e3, e4, e5, e6, He.eqO_ok e7, e8, fun o t ht => ?_, He.eqO_ok e10, fun b o hl hz => ?_⟩
  · have := e9 o (by cases o <;> simp) t ht
    obtain ⟨fo, h1⟩ := Option.isSome_iff_exists.mp this.1
    obtain ⟨ro, h2⟩ := Option.isSome_iff_exists.mp this.2
    exact ⟨fo, ro, h1, h2⟩
  · have := e11 (b, o) (He.lookup_mem hl)
    simp [hz] at this
theorem cls_of (o : Ok1 R K) {c : Nat} {C : Addr} (e : (R.G K).clA c = some C) : ∃ name cl, C = He.ga K name ∧ R.Γ.cl c = some cl ∧ R.clsOk1 K name cl = true ∧ R.clsOk2 K C cl = true ∧ R.eqOk K C cl = true ∧ (∀ f ∈ cl.flds, ∀ g ∈ cl.flds, R.nm f = R.nm g → f = g) ∧
    ∀ c' C', (R.G K).clA c' = some C' → PySem.W.kitOne K (.ref C) (.ref C') = some (c == c') := by
  obtain ⟨p, h1, rfl⟩ := clA_of e
  have := o.cls _ h1
  unfold clOk at this
  simp only at this
  cases hc : R.Γ.cl c with
  | none => rw [hc] at this; cases this
  | some cl =>
    rw [hc] at this
    simp only [Bool.and_eq_true, List.all_eq_true, decide_eq_true_eq, Bool.or_eq_true, Bool.not_eq_true', beq_eq_false_iff_ne, beq_iff_eq] at this
    obtain ⟨⟨⟨⟨a1, a2⟩, a3⟩, a4⟩, a5⟩ := this
    refine ⟨p, cl, rfl, rfl, a1, a2, a3, fun f hf g hg hn => ?_, fun c' C' e' => ?_⟩
    · rcases a4 f hf g hg with z | z
      · exact absurd hn z
      · exact z
    · obtain ⟨p', h1', rfl⟩ := clA_of e'
      exact a5 _ h1'
theorem row_of (X : K.In h) (Gm : h.Ns mainGlobals mg) (o : Ok1 R K) (hcl : ∀ c cl, R.Γ.cl c = some cl → (R.cls.lookup c).isSome = true) : RowOk mg R.rc (R.G K) where
  gl := fun x g hx => by
    have := o.gl _ (lk_mem hx)
    unfold glOk at this
    rw [Bool.and_eq_true] at this
    have := this.2
    cases g with
    | fn f => exact isAt_ok X Gm this
    | cls c => exact isAt_ok X Gm this
    | exc c => exact isAt_ok X Gm this
    | con d => exact con_ok X Gm this
  bl := fun x hx => PySem.W.mg_none_of X Gm (He.eqO_ok (o.blt x hx))
  nms := fun x f hx => (o.ats _ (lk_mem hx)).1
  inj := fun c cl hc f hf g hg hn => by
    obtain ⟨p, hp⟩ := Option.isSome_iff_exists.mp (hcl c cl hc)
    have hC : (R.G K).clA c = some (He.ga K p) := by
      show (R.cls.lookup c).map (He.ga K) = _
      rw [hp]; rfl
    obtain ⟨name, cl', e0, h1, h2, h3, h4, h5, h6⟩ := cls_of o hC
    have hc : R.Γ.cl c = some cl := hc
    rw [hc] at h1
    cases h1
    exact h5 f hf g hg hn
  cl := fun c C hC => by
    obtain ⟨name, cl, rfl, h1, h2, h3, h4, h5, h6⟩ := cls_of o hC
    refine ⟨cl, h1, ?_⟩
    unfold clsOk1 at h2
    simp only [Bool.and_eq_true, List.all_eq_true, decide_eq_true_eq] at h2
    obtain ⟨⟨⟨⟨⟨a1, a2⟩, a3⟩, a4⟩, a5⟩, a6⟩ := h2
    exact ⟨He.cls_ok a1, fun f hf => He.noat_ok (a2 f hf), He.eqO_ok a3, o.cg, o.ct, a4, a5, a6⟩
  clc := fun c C c' C' h1 h2 => by
    obtain ⟨name, cl, rfl, _, _, _, _, _, h6⟩ := cls_of o h1
    exact h6 c' C' h2
theorem er_of (o : Ok1 R K) : EqRow (R.G K).K (R.G K) := fun c cl C hc hm hC => by
  obtain ⟨name, cl', e0, h1, h2, h3, h4, h5, h6⟩ := cls_of o hC
  have hc : R.Γ.cl c = some cl := hc
  rw [hc] at h1
  cases h1
  unfold eqOk at h4
  rw [hm, Bool.false_or] at h4
  cases e1 : cl.meths.lookup 4 with
  | none => rw [e1] at h4; cases h4
  | some f =>
    rw [e1] at h4
    simp only [Bool.and_eq_true, List.all_eq_true] at h4
    obtain ⟨⟨⟨a1, a2⟩, a3⟩, a4⟩ := h4
    cases e2 : R.Γ.fn f with
    | none => rw [e2] at a1; cases a1
    | some fn =>
      rw [e2] at a1
      refine ⟨f, fn, rfl, e2, eq_of_beq a1, fun a ha => find_ok a2 ha, a3, fun c' C' h' => ?_⟩
      obtain ⟨p, h1, rfl⟩ := clA_of h'
      exact a4 _ h1
theorem cr_of (o : Ok1 R K) : ∀ n cl C, (R.G K).Γ.cl n = some cl → (R.G K).clA n = some C → ClsRun (R.G K).K (R.G K) n cl C := fun c cl C hc hC => by
  obtain ⟨name, cl', e0, h1, h2, h3, h4, h5, h6⟩ := cls_of o hC
  have hc : R.Γ.cl c = some cl := hc
  rw [hc] at h1
  cases h1
  unfold clsOk2 at h3
  simp only [Bool.and_eq_true, List.all_eq_true, decide_eq_true_eq] at h3
  obtain ⟨⟨⟨⟨⟨⟨⟨a1, a2⟩, a3⟩, a4⟩, a5⟩, a6⟩, a7⟩, a8⟩ := h3
  have meth : ∀ m f, cl.meths.lookup m = some f → ∃ a, (R.G K).fnA f = some a ∧ PySem.W.isFn K (.ref a) = true ∧ (m < 6 ∨ (PySem.W.findIn K (.ref C) (R.nm m) = some (some (.ref a)) ∧ ∀ g ∈ cl.flds, R.nm g ≠ R.nm m)) := fun m f hm => by
    have := a4 _ (lk_mem hm)
    unfold methOk at this
    simp only at this
    cases e : R.fnA K f with
    | none => rw [e] at this; cases this
    | some a =>
      rw [e] at this
      simp only [Bool.and_eq_true, Bool.or_eq_true, decide_eq_true_eq, List.all_eq_true, Bool.not_eq_true', beq_eq_false_iff_ne] at this
      refine ⟨a, e, this.1, ?_⟩
      rcases this.2 with z | z
      · exact .inl z
      · exact .inr ⟨He.eqO_ok z.1, z.2⟩
  have opk : ∀ (o : Op) f, cl.meths.lookup o.nm = some f → find? K C (PySem.dunder (opn o).info.2) (R.fnA K f) = true ∧ He.eqO (PySem.W.findIn K (.ref C) (PySem.dunderR (opn o).info.2)) (some none) = true := fun o f hf => by
    have := a6 o (by cases o <;> simp)
    unfold opOk at this
    rw [hf, Bool.and_eq_true] at this
    exact this
  exact {
    makes := a1
    kp := a2
    init := fun a ha => find_ok a3 ha
    fnm := fun m f hm => by
      obtain ⟨a, h1, h2, _⟩ := meth m f hm
      exact ⟨a, h1, h2⟩
    meth := fun m f a h6 hm ha => by
      obtain ⟨a', h1, h2, h3⟩ := meth m f hm
      rw [ha] at h1
      cases h1
      rcases h3 with z | z
      · omega
      · exact z
    sf := a5
    op := fun o f a hf ha => find_ok (opk o f hf).1 ha
    opR := fun o f hf => He.eqO_ok (opk o f hf).2
    neg := fun f a hf ha => by
      rw [hf] at a7
      exact find_ok a7 ha
    sub := a8 }
theorem exc_look {C B : Addr} (e : excLook K C B = true) : ∃ nm q N bs sn sub ab col dd k0 k1 k2 k3 k5, K.lookup C = some (excClassObj nm q C N bs (PySem.MnX.tail2 B) true sn sub ab col dd k0 k1 k2 k3 k5 "Exception.__new__") := by
  unfold excLook at e
  split at e
  · rename_i t od cd sl q
    rw [Bool.and_eq_true, decide_eq_true_eq] at e
    obtain ⟨rfl, e⟩ := e
    split at e
    · rename_i C' bm k0 k1 k2 k3 n k5 hm hs
      simp only [Bool.and_eq_true, decide_eq_true_eq, Bool.not_eq_true'] at e
      obtain ⟨⟨⟨⟨rfl, rfl⟩, h3⟩, h4⟩, rfl⟩ := e
      obtain ⟨nm, bs, mro, ns, qn, hd, sn, sb, ab, col, del⟩ := cd
      simp only at hm h3 h4
      subst hm h3 h4
      have hsl : sl = #[k0, k1, k2, k3, some (.builtin "Exception.__new__"), k5] := by
        apply Array.ext'
        rw [hs]
      subst hsl
      exact ⟨nm, qn, ns, bs, sn, sb, ab, col, od, k0, k1, k2, k3, k5, q⟩
    · cases e
  · cases e
/-- what the look says of an exception, its __init__'s text aside -/
theorem exc_of (o : Ok1 R K) (X : K.In h) (Gm : h.Ns mainGlobals mg) {n : Nat} {C : Addr} {name : Str} (hn : R.exs.lookup n = some name) (hC : (R.G K).exA n = some C) {qual : Str}
    (fn : ∃ (oc : Value) (od : Option Addr) (kV doc pm : Value) (an : Option Addr) (cdv ct : Value) (osl : Array (Option Value)) (p1 p2 a1 a2 a3 a4 a5 a6 q1 q2 q3 q4 : Pos),
      K.lookup (He.ma K (He.ga K name) "__init__") = some ⟨oc, od, .func (PySem.W.fnOf "__init__" qual (PySem.MnX.iA ((R.G K).xf n) p1 p2) (PySem.MnX.iB ((R.G K).xf n) a1 a2 a3 a4 a5 a6 q1 q2 q3 q4) (PySem.MnX.iS ((R.G K).xf n)) .none kV doc pm an cdv ct), osl⟩ ∧ PySem.W.codeIn K cdv qual = true ∧ (a2.endLine == a5.line) = true) :
    PySem.MnX.ExcTxt K mg ((R.G K).xf n) qual C (He.ga K "Fault") (He.ma K (He.ga K name) "__init__") := by
  have e0 : (R.exs.lookup n).map (He.ga K) = some C := hC
  rw [hn] at e0
  cases e0
  have := o.exs _ (lk_mem hn)
  unfold excOk at this
  simp only [Bool.and_eq_true, List.all_eq_true, decide_eq_true_eq, Bool.or_eq_true] at this
  obtain ⟨⟨⟨⟨⟨⟨⟨⟨⟨⟨⟨⟨⟨⟨⟨⟨a1, a2⟩, a3⟩, a4⟩, a5⟩, a6⟩, a7⟩, a8⟩, a9⟩, a10⟩, a11⟩, a12⟩, a13⟩, a14⟩, a15⟩, a16⟩, a17⟩ := this
  exact {
    hpn := a1
    cls := exc_look a2
    sa := He.eqO_ok a3
    ga := He.eqO_ok a4
    gg := He.eqO_ok a5
    noN := He.eqO_ok a6
    iC := He.eqO_ok a7
    tI := eq_of_beq a8
    kC := a9
    exC := a10
    tyC := a11
    hdC := a12
    gB := PySem.W.mg_of X Gm (He.eqO_ok a13)
    gaB := He.eqO_ok a14
    rdB := a15
    fB := by
      split at a16
      · rename_i v q
        obtain rfl := of_decide_eq_true a16
        exact q
      · cases a16
    fn := fn }
theorem exm_of (o : Ok1 R K) {n n' : Nat} {C C' : Addr} (h1 : (R.G K).exA n = some C) (h2 : (R.G K).exA n' = some C') : PySem.W.exmOne K (.ref C) (.ref C') = some (n == n') := by
  obtain ⟨p, q1, rfl⟩ := exA_of h1
  obtain ⟨p', q2, rfl⟩ := exA_of h2
  have := o.exs _ q1
  unfold excOk at this
  simp only [Bool.and_eq_true, List.all_eq_true, decide_eq_true_eq] at this
  exact this.2 _ q2
theorem rw_of {P : Program} {w : World} {base : Heap} (o : Ok1 R K) (M : Mod K mg base) (hcl : ∀ c cl, R.Γ.cl c = some cl → (R.cls.lookup c).isSome = true) (es : EqSpec R.Γ)
    (ex : ∀ n C, (R.G K).exA n = some C → ∃ B fI qual, PySem.MnX.ExcTxt K mg ((R.G K).xf n) qual C B fI) (hot : HotOk R.rc (R.G K) P w K mg base) : Rw R.rc (R.G K) P w K mg base where
  row := row_of M.kin M.glob o hcl
  hK := rfl
  er := er_of o
  es := es
  cr := cr_of o
  ops := o.ops
  kpF := fun f a ha => by
    obtain ⟨p, h1, rfl⟩ := fnA_of ha
    exact (o.fns _ h1).2
  kpC := fun n C hC => by
    obtain ⟨name, cl', e0, h1, h2, h3, h4, h5, h6⟩ := cls_of o hC
    unfold clsOk2 at h3
    simp only [Bool.and_eq_true] at h3
    exact h3.1.1.1.1.1.1.2
  gdbg := fun y g hy => by
    have := o.gl _ (lk_mem hy)
    unfold glOk at this
    rw [Bool.and_eq_true] at this
    simpa using this.1
  at6 := fun y m hy => (o.ats _ (lk_mem hy)).2
  dg := nodigits M.kin M.nolimit o.dg
  ex := ex
  exm := fun n n' C C' h1 h2 => exm_of o h1 h2
  xfs := fun n f hf => by
    show (R.rc.xfs.lookup n).getD "" = f
    rw [hf]; rfl
  hot := hot
end
end RD
end Mn

set_option maxRecDepth 100000
set_option maxHeartbeats 1000000
/-! the head over a row's look; defs by their data; the law's call -/
namespace Mn
open PySem PySem.Spec PyProof.Rows L2
/-! ### the look -/
def frL (g : Addr → Option Obj) (as : List Addr) : PySem.W.Frag := (He.frG g as).filter fun q => !(q.2.cls == .type "list")
theorem frL_in {as : List Addr} {h : Heap} : (frL h.get? as).In h := fun a o e => by
  have := He.lookup_mem e
  unfold frL at this
  exact He.frG_mem (List.mem_filter.mp this).1
def asR (g : Addr → Option Obj) : Nat → List Addr
  | 0 => [mainGlobals, cStatics]
  | n + 1 => He.growD g (asR g n)
abbrev AlR : Type := Bool × List He.FnW
def obsR (R : RD) (fn : List He.DefD) (K : PySem.W.Frag) : AlR := (R.ok K && fn.all fun d => d.ok K, fn.map fun d => He.fnW K d.at_)
def valR (fn : List He.DefD) : AlR := (true, fn.map He.DefD.val)
def SaysR (R : RD) (fn : List He.DefD) (K : PySem.W.Frag) : Prop := obsR R fn K = valR fn
def obsRG (n : Nat) (R : RD) (fn : List He.DefD) (g : Addr → Option Obj) : AlR := obsR R fn (frL g (asR g n))
def hookR (n : Nat) (R : RD) (fn : List He.DefD) : PySem.W.Hook where
  α := AlR
  obs := fun s => obsRG n R fn s.heap.get?
  val := fun _ => valR fn
  says := fun _ h => ∃ K : PySem.W.Frag, K.In h ∧ SaysR R fn K
  of := fun _ _ e => ⟨_, frL_in, e⟩
  keeps := fun _ _ _ ⟨K, hK, c⟩ k => ⟨K, PySem.W.Frag.In.keeps hK k, c⟩
theorem obsRG_eq {n : Nat} {R : RD} {fn : List He.DefD} {g : Addr → Option Obj} {s : Shared} (h : ∀ a, g a = s.heap.get? a) : obsRG n R fn g = (hookR n R fn).obs s := by
  have e : g = s.heap.get? := funext h
  rw [e] <;> rfl
section
variable {R : RD} {fn : List He.DefD} {K : PySem.W.Frag}
theorem SaysR.ok (c : SaysR R fn K) : RD.Ok1 R K := RD.ok1 (He.ba (congrArg (fun z : AlR => z.1) c)).1
theorem SaysR.def_ (c : SaysR R fn K) (i : Nat) {d : He.DefD} (h : fn[i]? = some d := by rfl) : ∃ fd, FunD K d.name d.qual d.params d.body d.scope (d.dvs K) (d.kws K) (He.fAd K d.at_) fd := by
  have c2 := (He.ba (congrArg (fun z : AlR => z.1) c)).2
  have e : fn.map (fun d => He.fnW K d.at_) = fn.map He.DefD.val := congrArg (fun z : AlR => z.2) c
  have e2 : (fn.map fun d => He.fnW K d.at_)[i]? = (fn.map He.DefD.val)[i]? := by rw [e]
  rw [List.getElem?_map, List.getElem?_map, h] at e2
  exact He.DefD.funD (Option.some.inj e2) (List.all_eq_true.mp c2 d (List.mem_of_getElem? h))
/-! ### defs -/
variable {n : Nat} {fnn : Fn} {at_ : Str × Option Str} {name qual : Str} {params : Arguments} {body : List Stmt} {scope : Scope} {DD : DC} {ps : List Str} {fd : FuncData} {d : D} {v : V}
theorem fnA_at (hf : R.fns.lookup n = some at_) : (R.G K).fnA n = some (He.fAd K at_) := by
  show (R.fns.lookup n).map (He.fAd K) = _
  rw [hf]; rfl
theorem def_0 (o : RD.Ok1 R K) (F : FunD K name qual params body scope [] [] (He.fAd K at_) fd) (hf : R.fns.lookup n = some at_) (Sc : FnScope DD.N ps scope) (np : ps.length = fnn.np) (nl : DD.N.length = fnn.nl) (dfl : fnn.dfl = [])
    (ck : cDef R.rc DD scope body = some fnn.body) (dbg : ∀ y ∈ DD.N, (y == ("__debug__" : Str)) = false ∧ (y == ("__classdict__" : Str)) = false)
    (bd : ∀ (kV doc pm : Value) (an : Option Addr) (cdv ct : Value) (us : List Value), us.length = ps.length → bindArgs (PySem.W.fnOf name qual params body scope .none kV doc pm an cdv ct) ⟨us, []⟩ = pure (ps.zip us)) :
    DefOk R.rc (R.G K) K n fnn (He.fAd K at_) fd ps where
  fi := {
    at_ := fnA_at hf
    isf := (o.fns _ (lk_mem hf)).1
    kp := (o.fns _ (lk_mem hf)).2
    np := np
    bd := fun m h1 h2 => by
      rw [dfl, List.drop_nil]
      exact ⟨[], [], .nil, fun F => .nil, F.bindsN bd⟩ }
  ex := ⟨_, _, _, _, _, _, DD, F, Sc, nl, ck, dbg, fun k => try_ok⟩
theorem def_1 (o : RD.Ok1 R K) (F : FunD K name qual params body scope [v] [] (He.fAd K at_) fd) (hf : R.fns.lookup n = some at_) (Sc : FnScope DD.N ps scope) (np : ps.length = fnn.np) (nl : DD.N.length = fnn.nl) (dfl : fnn.dfl = [d]) (hv : ∀ F, Rep (R.G K) F d v)
    (ck : cDef R.rc DD scope body = some fnn.body) (dbg : ∀ y ∈ DD.N, (y == ("__debug__" : Str)) = false ∧ (y == ("__classdict__" : Str)) = false) (hps : ps.length = ps.length - 1 + 1)
    (b0 : ∀ (T : Addr) (kV doc pm : Value) (an : Option Addr) (cdv ct : Value) (us its : List Value), us.length = ps.length → its.length = 1 →
      ∃ k, bindArgs (PySem.W.fnOf name qual params body scope (.ref T) kV doc pm an cdv ct) ⟨us, []⟩ = seqItems? (.ref T) >>= k ∧ k (some its.toArray) = pure (ps.zip (us ++ its.drop 1)))
    (b1 : ∀ (T : Addr) (kV doc pm : Value) (an : Option Addr) (cdv ct : Value) (us its : List Value), us.length = ps.length - 1 → its.length = 1 →
      ∃ k, bindArgs (PySem.W.fnOf name qual params body scope (.ref T) kV doc pm an cdv ct) ⟨us, []⟩ = seqItems? (.ref T) >>= k ∧ k (some its.toArray) = pure (ps.zip (us ++ its.drop 0))) :
    DefOk R.rc (R.G K) K n fnn (He.fAd K at_) fd ps where
  fi := {
    at_ := fnA_at hf
    isf := (o.fns _ (lk_mem hf)).1
    kp := (o.fns _ (lk_mem hf)).2
    np := np
    bd := fun m h1 h2 => by
      rw [dfl] at h2 ⊢
      simp only [List.length_cons, List.length_nil] at h2 ⊢
      by_cases hm : m = fnn.np
      · obtain ⟨ds, r, b⟩ := F.binds1 ps.length 1 (by simp) (by simp) b0
        refine ⟨_, ds, r, fun F => ?_, b⟩
        rw [hm, Nat.sub_self]
        exact .nil
      · obtain ⟨ds, r, b⟩ := F.binds1 (ps.length - 1) 0 (by simp) (by simp; omega) b1
        refine ⟨_, ds, r, fun F => ?_, b⟩
        have e : fnn.np - m = 1 := by omega
        rw [e]
        exact .cons (hv F) .nil }
  ex := ⟨_, _, _, _, _, _, DD, F, Sc, nl, ck, dbg, fun k => try_ok⟩
end
/-! ### the def within except suites -/
theorem hot_m {Γ : Prog} {f : Nat} (h : Γ.fn f = some ⟨1, 1, [], false, [.ret (.and (.b1 .isInt 0) (.not (.b1 .isBool 0)))]⟩) (k : Nat) (d : D) (S : Sto) :
    callM Γ k f [.val d] S = .st ∨ ∃ b1 b2, isTy 0 d = some b1 ∧ isTy 1 d = some b2 ∧ callM Γ k f [.val d] S = .ok (.val (.bl (b1 && !b2))) S := by
  cases k with
  | zero => exact .inl rfl
  | succ k =>
    have hΓ : (ev Γ k).Γ = Γ := by cases k <;> rfl
    rw [callM_succ, runB, hΓ, h]
    cases d <;> first | (refine .inr ⟨_, _, rfl, rfl, ?_⟩; simp [startR, evalSs, evalS, evalE, heldS, look1, prim1, isTy, endR, R.d]; done) | (left; simp [startR, evalSs, evalS, evalE, heldS, look1, prim1, isTy, endR, R.d]; done)
theorem hot_of {R : RD} {K : PySem.W.Frag} {P : Program} {w : World} {mg : Str → Option Value} {base : Heap} {at_ : Str × Option Str} {name qual : Str} {params : Arguments} {scope : Scope} {fd : FuncData} {p1 p2 p3 p4 p5 p6 p7 p8 p9 p10 p11 : Pos}
    (row : RowOk mg R.rc (R.G K)) (hf : R.fns.lookup R.rc.hot = some at_) (hΓ : R.Γ.fn R.rc.hot = some ⟨1, 1, [], false, [.ret (.and (.b1 .isInt 0) (.not (.b1 .isBool 0)))]⟩)
    (F : FunD K name qual params [.Return (some (.BoolOp .And [.Call (.Name "isinstance" p1) [.Name "value" p2, .Name "int" p3] [] p4, .UnaryOp .Not (.Call (.Name "isinstance" p5) [.Name "value" p6, .Name "bool" p7] [] p8) p9] p10)) p11] scope [] [] (He.fAd K at_) fd)
    (S : FnScope ["value"] ["value"] scope) (hv : scope.names.lookup ("value" : Str) = some .local) (g1 : scope.names.lookup ("isinstance" : Str) = some .globalImplicit) (m1 : ("isinstance" : Str) ∈ R.rc.blt)
    (g2 : scope.names.lookup ("int" : Str) = some .globalImplicit) (m2 : ("int" : Str) ∈ R.rc.blt) (g3 : scope.names.lookup ("bool" : Str) = some .globalImplicit) (m3 : ("bool" : Str) ∈ R.rc.blt) (b : Binds K fd ["value"] []) : HotOk R.rc (R.G K) P w K mg base where
  q := fun a ha => by
    rw [fnA_at hf] at ha
    cases ha
    refine ⟨fd, fun k => ?_, b⟩
    obtain ⟨oc, od, dV, kV, doc, pm, an, cdv, ct, osl, rfl, lk, hcd, _, _⟩ := F.ex
    exact hot_fn (rc := R.rc) (ck := ⟨R.G K, ev R.Γ 0, fun _ _ _ _ => False⟩) rfl row rfl lk hcd S hv g1 (row.bl _ m1) g2 (row.bl _ m2) g3 (row.bl _ m3)
  m := fun k d S => hot_m hΓ k d S
end Mn

set_option maxRecDepth 100000
set_option maxHeartbeats 1000000
/-! the law's own call -/
namespace Mn
open PySem PySem.Spec PyProof.Rows L2
/-- the heap as data has it at the law's start: the script alone -/
def HpL (a : Addr) (o : Obj) (ns : List Int) : Hp := fun b => if b = a then some (.frz o (.lst (ns.map V.int))) else none
theorem reps_ints {G : Gx} {F : Hp} : ∀ ns : List Int, Reps G F (ns.map D.int) (ns.map V.int)
  | [] => .nil
  | i :: ns => .cons (.int i) (reps_ints ns)
theorem law_start {G : Gx} {n f : Nat} {a : Addr} {o : Obj} {ns : List Int} {S' : Sto} {k : Nat} (e : callM G.Γ k f [.val (.lst (ns.map D.int))] [] = .ok (.val (.bl true)) S') :
    spM G 1 (callM G.Γ k f) [.ref a] (HpL a o ns) (fun v _ => v = .bl true) (fun _ _ _ => False) := by
  refine ⟨⟨HpL a o ns, [], []⟩, [], [.val (.lst (ns.map D.int))], rfl, ⟨.nil, List.nodup_nil, (fun b hb => nomatch hb), Ext.rfl'⟩, .cons ?_ .nil, ?_⟩
  · exact Rep.lst (.inr ⟨o, if_pos rfl⟩) (reps_ints ns)
  · rw [e]
    intro v H' W' _ _ r
    cases r
    rfl
theorem law_run {P : Program} {w : World} {K : PySem.W.Frag} {mg mb : Str → Option Value} {k f : Nat} {fa a : Addr} {fd : FuncData} {x : Str} {s₁ : Shared} {vs : List Value} {ns : List Int} {G : Gx}
    (KX : K.In s₁.heap) (nol : ∀ b o, K.lookup b = some o → o.cls ≠ .type "list") (hns : s₁.heap.Ns mainGlobals mg) (hb : s₁.heap.Ns builtinsNs mb) (hbb : ∀ x : Str, x ≠ "__name__" → mb x = bootBuiltins x) (hlim : s₁.heap.NoLimit) (hg : s₁.gens = #[])
    (ha : s₁.heap.get? a = some { cls := .type "list", data := .seq vs.toArray }) (hi : IntsAre vs ns) (hl : ns.length ≤ sizeLine) (hr : Room k callerA)
    (F : ∀ base : Heap, Mod K mg base → FnOk P w K mg base (L2.CX P w) k fa fd [x] (spM G 1 (callM G.Γ k f))) (hbind : ∀ (s : Shared) (u : Value), BindsTo s fd ⟨[u], []⟩ [(x, u)])
    {S' : Sto} (e : callM G.Γ k f [.val (.lst (ns.map D.int))] [] = .ok (.val (.bl true)) S') :
    codeAny (model P w) callerA (.call (.ref fa) ⟨[.ref a], []⟩) (fun r s' => r = .ok (.ret (.bool true)) ∧ OldK s₁.heap s'.heap ∧ s'.os = s₁.os ∧ AllBare s'.gens) s₁ := by
  have rv := vals_ints hi
  have lenV := hi.length
  have noK : K.lookup a = none := by
    cases hk : K.lookup a with
    | none => rfl
    | some o =>
      have e := KX a o hk
      rw [ha] at e
      cases e
      exact absurd rfl (nol _ _ hk)
  generalize ho : ({ cls := .type "list", data := .seq vs.toArray } : Obj) = ob at ha
  have only : ∀ {b : Addr} {u : HO}, HpL a ob ns b = some u → b = a ∧ u = .frz ob (.lst (ns.map V.int)) := fun {b u} z => by
    unfold HpL at z
    by_cases q : b = a
    · rw [if_pos q] at z
      exact ⟨q, (Option.some.inj z).symm⟩
    · rw [if_neg q] at z
      cases z
  have hok : HOk P w (HpL a ob ns) s₁.heap := fun b u z => by
    obtain ⟨rfl, rfl⟩ := only z
    subst ho
    exact ⟨ha, by rw [List.length_map]; exact hl, vs, _, rv, ha⟩
  have off : ∀ {b : Addr} {o : Obj}, s₁.heap.get? b = some o → b ≠ a → (hidT s₁.heap (HpL a ob ns)).get? b = some o := fun {b o} z q => hidT_get z (if_neg q)
  have nsK : ∀ {b : Addr} {m : Str → Option Value}, s₁.heap.Ns b m → (hidT s₁.heap (HpL a ob ns)).Ns b m := fun {b m} ⟨o, es, ep, e, d, r⟩ => ⟨o, es, ep, off e (fun q => by
    subst q
    rw [ha] at e
    cases e
    subst ho
    cases d), d, r⟩
  have hKb : K.In (hidT s₁.heap (HpL a ob ns)) := fun b o e => off (KX b o e) fun q => by
    subst q
    rw [noK] at e; cases e
  have hM : Mod K mg (hidT s₁.heap (HpL a ob ns)) := ⟨hKb, nsK hns, ⟨mb, nsK hb, hbb⟩, let ⟨mc, h1, h2⟩ := hlim; ⟨mc, nsK h1, h2⟩⟩
  have e0 : Env0 P w K mg (hidT s₁.heap (HpL a ob ns)) callerA [] s₁ (HpL a ob ns) := {
    frames := rfl
    mod := hM
    bs := fun b o e => of_hidT e
    bsz := Nat.le_of_eq (hidT_size _ _)
    funs := trivial
    frf := fun b hb => nomatch hb
    hok := hok
    bare := .of_eq hg }
  refine codeAny_mono ((F _ hM).run callerA [] s₁ (HpL a ob ns) ⟨[.ref a], []⟩ [.ref a] [.ref a] _ _ hr e0 (hbind s₁ (.ref a)) (.cons rfl .nil) (law_start (n := 0) (a := a) (o := ob) e)) fun r s' h => ?_
  cases r with
  | error z =>
    obtain ⟨_, _, _, _, _, _, _, _, _, _, _, _, q⟩ := h
    exact q.elim
  | ok fl =>
    cases fl with
    | next => exact False.elim h
    | brk => exact False.elim h
    | cont => exact False.elim h
    | ret u =>
      obtain ⟨v, H', os, bare, un, hok', r', q⟩ := h
      obtain rfl : v = V.bl true := q
      obtain rfl : u = Value.bool true := r'
      refine ⟨rfl, OldK.of_keep fun b o e => ?_, os, bare⟩
      by_cases q : b = a
      · subst q
        have z := un.frzs b ob _ (if_pos rfl)
        rw [ha] at e
        cases e
        exact (hok' b _ z).1
      · exact un.keep b o e (if_neg q) (fun z => nomatch z) (fun z => nomatch z)
/-- from the head's goal to the law in Mini -/
theorem walk_R {l : PySem.W.OpenLaw} {n k m f : Nat} {q : Program} {loose : List Str} {XP : (Str → Option Value) → Heap → Prop} {d : DefRec} {R : RD} {fn : List He.DefD} {x : Str}
    (hn : l.most = some n) (hn2 : n ≤ sizeLine) (hdf : d.params.defaults = []) (hr : Room k callerA)
    (F : ∀ (w : World) (mg : Str → Option Value) (fa : Addr) (h : Heap) (K : PySem.W.Frag), K.In h → SaysR R fn K → h.Ns mainGlobals mg → mg d.name = some (.ref fa) →
      ∃ fd : FuncData, (∀ (s : Shared) (u : Value), BindsTo s fd ⟨[u], []⟩ [(x, u)]) ∧ ∀ base : Heap, Mod K mg base → FnOk l.prog w K mg base (L2.CX l.prog w) k fa fd [x] (spM (R.G K) 1 (callM R.Γ k f)))
    (law : ∀ ns : List Int, ns.length ≤ n → ∃ S', callM R.Γ k f [.val (.lst (ns.map D.int))] [] = .ok (.val (.bl true)) S') :
    PySem.W.WalkO q loose XP (hookR m R fn).says l.row.toRowW d [] (fun f vs => PySem.call f vs) := by
  refine Att.attach_call hn hdf fun w s₀ s₁ mg mb fa o pm cd doc a vs ns G Y ho hd hcd hmg hobj hints hlen hg => ?_
  obtain ⟨K, KX, c⟩ := Y
  obtain ⟨fd, hb, hF⟩ := F w mg fa _ K KX c G.T.g hmg
  obtain ⟨S', e⟩ := law ns hlen
  exact law_run (G := R.G K) KX c.ok.nol G.T.g G.T.b G.T.builtins G.T.nolimit hg hobj hints (Nat.le_trans hlen hn2) hr hF hb e
/-- a def at the next level, from its data -/
theorem def_fn {rc : RC} {G : Gx} {P : Program} {w : World} {K : PySem.W.Frag} {mg : Str → Option Value} {base : Heap} {k n : Nat} {fnn : Fn} {a : Addr} {fd : FuncData} {ps : List Str} (R : Rw rc G P w K mg base) (CA : Calls0 G P w K mg base k) (hk : k < tooDeep)
    (hn : G.Γ.fn n = some fnn) (d : DefOk rc G K n fnn a fd ps) : FnOk P w K mg base (L2.CX P w) (k + 1) a fd ps (spM G ps.length (callM G.Γ (k + 1) n)) := by
  obtain ⟨x, qual, params, body, scope, dvs, DD, d1, d2, d3, d4, d5, d6⟩ := d.ex
  exact fn_level R CA hk (d6 k) d1 d2 hn d.fi.np d3 d4 d5
/-- a row's end: the law of Mini gives the law of the text -/
theorem row_end {l : PySem.W.OpenLaw} {n k m f : Nat} {fnn : Fn} {at_ : Str × Option Str} {q : Program} {loose : List Str} {XP : (Str → Option Value) → Heap → Prop} {d : DefRec} {R : RD} {fn : List He.DefD} {x : Str}
    (hn : l.most = some n) (hn2 : n ≤ sizeLine) (hdf : d.params.defaults = []) (hr : Room (k + 1) callerA) (hk : k < tooDeep) (hf : R.Γ.fn f = some fnn) (hat : R.fns.lookup f = some at_) (hgl : R.rc.gl.lookup d.name = some (.fn f))
    (hcl : ∀ c cl, R.Γ.cl c = some cl → (R.cls.lookup c).isSome = true) (es : EqSpec R.Γ)
    (D : ∀ K : PySem.W.Frag, SaysR R fn K → ∀ n fnn, R.Γ.fn n = some fnn → ∃ a fd ps, DefOk R.rc (R.G K) K n fnn a fd ps)
    (L : ∀ K : PySem.W.Frag, SaysR R fn K → ∃ fd, (∀ (s : Shared) (u : Value), BindsTo s fd ⟨[u], []⟩ [(x, u)]) ∧ DefOk R.rc (R.G K) K f fnn (He.fAd K at_) fd [x])
    (ex : ∀ (K : PySem.W.Frag) (mg : Str → Option Value) (h : Heap), SaysR R fn K → K.In h → h.Ns mainGlobals mg → ∀ n C, (R.G K).exA n = some C → ∃ B fI qual, PySem.MnX.ExcTxt K mg ((R.G K).xf n) qual C B fI)
    (hot : ∀ (P : Program) (w : World) (K : PySem.W.Frag) (mg : Str → Option Value) (base : Heap), SaysR R fn K → RowOk mg R.rc (R.G K) → HotOk R.rc (R.G K) P w K mg base)
    (law : ∀ ns : List Int, ns.length ≤ n → ∃ S', callM R.Γ (k + 1) f [.val (.lst (ns.map Mn.D.int))] [] = .ok (.val (.bl true)) S') :
    PySem.W.WalkO q loose XP (hookR m R fn).says l.row.toRowW d [] (fun f vs => PySem.call f vs) := by
  refine walk_R (k := k + 1) (f := f) (x := x) hn hn2 hdf hr (fun w mg fa h K KX c G hmg => ?_) law
  obtain ⟨fd, hb, dk⟩ := L K c
  have hfa : fa = He.fAd K at_ := by
    have row := RD.row_of KX G c.ok hcl
    obtain ⟨a, h1, h2⟩ := row.gl _ _ hgl
    rw [fnA_at hat] at h1
    cases h1
    rw [hmg] at h2
    cases h2
    rfl
  subst hfa
  refine ⟨fd, hb, fun base M => ?_⟩
  have RW : Rw R.rc (R.G K) l.prog w K mg base := RD.rw_of c.ok M hcl es (ex K mg base c M.kin M.glob) (hot _ _ _ _ _ c (RD.row_of M.kin M.glob c.ok hcl))
  exact def_fn RW (calls_all RW (D K c) k (Nat.le_of_lt hk)) hk hf dk
end Mn

namespace Mn
open PySem

abbrev f_is_integer : Nat := 1
abbrev f_common : Nat := 2
abbrev f_check_ratio : Nat := 3
abbrev f_as_ratio : Nat := 4
abbrev f_are_ratios : Nat := 5
abbrev f_ratio_text : Nat := 6
abbrev f_read_ratio : Nat := 7
abbrev f_ratio_is_number : Nat := 8
abbrev f_ratio_sum : Nat := 9
abbrev f_ratio_dot : Nat := 10
abbrev f_law_state : Nat := 11
abbrev f_law_take : Nat := 12
abbrev f_law_says : Nat := 13
abbrev f_law_is_whole : Nat := 14
abbrev f_law_same : Nat := 15
abbrev f_law_told : Nat := 16
abbrev f_law_all_malformed : Nat := 17
abbrev f_law_common : Nat := 18
abbrev f_law_plain : Nat := 19
abbrev f_law_pair : Nat := 20
abbrev f_law_is : Nat := 21
abbrev f_law_ops_hold : Nat := 22
abbrev f_law_over : Nat := 23
abbrev f_law_reads_itself : Nat := 24
abbrev f_law_sums_hold : Nat := 25
abbrev f_law_made : Nat := 26
abbrev f_law_act : Nat := 27
abbrev f_law : Nat := 28
abbrev f_Ratio_init : Nat := 29
abbrev f_Ratio_add : Nat := 30
abbrev f_Ratio_sub : Nat := 31
abbrev f_Ratio_mul : Nat := 32
abbrev f_Ratio_neg : Nat := 33
abbrev f_Ratio_eq : Nat := 34
abbrev f_Ratio_over : Nat := 35
abbrev f_Ratio_less : Nat := 36
abbrev f_Ratio_sign : Nat := 37
abbrev f_Ratio_is_whole : Nat := 38
abbrev f_Ratio_floor : Nat := 39
abbrev c_Ratio : Nat := 10
def b_is_integer : List S :=
   [.ret (.and (.b1 .isInt 0) (.not (.b1 .isBool 0)))]
def d_is_integer : Fn := ⟨1, 1, [], false, b_is_integer⟩
def b_common : List S :=
   [.par [.v 0, .v 1] [.b1 .abs 0, .b1 .abs 1],
    .swhile (.p2 .gt (.var 1) (.k (.int 0))) [.par [.v 0, .v 1] [.var 1, .p2 .mod (.var 0) (.var 1)]],
    .ret (.var 0)]
def d_common : Fn := ⟨2, 2, [], false, b_common⟩
def b_check_ratio : List S :=
   [.sif (.not (.b1 (.isObj c_Ratio) 0)) [.raise 0 (.k (.str "a ratio"))] []]
def d_check_ratio : Fn := ⟨1, 1, [], false, b_check_ratio⟩
def b_as_ratio : List S :=
   [.sif (.call f_is_integer [.var 0]) [.ret (.mk c_Ratio [.var 0])] [],
    .expr (.call f_check_ratio [.var 0]),
    .ret (.var 0)]
def d_as_ratio : Fn := ⟨1, 1, [], false, b_as_ratio⟩
def b_are_ratios : List S :=
   [.ret (.and (.b1 .isTup 0) (.p1 .all (.comp (.b1 (.isObj c_Ratio) 1) (.v 1) (.b1 .item 0) none [1])))]
def d_are_ratios : Fn := ⟨1, 2, [], false, b_are_ratios⟩
def b_ratio_text : List S :=
   [.expr (.call f_check_ratio [.var 0]),
    .sif (.p2 .gt (.p1 .bits (.p2 .max2 (.f1 .abs (.var 0) 6) (.fld (.var 0) 7))) (.bin .mul (.k (.int 4)) (.k (.int 2000)))) [.raise 1 (.k (.str "long"))] [],
    .set (.v 1) (.ite (.eq (.fld (.var 0) 7) (.k (.int 1))) (.f1 .toStr (.var 0) 6) (.bin .add (.bin .add (.f1 .toStr (.var 0) 6) (.k (.str "/"))) (.f1 .toStr (.var 0) 7))),
    .sif (.p2 .gt (.b1 .len 1) (.k (.int 2000))) [.raise 1 (.k (.str "long"))] [],
    .ret (.var 1)]
def d_ratio_text : Fn := ⟨1, 2, [], false, b_ratio_text⟩
def b_read_ratio : List S :=
   [.sif (.or (.not (.b1 .isStr 0)) (.not (.chain .le .le (.k (.int 1)) (.b1 .len 0) (.k (.int 2000))))) [.raise 2 (.k (.int 0))] [],
    .set (.tup [.v 1, .v 2, .v 3]) (.p2 .part (.var 0) (.k (.str "/"))),
    .set (.v 4) (.ite (.eq (.sl (.var 1) (some (.k (.int 0))) (some (.k (.int 1)))) (.k (.str "-"))) (.sl (.var 1) (some (.k (.int 1))) none) (.var 1)),
    .sif (.or (.not (.call f_ratio_is_number [.var 4])) (.and (.eq (.var 4) (.k (.str "0"))) (.ne (.var 0) (.k (.str "0"))))) [.raise 2 (.k (.int 0))] [],
    .sif (.eq (.var 2) (.k (.str ""))) [.ret (.mk c_Ratio [.b1 .toInt 1])] [],
    .sif (.or (.not (.call f_ratio_is_number [.var 3])) (.eq (.var 3) (.k (.str "0")))) [.raise 2 (.b1 .len 1)] [],
    .set (.v 5) (.mk c_Ratio [.b1 .toInt 1, .b1 .toInt 3]),
    .sif (.or (.eq (.fld (.var 5) 7) (.k (.int 1))) (.ne (.f1 .toStr (.var 5) 7) (.var 3))) [.raise 2 (.b1 .len 1)] [],
    .ret (.var 5)]
def d_read_ratio : Fn := ⟨1, 6, [], false, b_read_ratio⟩
def b_ratio_is_number : List S :=
   [.ret (.and (.ne (.var 0) (.k (.str ""))) (.and (.p1 .all (.comp (.p2 .inn (.var 1) (.k (.str "0123456789"))) (.v 1) (.b1 .item 0) none [1])) (.or (.ne (.b2 .idx 0 (.k (.int 0))) (.k (.str "0"))) (.eq (.var 0) (.k (.str "0"))))))]
def d_ratio_is_number : Fn := ⟨1, 2, [], false, b_ratio_is_number⟩
def b_ratio_sum : List S :=
   [.set (.v 1) (.mk c_Ratio [.k (.int 0)]),
    .sfor (.v 2) (.b1 .item 0) [.set (.v 1) (.bin .add (.var 1) (.var 2))],
    .ret (.var 1)]
def d_ratio_sum : Fn := ⟨1, 3, [], false, b_ratio_sum⟩
def b_ratio_dot : List S :=
   [.ret (.call f_ratio_sum [.comp (.bin .mul (.var 2) (.var 3)) (.tup [.v 2, .v 3]) (.p2 .zip (.var 0) (.var 1)) none [2, 3]])]
def d_ratio_dot : Fn := ⟨2, 4, [], false, b_ratio_dot⟩
def b_law_state : List S :=
   [.set (.v 1) (.k (.int 0)),
    .set (.v 2) (.k (.int 1)),
    .sfor (.v 3) (.p1 .item (.sl (.var 0) none (some (.k (.int 63))))) [.set (.v 1) (.bin .add (.bin .mul (.var 1) (.k (.int 1000003))) (.b1 .abs 3)),
    .set (.v 2) (.p2 .mod (.p1 .toInt (.bin .add (.bin .mul (.var 2) (.k (.int 48271))) (.var 3))) (.k (.int 2147483647)))],
    .retl [.var 1, .ite (.ne (.var 2) (.k (.int 1973665155))) (.var 2) (.k (.int 7))]]
def d_law_state : Fn := ⟨1, 4, [], false, b_law_state⟩
def b_law_take : List S :=
   [.sif (.p2 .gt (.b2 .idx 0 (.k (.int 0))) (.k (.int 0))) [.set (.v 2) (.p2 .mod (.p1 .toInt (.b2 .idx 0 (.k (.int 0)))) (.var 1)),
    .rset (.var 0) (.k (.int 0)) (.p2 .fdiv (.b2 .idx 0 (.k (.int 0))) (.var 1)),
    .ret (.var 2)] [],
    .rset (.var 0) (.k (.int 1)) (.p2 .mod (.p1 .toInt (.bin .add (.bin .mul (.b2 .idx 0 (.k (.int 1))) (.k (.int 48271))) (.k (.int 11)))) (.k (.int 2147483647))),
    .ret (.p2 .mod (.p1 .toInt (.p2 .fdiv (.b2 .idx 0 (.k (.int 1))) (.k (.int 7)))) (.var 1))]
def d_law_take : Fn := ⟨2, 3, [], false, b_law_take⟩
def b_law_says : List S :=
   [.ret (.and (.b1 .isBool 0) (.eq (.var 0) (.var 1)))]
def d_law_says : Fn := ⟨2, 2, [], false, b_law_says⟩
def b_law_is_whole : List S :=
   [.ret (.and (.b1 .isInt 0) (.not (.b1 .isBool 0)))]
def d_law_is_whole : Fn := ⟨1, 1, [], false, b_law_is_whole⟩
def b_law_same : List S :=
   [.sif (.b1 .isBool 1) [.ret (.and (.b1 .isBool 0) (.eq (.var 0) (.var 1)))] [],
    .sif (.b1 .isTup 1) [.ret (.and (.b1 .isTup 0) (.and (.eq (.b1 .len 0) (.b1 .len 1)) (.p1 .all (.comp (.call f_law_same [.b2 .idx 0 (.var 2), .b2 .idx 1 (.var 2)]) (.v 2) (.p1 .rng (.b1 .len 1)) none [2]))))] [],
    .sif (.b1 .isLst 1) [.ret (.and (.b1 .isTup 0) (.call f_law_same [.var 0, .b1 .toTup 1]))] [],
    .sif (.b1 .isStr 1) [.ret (.and (.b1 .isStr 0) (.eq (.var 0) (.var 1)))] [],
    .sif (.b1 .isN 1) [.ret (.b1 .isN 0)] [],
    .ret (.and (.call f_law_is_whole [.var 0]) (.eq (.var 0) (.var 1)))]
def d_law_same : Fn := ⟨2, 3, [], false, b_law_same⟩
def b_law_told : List S :=
   [.stry [.sif (.p2 .gt (.b1 .len 1) (.k (.int 3))) [.ret (.tup [.k (.str "told"), .ite (.eq (.b1 .len 1) (.k (.int 4))) (.calv (.var 0) [.b2 .idx 1 (.k (.int 0)), .b2 .idx 1 (.k (.int 1)), .b2 .idx 1 (.k (.int 2)), .b2 .idx 1 (.k (.int 3))]) (.calv (.var 0) [.b2 .idx 1 (.k (.int 0)), .b2 .idx 1 (.k (.int 1)), .b2 .idx 1 (.k (.int 2)), .b2 .idx 1 (.k (.int 3)), .b2 .idx 1 (.k (.int 4))])])] [],
    .ret (.tup [.k (.str "told"), .ite (.eq (.b1 .len 1) (.k (.int 1))) (.calv (.var 0) [.b2 .idx 1 (.k (.int 0))]) (.ite (.eq (.b1 .len 1) (.k (.int 2))) (.calv (.var 0) [.b2 .idx 1 (.k (.int 0)), .b2 .idx 1 (.k (.int 1))]) (.calv (.var 0) [.b2 .idx 1 (.k (.int 0)), .b2 .idx 1 (.k (.int 1)), .b2 .idx 1 (.k (.int 2))]))])] [(0, none, .tup [.k (.str "malformed"), .k .non]), (2, some 2, .ite (.call f_law_is_whole [.xarg 2]) (.tup [.k (.str "text"), .k .non]) (.tup [.k (.str "raised"), .k .non])), (1, some 3, .tup [.k (.str "refused"), .xarg 3])]]
def d_law_told : Fn := ⟨2, 4, [], false, b_law_told⟩
def b_law_all_malformed : List S :=
   [.ret (.p1 .all (.comp (.eq (.call f_law_told [.var 1, .var 2]) (.tup [.k (.str "malformed"), .k .non])) (.tup [.v 1, .v 2]) (.b1 .item 0) none [1, 2]))]
def d_law_all_malformed : Fn := ⟨1, 3, [], false, b_law_all_malformed⟩
def b_law_common : List S :=
   [.par [.v 0, .v 1] [.b1 .abs 0, .b1 .abs 1],
    .swhile (.p2 .gt (.var 1) (.k (.int 0))) [.par [.v 0, .v 1] [.var 1, .p2 .mod (.b1 .toInt 0) (.var 1)]],
    .ret (.var 0)]
def d_law_common : Fn := ⟨2, 2, [], false, b_law_common⟩
def b_law_plain : List S :=
   [.set (.v 2) (.call f_law_common [.var 0, .var 1]),
    .ret (.ite (.p2 .gt (.var 1) (.k (.int 0))) (.tup [.p2 .fdiv (.var 0) (.var 2), .p2 .fdiv (.var 1) (.var 2)]) (.tup [.p2 .fdiv (.neg (.var 0)) (.var 2), .p2 .fdiv (.neg (.var 1)) (.var 2)]))]
def d_law_plain : Fn := ⟨2, 3, [], false, b_law_plain⟩
def b_law_pair : List S :=
   [.set (.v 1) (.p2 .idx (.tup [.k (.int 12), .k (.int 7), .k (.int 1000003), .k (.int 1000000000000)]) (.call f_law_take [.var 0, .k (.int 4)])),
    .ret (.tup [.bin .sub (.call f_law_take [.var 0, .bin .add (.bin .mul (.k (.int 2)) (.var 1)) (.k (.int 1))]) (.var 1), .bin .add (.k (.int 1)) (.call f_law_take [.var 0, .var 1])])]
def d_law_pair : Fn := ⟨1, 2, [], false, b_law_pair⟩
def b_law_is : List S :=
   [.ret (.and (.b1 (.isObj c_Ratio) 0) (.call f_law_same [.tup [.fld (.var 0) 6, .fld (.var 0) 7], .call f_law_plain [.var 1, .var 2]]))]
def d_law_is : Fn := ⟨3, 3, [], false, b_law_is⟩
def b_law_ops_hold : List S :=
   [.par [.tup [.v 1, .v 2], .tup [.v 3, .v 4]] [.call f_law_pair [.var 0], .call f_law_pair [.var 0]],
    .par [.v 5, .v 6, .v 7] [.mk c_Ratio [.var 1, .var 2], .mk c_Ratio [.var 3, .var 4], .bin .sub (.k (.int 1)) (.bin .mul (.k (.int 2)) (.call f_law_take [.var 0, .k (.int 2)]))],
    .sif (.or (.not (.call f_law_is [.var 5, .var 1, .var 2])) (.or (.not (.call f_law_is [.mk c_Ratio [.bin .mul (.var 7) (.var 1), .bin .mul (.var 7) (.var 2)], .var 1, .var 2])) (.not (.call f_law_is [.mk c_Ratio [.var 1], .var 1, .k (.int 1)])))) [.ret (.k (.bl false))] [],
    .sif (.or (.not (.call f_law_is [.bin .add (.var 5) (.var 6), .bin .add (.bin .mul (.var 1) (.var 4)) (.bin .mul (.var 3) (.var 2)), .bin .mul (.var 2) (.var 4)])) (.or (.not (.call f_law_is [.bin .sub (.var 5) (.var 6), .bin .sub (.bin .mul (.var 1) (.var 4)) (.bin .mul (.var 3) (.var 2)), .bin .mul (.var 2) (.var 4)])) (.or (.not (.call f_law_is [.bin .mul (.var 5) (.var 6), .bin .mul (.var 1) (.var 3), .bin .mul (.var 2) (.var 4)])) (.not (.call f_law_is [.neg (.var 5), .neg (.var 1), .var 2]))))) [.ret (.k (.bl false))] [],
    .set (.v 8) (.call f_law_told [.k (.fn f_law_over), .tup [.var 5, .var 6]]),
    .sif (.ite (.eq (.var 3) (.k (.int 0))) (.ne (.var 8) (.tup [.k (.str "refused"), .k (.str "zero")])) (.or (.ne (.b2 .idx 8 (.k (.int 0))) (.k (.str "told"))) (.not (.call f_law_is [.b2 .idx 8 (.k (.int 1)), .bin .mul (.var 1) (.var 4), .bin .mul (.var 2) (.var 3)])))) [.ret (.k (.bl false))] [],
    .sif (.or (.not (.call f_law_says [.met (.var 5) 9 [.var 6], .p2 .lt (.bin .mul (.var 1) (.var 4)) (.bin .mul (.var 3) (.var 2))])) (.or (.not (.call f_law_says [.eq (.var 5) (.var 6), .eq (.bin .mul (.var 1) (.var 4)) (.bin .mul (.var 3) (.var 2))])) (.not (.call f_law_same [.met (.var 5) 10 [], .ite (.p2 .gt (.var 1) (.k (.int 0))) (.k (.int 1)) (.ite (.p2 .lt (.var 1) (.k (.int 0))) (.neg (.k (.int 1))) (.k (.int 0)))])))) [.ret (.k (.bl false))] [],
    .sif (.or (.not (.call f_law_says [.met (.var 5) 11 [], .eq (.p2 .mod (.b1 .toInt 1) (.var 2)) (.k (.int 0))])) (.or (.not (.call f_law_same [.met (.var 5) 12 [], .p2 .fdiv (.var 1) (.var 2)])) (.p1 .any (.comp (.eq (.var 5) (.var 14)) (.v 14) (.p1 .item (.tup [.k .non, .var 1, .tup [.fld (.var 5) 6, .fld (.var 5) 7], .k (.str "0")])) none [14])))) [.ret (.k (.bl false))] [],
    .set (.tup [.v 9, .v 10]) (.call f_law_plain [.var 1, .var 2]),
    .set (.v 11) (.bin .add (.b1 .toStr 9) (.ite (.p2 .gt (.var 10) (.k (.int 1))) (.bin .add (.k (.str "/")) (.b1 .toStr 10)) (.k (.str "")))),
    .sif (.or (.not (.call f_law_same [.call f_ratio_text [.var 5], .var 11])) (.not (.eq (.call f_read_ratio [.var 11]) (.var 5)))) [.ret (.k (.bl false))] [],
    .sfor (.v 12) (.p1 .rng (.k (.int 6))) [.par [.v 13, .v 7] [.call f_law_take [.var 0, .b1 .len 11], .p2 .idx (.k (.str "0-/17 +.")) (.call f_law_take [.var 0, .k (.int 8)])],
    .sif (.not (.p1 .all (.comp (.call f_law_reads_itself [.var 14]) (.v 14) (.p1 .item (.tup [.bin .add (.bin .add (.sl (.var 11) none (some (.var 13))) (.var 7)) (.sl (.var 11) (some (.var 13)) none), .bin .add (.sl (.var 11) none (some (.var 13))) (.sl (.var 11) (some (.bin .add (.var 13) (.k (.int 1)))) none), .bin .add (.bin .add (.sl (.var 11) none (some (.var 13))) (.var 7)) (.sl (.var 11) (some (.bin .add (.var 13) (.k (.int 1)))) none)])) none [14]))) [.ret (.k (.bl false))] []],
    .ret (.and (.call f_law_is [.call f_as_ratio [.var 1], .var 1, .k (.int 1)]) (.eq (.call f_as_ratio [.var 5]) (.var 5)))]
def d_law_ops_hold : Fn := ⟨1, 15, [], false, b_law_ops_hold⟩
def b_law_over : List S :=
   [.ret (.met (.var 0) 8 [.var 1])]
def d_law_over : Fn := ⟨2, 2, [], false, b_law_over⟩
def b_law_reads_itself : List S :=
   [.set (.v 1) (.call f_law_told [.k (.fn f_read_ratio), .tup [.var 0]]),
    .ret (.or (.eq (.var 1) (.tup [.k (.str "text"), .k .non])) (.and (.eq (.b2 .idx 1 (.k (.int 0))) (.k (.str "told"))) (.and (.p1 (.isObj c_Ratio) (.b2 .idx 1 (.k (.int 1)))) (.eq (.call f_ratio_text [.b2 .idx 1 (.k (.int 1))]) (.var 0)))))]
def d_law_reads_itself : Fn := ⟨1, 2, [], false, b_law_reads_itself⟩
def b_law_sums_hold : List S :=
   [.set (.v 1) (.comp (.call f_law_pair [.var 0]) (.v 13) (.p1 .rng (.call f_law_take [.var 0, .k (.int 5)])) none [13]),
    .set (.v 2) (.comp (.call f_law_pair [.var 0]) (.v 13) (.p1 .rng (.call f_law_take [.var 0, .k (.int 5)])) none [13]),
    .par [.v 3, .v 4, .v 5, .v 6] [.k (.int 0), .k (.int 1), .k (.int 0), .k (.int 1)],
    .sfor (.tup [.v 7, .v 8]) (.b1 .item 1) [.par [.v 3, .v 4] [.bin .add (.bin .mul (.var 3) (.var 8)) (.bin .mul (.var 7) (.var 4)), .bin .mul (.var 4) (.var 8)]],
    .sfor (.tup [.tup [.v 7, .v 8], .tup [.v 9, .v 10]]) (.p2 .zip (.var 1) (.var 2)) [.par [.v 5, .v 6] [.bin .add (.bin .mul (.bin .mul (.var 5) (.var 8)) (.var 10)) (.bin .mul (.bin .mul (.var 7) (.var 9)) (.var 6)), .bin .mul (.bin .mul (.var 6) (.var 8)) (.var 10)]],
    .par [.v 11, .v 12] [.p1 .toTup (.comp (.mk c_Ratio [.var 7, .var 8]) (.tup [.v 7, .v 8]) (.b1 .item 1) none [7, 8]), .p1 .toTup (.comp (.mk c_Ratio [.var 7, .var 8]) (.tup [.v 7, .v 8]) (.b1 .item 2) none [7, 8])],
    .ret (.and (.call f_law_is [.call f_ratio_sum [.var 11], .var 3, .var 4]) (.and (.call f_law_is [.call f_ratio_dot [.var 11, .var 12], .var 5, .var 6]) (.call f_law_says [.call f_are_ratios [.var 11], .k (.bl true)])))]
def d_law_sums_hold : Fn := ⟨1, 14, [], false, b_law_sums_hold⟩
def b_law_made : List S :=
   [.ret (.mk c_Ratio [.var 0, .var 1])]
def d_law_made : Fn := ⟨2, 2, [], false, b_law_made⟩
def b_law_act : List S :=
   [.sif (.eq (.var 1) (.k (.str "plus"))) [.ret (.bin .add (.var 0) (.var 2))] [],
    .sif (.eq (.var 1) (.k (.str "minus"))) [.ret (.bin .sub (.var 0) (.var 2))] [],
    .ret (.ite (.eq (.var 1) (.k (.str "times"))) (.bin .mul (.var 0) (.var 2)) (.met (.var 0) 9 [.var 2]))]
def d_law_act : Fn := ⟨3, 3, [], false, b_law_act⟩
def b_law : List S :=
   [.set (.v 1) (.call f_law_state [.var 0]),
    .sfor (.v 2) (.p1 .rng (.k (.int 6))) [.sif (.or (.not (.call f_law_ops_hold [.var 1])) (.not (.call f_law_sums_hold [.var 1]))) [.ret (.k (.bl false))] []],
    .par [.v 3, .v 4] [.mk c_Ratio [.k (.int 1), .k (.int 2)], .p1 .toInt (.bin .add (.k (.str "1")) (.bin .mul (.k (.str "0")) (.k (.int 2000))))],
    .sif (.or (.ne (.comp (.call f_law_told [.k (.fn f_law_made), .tup [.var 8, .k (.int 0)]]) (.v 8) (.p1 .item (.tup [.k (.int 0), .k (.int 1), .neg (.k (.int 5))])) none [8]) (.bin .mul (.lst [.tup [.k (.str "refused"), .k (.str "zero")]]) (.k (.int 3)))) (.not (.call f_law_is [.mk c_Ratio [.k (.int 0), .neg (.k (.int 7))], .k (.int 0), .k (.int 1)]))) [.ret (.k (.bl false))] [],
    .set (.v 5) (.comp (.tup [.k (.fn f_law_made), .tup [.var 8, .var 9]]) (.tup [.v 8, .v 9]) (.p1 .item (.tup [.tup [.k .non, .k (.int 1)], .tup [.k (.int 1), .k .non], .tup [.k (.bl true), .k (.int 1)], .tup [.k (.int 1), .k (.bl true)], .tup [.k (.str "1"), .k (.int 1)], .tup [.var 3, .k (.int 1)], .tup [.k (.int 1), .k (.str "2")]])) none [8, 9]),
    .sfor (.v 6) (.p1 .item (.tup [.k (.str "plus"), .k (.str "minus"), .k (.str "times"), .k (.str "less")])) [.set (.v 5) (.bin .add (.var 5) (.comp (.tup [.k (.fn f_law_act), .tup [.var 3, .var 6, .var 10]]) (.v 10) (.p1 .item (.tup [.k .non, .k (.int 1), .k (.str "1"), .tup [.k (.int 1), .k (.int 2)]])) none [10]))],
    .set (.v 5) (.bin .add (.var 5) (.lst [.tup [.k (.fn f_law_over), .tup [.var 3, .k (.int 2)]], .tup [.k (.fn f_as_ratio), .tup [.k .non]], .tup [.k (.fn f_as_ratio), .tup [.k (.bl true)]], .tup [.k (.fn f_as_ratio), .tup [.k (.str "1")]], .tup [.k (.fn f_ratio_text), .tup [.k (.int 1)]], .tup [.k (.fn f_ratio_text), .tup [.k .non]]])),
    .set (.v 7) (.lst [.k .non, .k (.int 5), .k (.str ""), .k (.str "-"), .k (.str "/"), .k (.str "1/"), .k (.str "/2"), .k (.str "1/0"), .k (.str "1/1"), .k (.str "2/4"), .k (.str "01"), .k (.str "-0"), .k (.str "0/1"), .k (.str "1/02"), .k (.str "1/-2"), .k (.str "+1"), .k (.str " 1"), .k (.str "1 "), .k (.str "1//2"), .k (.str "1/2/3"), .k (.str "1.5"), .k (.str "--1"), .lst [.k (.str "1")]]),
    .sif (.or (.not (.p1 .all (.comp (.eq (.call f_law_told [.k (.fn f_read_ratio), .tup [.var 10]]) (.tup [.k (.str "text"), .k .non])) (.v 10) (.b1 .item 7) none [10]))) (.ne (.call f_law_told [.k (.fn f_ratio_text), .tup [.mk c_Ratio [.var 4]]]) (.tup [.k (.str "refused"), .k (.str "long")]))) [.ret (.k (.bl false))] [],
    .sif (.or (.ne (.call f_law_told [.k (.fn f_read_ratio), .tup [.bin .add (.k (.str "1")) (.bin .mul (.k (.str "0")) (.k (.int 2000)))]]) (.tup [.k (.str "text"), .k .non])) (.or (.not (.eq (.call f_read_ratio [.bin .mul (.k (.str "9")) (.k (.int 2000))]) (.mk c_Ratio [.bin .sub (.var 4) (.k (.int 1))]))) (.ne (.p1 .len (.call f_ratio_text [.mk c_Ratio [.bin .sub (.var 4) (.k (.int 1))]])) (.k (.int 2000))))) [.ret (.k (.bl false))] [],
    .ret (.and (.eq (.comp (.call f_are_ratios [.var 10]) (.v 10) (.p1 .item (.tup [.k .non, .tup [], .lst [.var 3], .tup [.var 3, .k (.int 1)], .tup [.var 3, .var 3]])) none [10]) (.lst [.k (.bl false), .k (.bl true), .k (.bl false), .k (.bl false), .k (.bl true)])) (.call f_law_all_malformed [.var 5]))]
def d_law : Fn := ⟨1, 11, [], false, b_law⟩
def b_Ratio_init : List S :=
   [.sif (.or (.not (.call f_is_integer [.var 1])) (.not (.call f_is_integer [.var 2]))) [.raise 0 (.k (.str "an integer"))] [],
    .sif (.eq (.var 2) (.k (.int 0))) [.raise 1 (.k (.str "zero"))] [],
    .set (.v 3) (.ite (.p2 .gt (.var 2) (.k (.int 0))) (.call f_common [.var 1, .var 2]) (.neg (.call f_common [.var 1, .var 2]))),
    .set (.f (.var 0) 6) (.p2 .fdiv (.var 1) (.var 3)),
    .set (.f (.var 0) 7) (.p2 .fdiv (.var 2) (.var 3))]
def d_Ratio_init : Fn := ⟨3, 4, [.int 1], false, b_Ratio_init⟩
def b_Ratio_add : List S :=
   [.expr (.call f_check_ratio [.var 1]),
    .ret (.mk c_Ratio [.bin .add (.bin .mul (.fld (.var 0) 6) (.fld (.var 1) 7)) (.bin .mul (.fld (.var 1) 6) (.fld (.var 0) 7)), .bin .mul (.fld (.var 0) 7) (.fld (.var 1) 7)])]
def d_Ratio_add : Fn := ⟨2, 2, [], false, b_Ratio_add⟩
def b_Ratio_sub : List S :=
   [.expr (.call f_check_ratio [.var 1]),
    .ret (.mk c_Ratio [.bin .sub (.bin .mul (.fld (.var 0) 6) (.fld (.var 1) 7)) (.bin .mul (.fld (.var 1) 6) (.fld (.var 0) 7)), .bin .mul (.fld (.var 0) 7) (.fld (.var 1) 7)])]
def d_Ratio_sub : Fn := ⟨2, 2, [], false, b_Ratio_sub⟩
def b_Ratio_mul : List S :=
   [.expr (.call f_check_ratio [.var 1]),
    .ret (.mk c_Ratio [.bin .mul (.fld (.var 0) 6) (.fld (.var 1) 6), .bin .mul (.fld (.var 0) 7) (.fld (.var 1) 7)])]
def d_Ratio_mul : Fn := ⟨2, 2, [], false, b_Ratio_mul⟩
def b_Ratio_neg : List S :=
   [.ret (.mk c_Ratio [.neg (.fld (.var 0) 6), .fld (.var 0) 7])]
def d_Ratio_neg : Fn := ⟨1, 1, [], false, b_Ratio_neg⟩
def b_Ratio_eq : List S :=
   [.ret (.and (.b1 (.isObj c_Ratio) 1) (.eq (.tup [.fld (.var 0) 6, .fld (.var 0) 7]) (.tup [.fld (.var 1) 6, .fld (.var 1) 7])))]
def d_Ratio_eq : Fn := ⟨2, 2, [], false, b_Ratio_eq⟩
def b_Ratio_over : List S :=
   [.expr (.call f_check_ratio [.var 1]),
    .ret (.mk c_Ratio [.bin .mul (.fld (.var 0) 6) (.fld (.var 1) 7), .bin .mul (.fld (.var 0) 7) (.fld (.var 1) 6)])]
def d_Ratio_over : Fn := ⟨2, 2, [], false, b_Ratio_over⟩
def b_Ratio_less : List S :=
   [.expr (.call f_check_ratio [.var 1]),
    .ret (.p2 .lt (.bin .mul (.fld (.var 0) 6) (.fld (.var 1) 7)) (.bin .mul (.fld (.var 1) 6) (.fld (.var 0) 7)))]
def d_Ratio_less : Fn := ⟨2, 2, [], false, b_Ratio_less⟩
def b_Ratio_sign : List S :=
   [.ret (.bin .sub (.p2 .gt (.fld (.var 0) 6) (.k (.int 0))) (.p2 .lt (.fld (.var 0) 6) (.k (.int 0))))]
def d_Ratio_sign : Fn := ⟨1, 1, [], false, b_Ratio_sign⟩
def b_Ratio_is_whole : List S :=
   [.ret (.eq (.fld (.var 0) 7) (.k (.int 1)))]
def d_Ratio_is_whole : Fn := ⟨1, 1, [], false, b_Ratio_is_whole⟩
def b_Ratio_floor : List S :=
   [.ret (.p2 .fdiv (.fld (.var 0) 6) (.fld (.var 0) 7))]
def d_Ratio_floor : Fn := ⟨1, 1, [], false, b_Ratio_floor⟩
def l_Ratio : Cl := ⟨f_Ratio_init, [6, 7], [(0, f_Ratio_add), (1, f_Ratio_sub), (2, f_Ratio_mul), (3, f_Ratio_neg), (4, f_Ratio_eq), (8, f_Ratio_over), (9, f_Ratio_less), (10, f_Ratio_sign), (11, f_Ratio_is_whole), (12, f_Ratio_floor)], [true, true], false⟩
def pg : Prog where
  fn := fun n => match n with
    | 1 => some d_is_integer
    | 2 => some d_common
    | 3 => some d_check_ratio
    | 4 => some d_as_ratio
    | 5 => some d_are_ratios
    | 6 => some d_ratio_text
    | 7 => some d_read_ratio
    | 8 => some d_ratio_is_number
    | 9 => some d_ratio_sum
    | 10 => some d_ratio_dot
    | 11 => some d_law_state
    | 12 => some d_law_take
    | 13 => some d_law_says
    | 14 => some d_law_is_whole
    | 15 => some d_law_same
    | 16 => some d_law_told
    | 17 => some d_law_all_malformed
    | 18 => some d_law_common
    | 19 => some d_law_plain
    | 20 => some d_law_pair
    | 21 => some d_law_is
    | 22 => some d_law_ops_hold
    | 23 => some d_law_over
    | 24 => some d_law_reads_itself
    | 25 => some d_law_sums_hold
    | 26 => some d_law_made
    | 27 => some d_law_act
    | 28 => some d_law
    | 29 => some d_Ratio_init
    | 30 => some d_Ratio_add
    | 31 => some d_Ratio_sub
    | 32 => some d_Ratio_mul
    | 33 => some d_Ratio_neg
    | 34 => some d_Ratio_eq
    | 35 => some d_Ratio_over
    | 36 => some d_Ratio_less
    | 37 => some d_Ratio_sign
    | 38 => some d_Ratio_is_whole
    | 39 => some d_Ratio_floor
    | _ => none
  cl := fun n => match n with
    | 10 => some l_Ratio
    | _ => none
end Mn

namespace Mn.Pf
/-! fractions -/
def gI (n d : Int) : Int := if 0 < d then (Int.gcd n d : Int) else -(Int.gcd n d : Int)
def pn (n d : Int) : Int := n.fdiv (gI n d)
def pd (n d : Int) : Int := d.fdiv (gI n d)
section
variable {n d n' d' p q p' q' : Int}
theorem gI_ne (h : d ≠ 0) : gI n d ≠ 0 := by
  have : Int.gcd n d ≠ 0 := fun z => h (Int.gcd_eq_zero_iff.mp z).2
  unfold gI
  split <;> omega
theorem gI_dvd_left : gI n d ∣ n := by
  unfold gI
  split
  · exact Int.gcd_dvd_left n d
  · exact Int.neg_dvd.mpr (Int.gcd_dvd_left n d)
theorem gI_dvd_right : gI n d ∣ d := by
  unfold gI
  split
  · exact Int.gcd_dvd_right n d
  · exact Int.neg_dvd.mpr (Int.gcd_dvd_right n d)
theorem fdiv_of {a b c : Int} (h : c ≠ 0) (e : a = b * c) : a.fdiv c = b := by
  subst e
  exact Int.mul_fdiv_cancel b h
theorem pn_mul (h : d ≠ 0) : n = pn n d * gI n d := by
  obtain ⟨k, hk⟩ := gI_dvd_left (n := n) (d := d)
  have e : pn n d = k := fdiv_of (gI_ne h) (by rw [Int.mul_comm k]; exact hk)
  rw [e, Int.mul_comm]; exact hk
theorem pd_mul (h : d ≠ 0) : d = pd n d * gI n d := by
  obtain ⟨k, hk⟩ := gI_dvd_right (n := n) (d := d)
  have e : pd n d = k := fdiv_of (gI_ne h) (by rw [Int.mul_comm k]; exact hk)
  rw [e, Int.mul_comm]; exact hk
theorem gI_sign (h : d ≠ 0) : (0 < d → 0 < gI n d) ∧ (d < 0 → gI n d < 0) := by
  have : Int.gcd n d ≠ 0 := fun z => h (Int.gcd_eq_zero_iff.mp z).2
  unfold gI
  constructor
  · intro hd; rw [if_pos hd]; omega
  · intro hd; rw [if_neg (by omega)]; omega
theorem pd_pos (h : d ≠ 0) : 0 < pd n d := by
  have e := pd_mul (n := n) h
  have ⟨s1, s2⟩ := gI_sign (n := n) h
  rcases Int.lt_or_gt_of_ne h with hd | hd
  · have g := s2 hd
    refine Int.lt_of_not_ge fun z => ?_
    have : 0 ≤ pd n d * gI n d := Int.mul_nonneg_of_nonpos_of_nonpos z (Int.le_of_lt g)
    omega
  · have g := s1 hd
    refine Int.lt_of_not_ge fun z => ?_
    have : pd n d * gI n d ≤ 0 := Int.mul_nonpos_of_nonpos_of_nonneg z (Int.le_of_lt g)
    omega
theorem cop (h : d ≠ 0) : Int.gcd (pn n d) (pd n d) = 1 := by
  have e1 := pn_mul (n := n) h
  have e2 := pd_mul (n := n) h
  have hg : (gI n d).natAbs = Int.gcd n d := by
    unfold gI
    split <;> simp
  have h1 : Int.gcd (pn n d * gI n d) (pd n d * gI n d) = Int.gcd (pn n d) (pd n d) * (gI n d).natAbs := Int.gcd_mul_right _ _ _
  rw [← e1, ← e2, hg] at h1
  have h0 : 0 < Int.gcd n d := Nat.pos_of_ne_zero fun z => h (Int.gcd_eq_zero_iff.mp z).2
  have : Int.gcd (pn n d) (pd n d) * Int.gcd n d = 1 * Int.gcd n d := by rw [← h1, Nat.one_mul]
  exact Nat.eq_of_mul_eq_mul_right h0 this
theorem uniq (hq : 0 < q) (hq' : 0 < q') (c : Int.gcd p q = 1) (c' : Int.gcd p' q' = 1) (e : p * q' = p' * q) : p = p' ∧ q = q' := by
  have d1 : q.natAbs ∣ q'.natAbs := by
    have : q.natAbs ∣ q'.natAbs * p.natAbs := by
      rw [← Int.natAbs_mul, Int.mul_comm q', e, Int.natAbs_mul]
      exact Nat.dvd_mul_left _ _
    refine Nat.Coprime.dvd_of_dvd_mul_right ?_ this
    rw [Nat.coprime_comm]
    exact c
  have d2 : q'.natAbs ∣ q.natAbs := by
    have : q'.natAbs ∣ q.natAbs * p'.natAbs := by
      rw [← Int.natAbs_mul, Int.mul_comm q, ← e, Int.natAbs_mul]
      exact Nat.dvd_mul_left _ _
    refine Nat.Coprime.dvd_of_dvd_mul_right ?_ this
    rw [Nat.coprime_comm]
    exact c'
  have hn := Nat.dvd_antisymm d1 d2
  have hqq : q = q' := by omega
  subst hqq
  exact ⟨Int.eq_of_mul_eq_mul_right (by omega) e, rfl⟩
theorem pl_cross (h : d ≠ 0) (h' : d' ≠ 0) (e : n * d' = n' * d) : pn n d = pn n' d' ∧ pd n d = pd n' d' := by
  refine uniq (pd_pos h) (pd_pos h') (cop h) (cop h') ?_
  have e1 := pn_mul (n := n) h
  have e2 := pd_mul (n := n) h
  have e3 := pn_mul (n := n') h'
  have e4 := pd_mul (n := n') h'
  have g1 := gI_ne (n := n) h
  have g2 := gI_ne (n := n') h'
  have : (pn n d * pd n' d') * (gI n d * gI n' d') = (pn n' d' * pd n d) * (gI n d * gI n' d') := by
    have a1 : (pn n d * pd n' d') * (gI n d * gI n' d') = (pn n d * gI n d) * (pd n' d' * gI n' d') := by grind
    have a2 : (pn n' d' * pd n d) * (gI n d * gI n' d') = (pn n' d' * gI n' d') * (pd n d * gI n d) := by grind
    rw [a1, a2, ← e1, ← e2, ← e3, ← e4]
    exact e
  exact Int.eq_of_mul_eq_mul_right (Int.mul_ne_zero g1 g2) this
theorem pl_iff (h : d ≠ 0) (h' : d' ≠ 0) : (pn n d = pn n' d' ∧ pd n d = pd n' d') ↔ n * d' = n' * d := by
  refine ⟨fun ⟨a, b⟩ => ?_, pl_cross h h'⟩
  have e1 := pn_mul (n := n) h
  have e2 := pd_mul (n := n) h
  have e3 := pn_mul (n := n') h'
  have e4 := pd_mul (n := n') h'
  rw [a] at e1
  rw [b] at e2
  generalize pn n' d' = x at *
  generalize pd n' d' = y at *
  generalize gI n d = g at *
  generalize gI n' d' = g' at *
  subst e1 e2 e3 e4
  grind
/-- of a reduced pair -/
theorem pl_self (hq : 0 < q) (c : Int.gcd p q = 1) : pn p q = p ∧ pd p q = q :=
  uniq (pd_pos (by omega)) hq (cop (by omega)) c (by
    have e1 := pn_mul (n := p) (d := q) (by omega)
    have e2 := pd_mul (n := p) (d := q) (by omega)
    have g := gI_ne (n := p) (d := q) (by omega)
    generalize pn p q = x at *
    generalize pd p q = y at *
    generalize gI p q = z at *
    subst e1 e2
    grind)
theorem pl_lt (hd : 0 < d) (hd' : 0 < d') : pn n d * pd n' d' < pn n' d' * pd n d ↔ n * d' < n' * d := by
  have e1 := pn_mul (n := n) (d := d) (by omega)
  have e2 := pd_mul (n := n) (d := d) (by omega)
  have e3 := pn_mul (n := n') (d := d') (by omega)
  have e4 := pd_mul (n := n') (d := d') (by omega)
  have g1 := (gI_sign (n := n) (d := d) (by omega)).1 hd
  have g2 := (gI_sign (n := n') (d := d') (by omega)).1 hd'
  have gg := Int.mul_pos g1 g2
  have a1 : n * d' = (pn n d * pd n' d') * (gI n d * gI n' d') := by
    have : (pn n d * pd n' d') * (gI n d * gI n' d') = (pn n d * gI n d) * (pd n' d' * gI n' d') := by grind
    rw [this, ← e1, ← e4]
  have a2 : n' * d = (pn n' d' * pd n d) * (gI n d * gI n' d') := by
    have : (pn n' d' * pd n d) * (gI n d * gI n' d') = (pn n' d' * gI n' d') * (pd n d * gI n d) := by grind
    rw [this, ← e3, ← e2]
  rw [a1, a2]
  exact (Int.mul_lt_mul_right gg).symm
theorem pn_sign (hd : 0 < d) : (0 < pn n d ↔ 0 < n) ∧ (pn n d < 0 ↔ n < 0) := by
  have e1 := pn_mul (n := n) (d := d) (by omega)
  have g1 := (gI_sign (n := n) (d := d) (by omega)).1 hd
  generalize pn n d = x at *
  generalize gI n d = g at *
  subst e1
  constructor
  · have := Int.mul_lt_mul_right (a := g) (b := 0) (c := x) g1
    rw [Int.zero_mul] at this
    exact this.symm
  · have := Int.mul_lt_mul_right (a := g) (b := x) (c := 0) g1
    rw [Int.zero_mul] at this
    exact this.symm
theorem pl_floor (hd : 0 < d) : (pn n d).fdiv (pd n d) = n.fdiv d := by
  have e1 := pn_mul (n := n) (d := d) (by omega)
  have e2 := pd_mul (n := n) (d := d) (by omega)
  have g1 := (gI_sign (n := n) (d := d) (by omega)).1 hd
  have hp := pd_pos (n := n) (d := d) (by omega)
  generalize pn n d = x at *
  generalize pd n d = y at *
  generalize gI n d = g at *
  subst e1 e2
  rw [Int.fdiv_eq_ediv_of_nonneg _ (by omega), Int.fdiv_eq_ediv_of_nonneg _ (by omega)]
  rw [Int.mul_comm x, Int.mul_comm y, Int.mul_ediv_mul_of_pos _ _ g1]
theorem pd_one (hd : 0 < d) : pd n d = 1 ↔ n.fmod d = 0 := by
  have e1 := pn_mul (n := n) (d := d) (by omega)
  have e2 := pd_mul (n := n) (d := d) (by omega)
  have c := cop (n := n) (d := d) (by omega)
  have hp := pd_pos (n := n) (d := d) (by omega)
  have hg := gI_ne (n := n) (d := d) (by omega)
  constructor
  · intro h
    rw [h, Int.one_mul] at e2
    rw [← e2] at e1
    rw [Int.fmod_eq_emod_of_nonneg _ (by omega)]
    exact Int.emod_eq_zero_of_dvd ⟨pn n d, by rw [Int.mul_comm]; exact e1⟩
  · intro h
    rw [Int.fmod_eq_emod_of_nonneg _ (by omega)] at h
    obtain ⟨k, hk⟩ := Int.dvd_of_emod_eq_zero h
    have : pn n d = k * pd n d := by
      have z : pn n d * gI n d = (k * pd n d) * gI n d := by
        rw [← e1, Int.mul_assoc, ← e2, Int.mul_comm k]; exact hk
      exact Int.eq_of_mul_eq_mul_right hg z
    rw [this] at c
    have c2 : Int.gcd (k * pd n d) (1 * pd n d) = Int.gcd k 1 * (pd n d).natAbs := Int.gcd_mul_right _ _ _
    rw [Int.one_mul, c] at c2
    have : (pd n d).natAbs = 1 := by
      have := Nat.eq_one_of_mul_eq_one_left c2.symm
      exact this
    omega
theorem pn_neg (h : d ≠ 0) : pn (-n) d = - pn n d ∧ pd (-n) d = pd n d := by
  have e : gI (-n) d = gI n d := by unfold gI; rw [Int.neg_gcd]
  have e1 := pn_mul (n := n) h
  refine ⟨fdiv_of (gI_ne h) ?_, by unfold pd; rw [e]⟩
  rw [e, Int.neg_mul, ← e1]
theorem pn_abs (h : d ≠ 0) : (pn n d).natAbs ≤ n.natAbs ∧ (pd n d).natAbs ≤ d.natAbs := by
  have e1 := pn_mul (n := n) h
  have e2 := pd_mul (n := n) h
  have g := gI_ne (n := n) h
  have g1 : 1 ≤ (gI n d).natAbs := by omega
  constructor
  · have := congrArg Int.natAbs e1
    rw [Int.natAbs_mul] at this
    rw [this]
    exact Nat.le_mul_of_pos_right _ g1
  · have := congrArg Int.natAbs e2
    rw [Int.natAbs_mul] at this
    rw [this]
    exact Nat.le_mul_of_pos_right _ g1
end
end Mn.Pf

set_option maxRecDepth 100000
set_option maxHeartbeats 1000000
/-! the evaluator, step by step -/
namespace Mn.Pf
open PySem
/-! what comes behind a step: not looked into ahead of its time -/
class K (α β : Type) where
  k : α → Sto → R β
class KS (α : Type) where
  k : α → Sto → SR
class KR where
  k : Rho → Sto → SR
def R.bd {α β : Type} (r : R α) [c : K α β] : R β := r.bind c.k
def R.sk {α : Type} (r : R α) (ρ : Rho) [c : KS α] : SR := r.sr ρ c.k
def SR.sq (r : SR) [c : KR] : SR := r.seq c.k
section
variable {α β : Type} {X : Ev} {ρ : Rho} {S S1 : Sto} {a b c : E} {x y : A} {d e : D} {f : α → Sto → R β} {g : α → Sto → SR} {h : Rho → Sto → SR} {r r' : R α} {q q' : SR} {i j n : Nat} {es : List E} {ls ls' : List Mn.S}
@[simp] theorem bind_ok {v : α} {c : K α β} : @R.bd α β (R.ok v S) c = c.k v S := rfl
@[simp] theorem bind_ex {c : K α β} : @R.bd α β (R.ex n d S) c = .ex n d S := rfl
@[simp] theorem bind_st {c : K α β} : @R.bd α β R.st c = .st := rfl
@[simp] theorem sr_ok {v : α} {c : KS α} : @R.sk α (R.ok v S) ρ c = c.k v S := rfl
@[simp] theorem sr_ex {c : KS α} : @R.sk α (R.ex n d S) ρ c = .ex n d ρ S := rfl
@[simp] theorem sr_st {c : KS α} : @R.sk α R.st ρ c = .st := rfl
@[simp] theorem seq_nx {c : KR} : @SR.sq (SR.nx ρ S) c = c.k ρ S := rfl
@[simp] theorem seq_rt {c : KR} : @SR.sq (SR.rt x S) c = .rt x S := rfl
@[simp] theorem seq_bk {c : KR} : @SR.sq (SR.bk ρ S) c = .bk ρ S := rfl
@[simp] theorem seq_ct {c : KR} : @SR.sq (SR.ct ρ S) c = .ct ρ S := rfl
@[simp] theorem seq_ex {c : KR} : @SR.sq (SR.ex n d ρ S) c = .ex n d ρ S := rfl
@[simp] theorem seq_st {c : KR} : @SR.sq SR.st c = .st := rfl
@[simp] theorem nox_ok {v : α} : (R.ok v S).nox = .ok v S := rfl
@[simp] theorem d_some : R.d (some d) S = .ok (.val d) S := rfl
@[simp] theorem d_none : R.d none S = .st := rfl
/-! expressions -/
def kVar (S : Sto) : Option (Option A) → R A
  | some (some (.val d)) => .ok (.val d) S
  | some (some (.ref n)) => .ok (.ref n) S
  | some (some (.fdic ks vs)) => .ok (.fdic ks vs) S
  | _ => .st
@[simp] theorem kVar_val : kVar S (some (some (.val d))) = .ok (.val d) S := rfl
@[simp] theorem kVar_ref : kVar S (some (some (.ref n))) = .ok (.ref n) S := rfl
@[simp] theorem E_var : evalE X (.var i) ρ S = kVar S ρ[i]? := by simp only [evalE]; rfl
@[simp] theorem E_k : evalE X (.k d) ρ S = .ok (.val d) S := by simp only [evalE]
theorem E_p1_o {o : P1} : evalE X (.p1 o a) ρ S = (evalE X a ρ S).bind fun x S1 => R.d (look1 X.Γ o x) S1 := by simp only [evalE]
@[simp] theorem E_p1 {o : P1} : evalE X (.p1 o a) ρ S = (@R.bd _ _ ((evalE X a ρ S)) ⟨fun x S1 => R.d (look1 X.Γ o x) S1⟩) := E_p1_o
def kP2 (X : Ev) (o : P2) (S : Sto) : A → A → R A
  | .val d, .val e => R.d (prim2 X.Γ X.k o d e) S
  | _, _ => .st
@[simp] theorem kP2_v {o : P2} : kP2 X o S (.val d) (.val e) = R.d (prim2 X.Γ X.k o d e) S := rfl
theorem E_p2_o {o : P2} : evalE X (.p2 o a b) ρ S = (evalE X a ρ S).bind fun x S1 => (evalE X b ρ S1).bind fun y S2 => kP2 X o S2 x y := by
  simp only [evalE]; congr
@[simp] theorem E_p2 {o : P2} : evalE X (.p2 o a b) ρ S = (@R.bd _ _ ((evalE X a ρ S)) ⟨fun x S1 => (@R.bd _ _ ((evalE X b ρ S1)) ⟨fun y S2 => kP2 X o S2 x y⟩)⟩) := E_p2_o
def kSl (l h : Option Int) (S : Sto) : A → R A
  | .val d => R.d (sliceD l h d) S
  | _ => .st
@[simp] theorem kSl_v {l h : Option Int} : kSl l h S (.val d) = R.d (sliceD l h d) S := rfl
def kPart (X : Ev) (ρ : Rho) (S : Sto) : Option E → R (Option Int)
  | none => .ok none S
  | some e => partV (evalE X e ρ S)
@[simp] theorem kPart_none : kPart X ρ S none = .ok none S := rfl
@[simp] theorem kPart_some : kPart X ρ S (some a) = partV (evalE X a ρ S) := rfl
@[simp] theorem partV_int {z : Int} : partV (.ok (.val (.int z)) S) = .ok (some z) S := rfl
theorem E_sl_o {lo hi : Option E} : evalE X (.sl a lo hi) ρ S = (evalE X a ρ S).bind fun x S1 => (kPart X ρ S1 lo).bind fun l S2 => (kPart X ρ S2 hi).bind fun h S3 => kSl l h S3 x := by
  cases lo <;> cases hi <;> simp only [evalE, kPart] <;> congr <;> funext x S1 <;> congr <;> funext y S2 <;> first | done | (unfold kSl; split <;> rfl) | (congr; funext z S3; unfold kSl; split <;> rfl) | skip
@[simp] theorem E_sl {lo hi : Option E} : evalE X (.sl a lo hi) ρ S = (@R.bd _ _ ((evalE X a ρ S)) ⟨fun x S1 => (@R.bd _ _ ((kPart X ρ S1 lo)) ⟨fun l S2 => (@R.bd _ _ ((kPart X ρ S2 hi)) ⟨fun h S3 => kSl l h S3 x⟩)⟩)⟩) := E_sl_o
theorem E_bin_o {o : Op} : evalE X (.bin o a b) ρ S = (evalE X a ρ S).bind fun x S1 => (evalE X b ρ S1).bind fun y S2 => X.bin o x y S2 := by simp only [evalE]
@[simp] theorem E_bin {o : Op} : evalE X (.bin o a b) ρ S = (@R.bd _ _ ((evalE X a ρ S)) ⟨fun x S1 => (@R.bd _ _ ((evalE X b ρ S1)) ⟨fun y S2 => X.bin o x y S2⟩)⟩) := E_bin_o
theorem E_neg_o : evalE X (.neg a) ρ S = (evalE X a ρ S).bind fun x S1 => X.neg x S1 := by simp only [evalE]
@[simp] theorem E_neg : evalE X (.neg a) ρ S = (@R.bd _ _ ((evalE X a ρ S)) ⟨fun x S1 => X.neg x S1⟩) := E_neg_o
theorem E_eq_o : evalE X (.eq a b) ρ S = (evalE X a ρ S).bind fun x S1 => (evalE X b ρ S1).bind fun y S2 => X.eq x y S2 false := by simp only [evalE]
@[simp] theorem E_eq : evalE X (.eq a b) ρ S = (@R.bd _ _ ((evalE X a ρ S)) ⟨fun x S1 => (@R.bd _ _ ((evalE X b ρ S1)) ⟨fun y S2 => X.eq x y S2 false⟩)⟩) := E_eq_o
theorem E_ne_o : evalE X (.ne a b) ρ S = (evalE X a ρ S).bind fun x S1 => (evalE X b ρ S1).bind fun y S2 => X.eq x y S2 true := by simp only [evalE]
@[simp] theorem E_ne : evalE X (.ne a b) ρ S = (@R.bd _ _ ((evalE X a ρ S)) ⟨fun x S1 => (@R.bd _ _ ((evalE X b ρ S1)) ⟨fun y S2 => X.eq x y S2 true⟩)⟩) := E_ne_o
/-- a choice -/
def kIf (X : Ev) (a b : E) (ρ : Rho) : R A → R A
  | .ok (.val (.bl true)) S => evalE X a ρ S
  | .ok (.val (.bl false)) S => evalE X b ρ S
  | .ok _ _ => .st
  | .ex n d S => .ex n d S
  | .st => .st
@[simp] theorem kIf_t : kIf X a b ρ (.ok (.val (.bl true)) S) = evalE X a ρ S := rfl
@[simp] theorem kIf_f : kIf X a b ρ (.ok (.val (.bl false)) S) = evalE X b ρ S := rfl
@[simp] theorem kIf_ex : kIf X a b ρ (.ex n d S) = .ex n d S := rfl
@[simp] theorem E_ite : evalE X (.ite c a b) ρ S = kIf X a b ρ (evalE X c ρ S) := by
  simp only [evalE]
  cases evalE X c ρ S with
  | ok v S1 => simp only [R.bind]; unfold kIf; split <;> simp_all
  | ex _ _ _ => rfl
  | st => rfl
@[simp] theorem E_and : evalE X (.and a b) ρ S = kIf X b (.k (.bl false)) ρ (evalE X a ρ S) := by
  simp only [evalE]
  cases evalE X a ρ S with
  | ok v S1 => simp only [R.bind]; unfold kIf; split <;> simp_all [evalE]
  | ex _ _ _ => rfl
  | st => rfl
@[simp] theorem E_or : evalE X (.or a b) ρ S = kIf X (.k (.bl true)) b ρ (evalE X a ρ S) := by
  simp only [evalE]
  cases evalE X a ρ S with
  | ok v S1 => simp only [R.bind]; unfold kIf; split <;> simp_all [evalE]
  | ex _ _ _ => rfl
  | st => rfl
def kNot (S : Sto) : A → R A
  | .val (.bl b) => .ok (.val (.bl (!b))) S
  | _ => .st
@[simp] theorem kNot_b {b : Bool} : kNot S (.val (.bl b)) = .ok (.val (.bl (!b))) S := rfl
theorem E_not_o : evalE X (.not a) ρ S = (evalE X a ρ S).bind fun x S1 => kNot S1 x := by
  simp only [evalE]; congr; (try (funext x S1; unfold kNot; split <;> rfl))
@[simp] theorem E_not : evalE X (.not a) ρ S = (@R.bd _ _ ((evalE X a ρ S)) ⟨fun x S1 => kNot S1 x⟩) := E_not_o
/-- x < y < z -/
def kCh (X : Ev) (o' : P2) (c : E) (ρ : Rho) (e : A) (S : Sto) : Option D → R A
  | some (.bl true) => (evalE X c ρ S).bind fun z S3 => kP2 X o' S3 e z
  | some (.bl false) => .ok (.val (.bl false)) S
  | _ => .st
theorem kCh_t_o {o' : P2} : kCh X o' c ρ x S (some (.bl true)) = (evalE X c ρ S).bind fun z S3 => kP2 X o' S3 x z := rfl
@[simp] theorem kCh_t {o' : P2} : kCh X o' c ρ x S (some (.bl true)) = (@R.bd _ _ ((evalE X c ρ S)) ⟨fun z S3 => kP2 X o' S3 x z⟩) := kCh_t_o
@[simp] theorem kCh_f {o' : P2} : kCh X o' c ρ x S (some (.bl false)) = .ok (.val (.bl false)) S := rfl
def kCh1 (X : Ev) (o o' : P2) (c : E) (ρ : Rho) (S : Sto) : A → A → R A
  | .val d, .val e => kCh X o' c ρ (.val e) S (prim2 X.Γ X.k o d e)
  | _, _ => .st
@[simp] theorem kCh1_v {o o' : P2} : kCh1 X o o' c ρ S (.val d) (.val e) = kCh X o' c ρ (.val e) S (prim2 X.Γ X.k o d e) := rfl
theorem E_chain_o {o o' : P2} : evalE X (.chain o o' a b c) ρ S = (evalE X a ρ S).bind fun x S1 => (evalE X b ρ S1).bind fun y S2 => kCh1 X o o' c ρ S2 x y := by
  simp only [evalE]; congr; funext x S1; congr; funext y S2
  cases x <;> cases y <;> first | rfl | skip
  rename_i d e
  show _ = kCh X o' c ρ (.val e) S2 (prim2 X.Γ X.k o d e)
  dsimp only
  generalize prim2 X.Γ X.k o d e = u
  rcases u with _ | u
  · rfl
  · cases u with
    | bl t =>
      cases t with
      | false => rfl
      | true =>
        show (evalE X c ρ S2).bind _ = (evalE X c ρ S2).bind _
        congr; funext z S3
        cases z <;> rfl
    | _ => rfl
@[simp] theorem E_chain {o o' : P2} : evalE X (.chain o o' a b c) ρ S = (@R.bd _ _ ((evalE X a ρ S)) ⟨fun x S1 => (@R.bd _ _ ((evalE X b ρ S1)) ⟨fun y S2 => kCh1 X o o' c ρ S2 x y⟩)⟩) := E_chain_o
@[simp] theorem Es_nil : evalEs X [] ρ S = .ok [] S := by simp only [evalEs]
theorem Es_cons_o : evalEs X (a :: es) ρ S = (evalE X a ρ S).bind fun x S1 => (evalEs X es ρ S1).bind fun xs S2 => .ok (x :: xs) S2 := by simp only [evalEs]
@[simp] theorem Es_cons : evalEs X (a :: es) ρ S = (@R.bd _ _ ((evalE X a ρ S)) ⟨fun x S1 => (@R.bd _ _ ((evalEs X es ρ S1)) ⟨fun xs S2 => .ok (x :: xs) S2⟩)⟩) := Es_cons_o
theorem E_tup_o : evalE X (.tup es) ρ S = (evalEs X es ρ S).bind fun xs S1 => R.d ((vals xs).map .tup) S1 := by simp only [evalE]
@[simp] theorem E_tup : evalE X (.tup es) ρ S = (@R.bd _ _ ((evalEs X es ρ S)) ⟨fun xs S1 => R.d ((vals xs).map .tup) S1⟩) := E_tup_o
theorem E_lst_o : evalE X (.lst es) ρ S = (evalEs X es ρ S).bind fun xs S1 => R.d ((vals xs).map .lst) S1 := by simp only [evalE]
@[simp] theorem E_lst : evalE X (.lst es) ρ S = (@R.bd _ _ ((evalEs X es ρ S)) ⟨fun xs S1 => R.d ((vals xs).map .lst) S1⟩) := E_lst_o
theorem E_call_o : evalE X (.call n es) ρ S = (evalEs X es ρ S).bind fun xs S1 => X.call n xs S1 := by simp only [evalE]
@[simp] theorem E_call : evalE X (.call n es) ρ S = (@R.bd _ _ ((evalEs X es ρ S)) ⟨fun xs S1 => X.call n xs S1⟩) := E_call_o
theorem E_mk_o : evalE X (.mk n es) ρ S = (evalEs X es ρ S).bind fun xs S1 => X.make n xs S1 := by simp only [evalE]
@[simp] theorem E_mk : evalE X (.mk n es) ρ S = (@R.bd _ _ ((evalEs X es ρ S)) ⟨fun xs S1 => X.make n xs S1⟩) := E_mk_o
def kCalv (X : Ev) (es : List E) (ρ : Rho) (S : Sto) : A → R A
  | .val (.fn f) => (evalEs X es ρ S).bind fun xs S2 => X.call f xs S2
  | .val (.cls c) => (evalEs X es ρ S).bind fun xs S2 => X.make c xs S2
  | _ => .st
theorem kCalv_fn_o : kCalv X es ρ S (.val (.fn n)) = (evalEs X es ρ S).bind fun xs S2 => X.call n xs S2 := rfl
@[simp] theorem kCalv_fn : kCalv X es ρ S (.val (.fn n)) = (@R.bd _ _ ((evalEs X es ρ S)) ⟨fun xs S2 => X.call n xs S2⟩) := kCalv_fn_o
theorem E_calv_o : evalE X (.calv a es) ρ S = (evalE X a ρ S).bind fun x S1 => kCalv X es ρ S1 x := by
  simp only [evalE]; congr; (try (funext x S1; unfold kCalv; split <;> rfl))
@[simp] theorem E_calv : evalE X (.calv a es) ρ S = (@R.bd _ _ ((evalE X a ρ S)) ⟨fun x S1 => kCalv X es ρ S1 x⟩) := E_calv_o
def kMet (X : Ev) (es : List E) (ρ : Rho) (S : Sto) (x : A) : Option Nat → R A
  | some f => (evalEs X es ρ S).bind fun xs S2 => X.call f (x :: xs) S2
  | none => .st
theorem kMet_some_o : kMet X es ρ S x (some n) = (evalEs X es ρ S).bind fun xs S2 => X.call n (x :: xs) S2 := rfl
@[simp] theorem kMet_some : kMet X es ρ S x (some n) = (@R.bd _ _ ((evalEs X es ρ S)) ⟨fun xs S2 => X.call n (x :: xs) S2⟩) := kMet_some_o
theorem E_met_o {m : Nat} : evalE X (.met a m es) ρ S = (evalE X a ρ S).bind fun x S1 => kMet X es ρ S1 x (X.mfind x m S1) := by
  simp only [evalE]; congr; (try (funext x S1; unfold kMet; split <;> simp_all))
@[simp] theorem E_met {m : Nat} : evalE X (.met a m es) ρ S = (@R.bd _ _ ((evalE X a ρ S)) ⟨fun x S1 => kMet X es ρ S1 x (X.mfind x m S1)⟩) := E_met_o
@[simp] theorem E_b1 {o : P1} : evalE X (.b1 o i) ρ S = R.d ((heldS S ρ i).bind (look1 X.Γ o)) S := by simp only [evalE]
@[simp] theorem E_xarg : evalE X (.xarg i) ρ S = (match ρ[i]? with | some (some (.exc _ d)) => .ok (.val d) S | _ => .st) := by simp only [evalE]; try rfl
def kB2 (X : Ev) (o : P2) (i : Nat) (ρ : Rho) (S : Sto) : A → R A
  | .val d => R.d ((heldS S ρ i).bind fun h => look2 X.Γ X.k o h d) S
  | _ => .st
theorem kB2_v_o {o : P2} : kB2 X o i ρ S (.val d) = R.d ((heldS S ρ i).bind fun h => look2 X.Γ X.k o h d) S := rfl
@[simp] theorem kB2_v {o : P2} : kB2 X o i ρ S (.val d) = R.d ((heldS S ρ i).bind fun h => look2 X.Γ X.k o h d) S := kB2_v_o
theorem E_b2_o {o : P2} (h : ρ[i]? = some (some x)) : evalE X (.b2 o i a) ρ S = (evalE X a ρ S).bind fun y S1 => kB2 X o i ρ S1 y := by
  simp only [evalE, slotA, h]; congr; (try (funext x S1; unfold kB2; split <;> rfl))
theorem E_b2 {o : P2} (h : ρ[i]? = some (some x)) : evalE X (.b2 o i a) ρ S = (@R.bd _ _ ((evalE X a ρ S)) ⟨fun y S1 => kB2 X o i ρ S1 y⟩) := E_b2_o h
def kB2r (X : Ev) (o : P2) (i : Nat) (ρ : Rho) (S : Sto) : A → R A
  | .val d => R.d ((heldS S ρ i).bind fun h => look2r X.Γ X.k o d h) S
  | _ => .st
theorem E_f1_o {o : P1} {f : Nat} : evalE X (.f1 o a f) ρ S = (evalE X a ρ S).bind fun x S1 => R.d ((heldF X.Γ S1 x f).bind (look1 X.Γ o)) S1 := by simp only [evalE]
@[simp] theorem E_f1 {o : P1} {f : Nat} : evalE X (.f1 o a f) ρ S = (@R.bd _ _ ((evalE X a ρ S)) ⟨fun x S1 => R.d ((heldF X.Γ S1 x f).bind (look1 X.Γ o)) S1⟩) := E_f1_o
/-! statements -/
@[simp] theorem Ss_nil : evalSs X [] ρ S = .nx ρ S := by simp only [evalSs]
theorem Ss_cons_o {s : Mn.S} : evalSs X (s :: ls) ρ S = (evalS X s ρ S).seq fun ρ1 S1 => evalSs X ls ρ1 S1 := by simp only [evalSs]
@[simp] theorem Ss_cons {s : Mn.S} : evalSs X (s :: ls) ρ S = (@SR.sq ((evalS X s ρ S)) ⟨fun ρ1 S1 => evalSs X ls ρ1 S1⟩) := Ss_cons_o
theorem S_ret_o : evalS X (.ret a) ρ S = (evalE X a ρ S).sr ρ fun a S1 => .rt a S1 := by simp only [evalS]
@[simp] theorem S_ret : evalS X (.ret a) ρ S = (@R.sk _ ((evalE X a ρ S)) ρ ⟨fun a S1 => .rt a S1⟩) := S_ret_o
theorem S_expr_o : evalS X (.expr a) ρ S = (evalE X a ρ S).sr ρ fun _ S1 => .nx ρ S1 := by simp only [evalS]
@[simp] theorem S_expr : evalS X (.expr a) ρ S = (@R.sk _ ((evalE X a ρ S)) ρ ⟨fun _ S1 => .nx ρ S1⟩) := S_expr_o
noncomputable def kIfS (X : Ev) (a b : List Mn.S) (ρ : Rho) : R A → SR
  | .ok (.val (.bl true)) S => evalSs X a ρ S
  | .ok (.val (.bl false)) S => evalSs X b ρ S
  | .ok _ _ => .st
  | .ex n d S => .ex n d ρ S
  | .st => .st
@[simp] theorem kIfS_t : kIfS X ls ls' ρ (.ok (.val (.bl true)) S) = evalSs X ls ρ S := rfl
@[simp] theorem kIfS_f : kIfS X ls ls' ρ (.ok (.val (.bl false)) S) = evalSs X ls' ρ S := rfl
@[simp] theorem kIfS_ex : kIfS X ls ls' ρ (.ex n d S) = .ex n d ρ S := rfl
@[simp] theorem S_if : evalS X (.sif c ls ls') ρ S = kIfS X ls ls' ρ (evalE X c ρ S) := by
  simp only [evalS]
  cases evalE X c ρ S with
  | ok v S1 => simp only [R.sr]; unfold kIfS; split <;> simp_all
  | ex _ _ _ => rfl
  | st => rfl
def kRaise (ρ : Rho) (n : Nat) (S : Sto) : A → SR
  | .val d => .ex n d ρ S
  | _ => .st
@[simp] theorem kRaise_v : kRaise ρ n S (.val d) = .ex n d ρ S := rfl
theorem S_raise_o : evalS X (.raise n a) ρ S = (evalE X a ρ S).sr ρ fun a S1 => kRaise ρ n S1 a := by
  simp only [evalS]; congr; (try (funext x S1; unfold kRaise; split <;> rfl))
@[simp] theorem S_raise : evalS X (.raise n a) ρ S = (@R.sk _ ((evalE X a ρ S)) ρ ⟨fun a S1 => kRaise ρ n S1 a⟩) := S_raise_o
def kTry (X : Ev) (hs : List (Nat × Option Nat × E)) : SR → SR
  | .ex c d ρ S => handle X c d ρ S hs
  | r => r
@[simp] theorem kTry_ex {hs : List (Nat × Option Nat × E)} : kTry X hs (.ex n d ρ S) = handle X n d ρ S hs := rfl
@[simp] theorem kTry_rt {hs : List (Nat × Option Nat × E)} : kTry X hs (.rt x S) = .rt x S := rfl
@[simp] theorem kTry_nx {hs : List (Nat × Option Nat × E)} : kTry X hs (.nx ρ S) = .nx ρ S := rfl
@[simp] theorem S_try {hs : List (Nat × Option Nat × E)} : evalS X (.stry ls hs) ρ S = kTry X hs (evalSs X ls ρ S) := by
  simp only [evalS]; cases evalSs X ls ρ S <;> rfl
@[simp] theorem S_pass : evalS X .pass ρ S = .nx ρ S := by simp only [evalS]
@[simp] theorem ofR_some {ρ' : Rho} : SR.ofR ρ S (some ρ') = .nx ρ' S := rfl
theorem S_setv_o : evalS X (.set (.v i) a) ρ S = (evalE X a ρ S).sr ρ fun a S1 => (if isVal a then SR.ofR ρ S1 (putR ρ i a) else .st) := by simp only [evalS, evalP, assignT]
@[simp] theorem S_setv : evalS X (.set (.v i) a) ρ S = (@R.sk _ ((evalE X a ρ S)) ρ ⟨fun a S1 => (if isVal a then SR.ofR ρ S1 (putR ρ i a) else .st)⟩) := S_setv_o
theorem S_set_o {t : T} : evalS X (.set t a) ρ S = (evalP X t a ρ S).sr ρ fun a S1 => assignT X t a ρ S1 := by simp only [evalS]
@[simp] theorem S_set {t : T} : evalS X (.set t a) ρ S = (@R.sk _ ((evalP X t a ρ S)) ρ ⟨fun a S1 => assignT X t a ρ S1⟩) := S_set_o
def kPar (bs : List B) (ρ : Rho) (S : Sto) : Option (List D) → SR
  | some ds => SR.ofR ρ S (bindTs bs ds ρ)
  | none => .st
@[simp] theorem kPar_s {bs : List B} {ds : List D} : kPar bs ρ S (some ds) = SR.ofR ρ S (bindTs bs ds ρ) := rfl
theorem S_par_o {bs : List B} : evalS X (.par bs es) ρ S = (evalEs X es ρ S).sr ρ fun l S1 => kPar bs ρ S1 (vals l) := by
  simp only [evalS]; congr; (try (funext x S1; unfold kPar; split <;> rfl))
@[simp] theorem S_par {bs : List B} : evalS X (.par bs es) ρ S = (@R.sk _ ((evalEs X es ρ S)) ρ ⟨fun l S1 => kPar bs ρ S1 (vals l)⟩) := S_par_o
def kFld (X : Ev) (f : Nat) (S1 : Sto) : A → R A
  | .val (.obj c l) => (match X.Γ.cl c with
          | some cl => (match cl.flds.idxOf? f with | some i => R.d l[i]? S1 | none => .st)
          | none => .st)
  | .ref n => (match fieldS X.Γ S1 n f with | some (.val d) => .ok (.val d) S1 | _ => .st)
  | _ => .st
theorem E_fld_o {f : Nat} : evalE X (.fld a f) ρ S = (evalE X a ρ S).bind fun x S1 => kFld X f S1 x := by
  simp only [evalE]; congr; (try (funext x S1; unfold kFld; split <;> rfl))
@[simp] theorem E_fld {f : Nat} : evalE X (.fld a f) ρ S = (@R.bd _ _ ((evalE X a ρ S)) ⟨fun x S1 => kFld X f S1 x⟩) := E_fld_o
end
end Mn.Pf

set_option maxRecDepth 100000
set_option maxHeartbeats 1000000
namespace Mn.Pf
open PySem
theorem S_while {X : Ev} {c : E} {b : List Mn.S} {ρ : Rho} {S : Sto} : evalS X (.swhile c b) ρ S = iter (turnW (evalE X c) (evalSs X b)) .st (ρ, S) := by simp only [evalS]
theorem ev_call {Γ : Prog} {k : Nat} (h : 1 ≤ k) : (ev Γ k).call = callM Γ k := by
  obtain ⟨k, rfl⟩ : ∃ j, k = j + 1 := ⟨k - 1, by omega⟩
  rfl
theorem ev_init {Γ : Prog} {k : Nat} (h : 1 ≤ k) : (ev Γ k).init = callM Γ (k - 1) := by
  obtain ⟨k, rfl⟩ : ∃ j, k = j + 1 := ⟨k - 1, by omega⟩
  rfl
@[simp] theorem ev_G {Γ : Prog} {k : Nat} : (ev Γ k).Γ = Γ := by cases k <;> rfl
@[simp] theorem ev_k {Γ : Prog} {k : Nat} : (ev Γ k).k = k := by cases k <;> rfl
theorem call_eq {Γ : Prog} {f : Nat} {fd : Fn} {args : List A} {S : Sto} {k : Nat} (h : Γ.fn f = some fd) (hk : 1 ≤ k) : callM Γ k f args S = match startR fd args with
    | none => .st
    | some ρ => endR fd.scp S (evalSs (ev Γ (k - 1)) fd.body ρ S) := by
  obtain ⟨k, rfl⟩ : ∃ j, k = j + 1 := ⟨k - 1, by omega⟩
  rw [callM_succ, runB, ev_G, h]
  rfl
theorem beq_int {i j : Int} : (i == j) = decide (i = j) := by
  by_cases h : i = j <;> simp [h]
theorem beq_str {i j : Str} : (i == j) = decide (i = j) := by
  by_cases h : i = j <;> simp [h]
/-- an integer that is no bool -/
def isIntD : D → Bool
  | .int _ => true
  | _ => false
def plainD : D → Bool
  | .fn _ => false
  | .cls _ => false
  | _ => true
variable {k : Nat}
theorem s_is_integer (hk : 1 ≤ k) (d : D) (S : Sto) (hp : plainD d = true) : callM pg k f_is_integer [.val d] S = .ok (.val (.bl (isIntD d))) S := by
  rw [call_eq (fd := d_is_integer) rfl hk]
  cases d <;> first | (cases hp; done) | simp [startR, evalP, assignT, assignTs, isVal, putR, vals, heldS, look1, look2, look2r, prim1, prim2, arith, bindT, bindTs, Ev.bin, Ev.eq, Ev.neg, endR, ofB, ofBs, isTy, isC, eqN, eqNs, eqD, eqDs, b2i, beq_int, beq_str, isObjD, plainR, d_is_integer, b_is_integer, isIntD]
theorem s_is_whole (hk : 1 ≤ k) (d : D) (S : Sto) (hp : plainD d = true) : callM pg k f_law_is_whole [.val d] S = .ok (.val (.bl (isIntD d))) S := by
  rw [call_eq (fd := d_law_is_whole) rfl hk]
  cases d <;> first | (cases hp; done) | simp [startR, evalP, assignT, assignTs, isVal, putR, vals, heldS, look1, look2, look2r, prim1, prim2, arith, bindT, bindTs, Ev.bin, Ev.eq, Ev.neg, endR, ofB, ofBs, isTy, isC, eqN, eqNs, eqD, eqDs, b2i, beq_int, beq_str, isObjD, plainR, d_law_is_whole, b_law_is_whole, isIntD]
theorem s_is_int (hk : 1 ≤ k) (i : Int) (S : Sto) : callM pg k f_is_integer [.val (.int i)] S = .ok (.val (.bl true)) S := s_is_integer hk (.int i) S rfl
@[simp] theorem fld_n {k : Nat} {x y : D} {S : Sto} : kFld (ev pg k) 6 S (.val (.obj 10 [x, y])) = .ok (.val x) S := by
  simp only [kFld, ev_G]
  rfl
@[simp] theorem fld_d {k : Nat} {x y : D} {S : Sto} : kFld (ev pg k) 7 S (.val (.obj 10 [x, y])) = .ok (.val y) S := by
  simp only [kFld, ev_G]
  rfl
theorem mfind_rt {k m : Nat} {l : List D} {S : Sto} : (ev pg k).mfind (.val (.obj 10 l)) m S = l_Ratio.meths.lookup m := by
  simp only [Ev.mfind, ev_G]
  rfl
@[simp] theorem heldF_n {x y : D} {S : Sto} : heldF pg S (.val (.obj 10 [x, y])) 6 = some (.val x) := rfl
@[simp] theorem heldF_d {x y : D} {S : Sto} : heldF pg S (.val (.obj 10 [x, y])) 7 = some (.val y) := rfl
/-- the loop of the greatest common divisor -/
theorem gcd_loop {X : Ev} {c : Rho → Sto → R A} {b : Rho → Sto → SR} {S : Sto} (hc : ∀ x y : Nat, c [some (.val (.int x)), some (.val (.int y))] S = .ok (.val (.bl (decide (0 < y)))) S)
    (hb : ∀ x y : Nat, 0 < y → b [some (.val (.int x)), some (.val (.int y))] S = .nx [some (.val (.int y)), some (.val (.int ((x % y : Nat) : Int)))] S) :
    ∀ y x : Nat, iter (turnW c b) .st ([some (.val (.int x)), some (.val (.int y))], S) = .nx [some (.val (.int (Nat.gcd x y : Nat))), some (.val (.int ((0 : Nat) : Int)))] S := by
  intro y
  induction y using Nat.strongRecOn with
  | _ y ih =>
    intro x
    rw [iter_eq]
    by_cases h : 0 < y
    · have e : turnW c b ([some (.val (.int x)), some (.val (.int y))], S) = .inl ([some (.val (.int y)), some (.val (.int ((x % y : Nat) : Int)))], S) := by
        simp [turnW, hc, hb x y h, h]
      rw [e]
      simp only
      rw [ih (x % y) (Nat.mod_lt _ h) y, Nat.gcd_comm x y, Nat.gcd_rec y x, Nat.gcd_comm]
    · have e : turnW c b ([some (.val (.int x)), some (.val (.int y))], S) = .inr (.nx [some (.val (.int x)), some (.val (.int y))] S) := by
        simp [turnW, hc, h]
      rw [e]
      have : y = 0 := by omega
      subst this
      simp
theorem abs_nat (i : Int) : (if i < 0 then -i else i) = ((i.natAbs : Nat) : Int) := by
  split <;> omega
theorem fmod_nat (x y : Nat) : Int.fmod (x : Int) (y : Int) = ((x % y : Nat) : Int) := by
  rw [Int.fmod_eq_emod_of_nonneg _ (by omega)]; rfl
theorem s_common (hk : 1 ≤ k) (a b : Int) (S : Sto) : callM pg k f_common [.val (.int a), .val (.int b)] S = .ok (.val (.int (Int.gcd a b : Nat))) S := by
  rw [call_eq (fd := d_common) rfl hk]
  simp [startR, evalP, assignT, assignTs, isVal, putR, vals, heldS, look1, look2, look2r, prim1, prim2, arith, bindT, bindTs, Ev.bin, Ev.eq, Ev.neg, endR, ofB, ofBs, isTy, isC, eqN, eqNs, eqD, eqDs, b2i, beq_int, beq_str, isObjD, plainR, d_common, b_common, abs_nat, S_while]
  rw [gcd_loop (X := ev pg (k - 1))]
  · simp [startR, evalP, assignT, assignTs, isVal, putR, vals, heldS, look1, look2, look2r, prim1, prim2, arith, bindT, bindTs, Ev.bin, Ev.eq, Ev.neg, endR, ofB, ofBs, isTy, isC, eqN, eqNs, eqD, eqDs, b2i, beq_int, beq_str, isObjD, plainR]
    rfl
  · intro x y
    simp [startR, evalP, assignT, assignTs, isVal, putR, vals, heldS, look1, look2, look2r, prim1, prim2, arith, bindT, bindTs, Ev.bin, Ev.eq, Ev.neg, endR, ofB, ofBs, isTy, isC, eqN, eqNs, eqD, eqDs, b2i, beq_int, beq_str, isObjD, plainR]
  · intro x y h
    have : y ≠ 0 := by omega
    simp [startR, evalP, assignT, assignTs, isVal, putR, vals, heldS, look1, look2, look2r, prim1, prim2, arith, bindT, bindTs, Ev.bin, Ev.eq, Ev.neg, endR, ofB, ofBs, isTy, isC, eqN, eqNs, eqD, eqDs, b2i, beq_int, beq_str, isObjD, plainR, this, fmod_nat]
end Mn.Pf

set_option maxRecDepth 100000
set_option maxHeartbeats 1000000
namespace Mn.Pf
open PySem
set_option exponentiation.threshold 20000
variable {k : Nat}
def rt (n d : Int) : D := .obj c_Ratio [.int (pn n d), .int (pd n d)]
theorem set_last {α : Type} {l : List α} {x y : α} : (l ++ [x]).set l.length y = l ++ [y] := by
  induction l with
  | nil => rfl
  | cons a l ih => simp [ih]
theorem get_last {α : Type} {l : List α} {x : α} : (l ++ [x])[l.length]? = some x := by
  induction l with
  | nil => rfl
  | cons a l ih => simp [ih]
theorem divOk_of {d : Int} (h : d ≠ 0) (hs : d.natAbs < 2 ^ 9000) : divOk d = true := by
  unfold divOk
  have : d.natAbs.log2 < 9000 := (Nat.log2_lt (by omega)).mpr hs
  simp [h, this]
theorem divOk_g {n d : Int} (h : d ≠ 0) (hs : d.natAbs < 2 ^ 9000) : divOk (Int.gcd n d : Nat) = true ∧ divOk (-(Int.gcd n d : Nat) : Int) = true := by
  have h0 : Int.gcd n d ≠ 0 := fun z => h (Int.gcd_eq_zero_iff.mp z).2
  have h1 : Int.gcd n d ≤ d.natAbs := Nat.le_of_dvd (by omega) (Nat.gcd_dvd_right _ _)
  have h2 := Nat.lt_of_le_of_lt h1 hs
  exact ⟨divOk_of (by omega) (by simpa using h2), divOk_of (by omega) (by simpa using h2)⟩
theorem s_init (hk : 2 ≤ k) (a b : Int) (S : Sto) (hs : b.natAbs < 2 ^ 9000) : callM pg k f_Ratio_init [.ref S.length, .val (.int a), .val (.int b)] (S ++ [.ins 10 []]) =
    if b = 0 then .ex 1 (.str "zero") (S ++ [.ins 10 []]) else .ok (.val .non) (S ++ [.ins 10 [(6, .val (.int (pn a b))), (7, .val (.int (pd a b)))]]) := by
  rw [call_eq (fd := d_Ratio_init) rfl (by omega)]
  have e1 : (ev pg (k - 1)).call = callM pg (k - 1) := ev_call (by omega)
  have e2 := s_is_int (k := k - 1) (by omega)
  have e3 := s_common (k := k - 1) (by omega)
  have e4 : pg.cl 10 = some l_Ratio := rfl
  by_cases hb : b = 0
  · subst hb
    simp [startR, evalP, assignT, assignTs, isVal, putR, vals, heldS, look1, look2, look2r, prim1, prim2, arith, bindT, bindTs, Ev.bin, Ev.eq, Ev.neg, endR, ofB, ofBs, isTy, isC, eqN, eqNs, eqD, eqDs, b2i, beq_int, beq_str, isObjD, plainR, d_Ratio_init, b_Ratio_init, e1, e2, plainD, isIntD]
  · have ⟨g1, g2⟩ := divOk_g (n := a) hb hs
    by_cases hp : 0 < b
    · have q1 : Int.fdiv a (Int.gcd a b : Nat) = pn a b := by unfold pn gI; rw [if_pos hp]
      have q2 : Int.fdiv b (Int.gcd a b : Nat) = pd a b := by unfold pd gI; rw [if_pos hp]
      simp [startR, evalP, assignT, assignTs, isVal, putR, vals, heldS, look1, look2, look2r, prim1, prim2, arith, bindT, bindTs, Ev.bin, Ev.eq, Ev.neg, endR, ofB, ofBs, isTy, isC, eqN, eqNs, eqD, eqDs, b2i, beq_int, beq_str, isObjD, plainR, d_Ratio_init, b_Ratio_init, e1, e2, e3, e4, plainD, isIntD, hb, hp, g1, setFld, l_Ratio, get_last, set_last, putF, q1, q2]
    · have q1 : Int.fdiv a (-(Int.gcd a b : Nat)) = pn a b := by unfold pn gI; rw [if_neg hp]
      have q2 : Int.fdiv b (-(Int.gcd a b : Nat)) = pd a b := by unfold pd gI; rw [if_neg hp]
      simp [startR, evalP, assignT, assignTs, isVal, putR, vals, heldS, look1, look2, look2r, prim1, prim2, arith, bindT, bindTs, Ev.bin, Ev.eq, Ev.neg, endR, ofB, ofBs, isTy, isC, eqN, eqNs, eqD, eqDs, b2i, beq_int, beq_str, isObjD, plainR, d_Ratio_init, b_Ratio_init, e1, e2, e3, e4, plainD, isIntD, hb, hp, g2, setFld, l_Ratio, get_last, set_last, putF, q1, q2]
theorem s_initD (a : Int) (S : Sto) : callM pg k f_Ratio_init [.ref S.length, .val (.int a)] (S ++ [.ins 10 []]) = callM pg k f_Ratio_init [.ref S.length, .val (.int a), .val (.int 1)] (S ++ [.ins 10 []]) := by
  cases k with
  | zero => rfl
  | succ k =>
    rw [call_eq (fd := d_Ratio_init) rfl (by omega), call_eq (fd := d_Ratio_init) rfl (by omega)]
    rfl
theorem s_initB (hk : 2 ≤ k) (x y : D) (S : Sto) (hx : plainD x = true) (hy : plainD y = true) (hb : (isIntD x && isIntD y) = false) : callM pg k f_Ratio_init [.ref S.length, .val x, .val y] (S ++ [.ins 10 []]) = .ex 0 (.str "an integer") (S ++ [.ins 10 []]) := by
  rw [call_eq (fd := d_Ratio_init) rfl (by omega)]
  have e1 : (ev pg (k - 1)).call = callM pg (k - 1) := ev_call (by omega)
  have e2 := s_is_integer (k := k - 1) (by omega)
  have e2x := e2 x (S ++ [.ins 10 []]) hx
  have e2y := e2 y (S ++ [.ins 10 []]) hy
  cases h1 : isIntD x with
  | false => simp [startR, evalP, assignT, assignTs, isVal, putR, vals, heldS, look1, look2, look2r, prim1, prim2, arith, bindT, bindTs, Ev.bin, Ev.eq, Ev.neg, endR, ofB, ofBs, isTy, isC, eqN, eqNs, eqD, eqDs, b2i, beq_int, beq_str, isObjD, plainR, d_Ratio_init, b_Ratio_init, e1, e2x, h1]
  | true =>
    rw [h1] at hb
    have h2 : isIntD y = false := by simpa using hb
    simp [startR, evalP, assignT, assignTs, isVal, putR, vals, heldS, look1, look2, look2r, prim1, prim2, arith, bindT, bindTs, Ev.bin, Ev.eq, Ev.neg, endR, ofB, ofBs, isTy, isC, eqN, eqNs, eqD, eqDs, b2i, beq_int, beq_str, isObjD, plainR, d_Ratio_init, b_Ratio_init, e1, e2x, e2y, h1, h2]
theorem take_len {l : Sto} {x : SO} : (l ++ [x]).take l.length = l := by simp
/-- Ratio(n, d) -/
theorem s_mk (hk : 3 ≤ k) (a b : Int) (S : Sto) (hs : b.natAbs < 2 ^ 9000) : (ev pg k).make c_Ratio [.val (.int a), .val (.int b)] S = if b = 0 then .ex 1 (.str "zero") S else .ok (.val (rt a b)) S := by
  have e0 : pg.cl 10 = some l_Ratio := rfl
  have e1 := s_init (k := k - 1) (by omega) a b S hs
  by_cases hb : b = 0
  · rw [if_pos hb] at e1 ⊢
    simp [Ev.make, e0, l_Ratio, ev_init (Γ := pg) (k := k) (by omega), e1]
  · rw [if_neg hb] at e1 ⊢
    simp [Ev.make, e0, l_Ratio, ev_init (Γ := pg) (k := k) (by omega), e1, fieldsOf, rt, get_last]
theorem s_mk1 (hk : 3 ≤ k) (a : Int) (S : Sto) : (ev pg k).make c_Ratio [.val (.int a)] S = .ok (.val (rt a 1)) S := by
  have e0 : pg.cl 10 = some l_Ratio := rfl
  have e1 := s_init (k := k - 1) (by omega) a 1 S (by decide +kernel)
  rw [if_neg (by decide)] at e1
  simp [Ev.make, e0, l_Ratio, ev_init (Γ := pg) (k := k) (by omega), s_initD, e1, fieldsOf, rt, get_last]
theorem s_mkB (hk : 3 ≤ k) (x y : D) (S : Sto) (hx : plainD x = true) (hy : plainD y = true) (hb : (isIntD x && isIntD y) = false) : (ev pg k).make c_Ratio [.val x, .val y] S = .ex 0 (.str "an integer") S := by
  have e0 : pg.cl 10 = some l_Ratio := rfl
  have e1 := s_initB (k := k - 1) (by omega) x y S hx hy hb
  simp [Ev.make, e0, l_Ratio, ev_init (Γ := pg) (k := k) (by omega), e1]
theorem s_check (hk : 1 ≤ k) (d : D) (S : Sto) (hp : plainD d = true) : callM pg k f_check_ratio [.val d] S = (match isC c_Ratio d with | some true => .ok (.val .non) S | _ => .ex 0 (.str "a ratio") S) := by
  rw [call_eq (fd := d_check_ratio) rfl hk]
  cases d <;> first | (cases hp; done) | simp [startR, evalP, assignT, assignTs, isVal, putR, vals, heldS, look1, look2, look2r, prim1, prim2, arith, bindT, bindTs, Ev.bin, Ev.eq, Ev.neg, endR, ofB, ofBs, isTy, isC, eqN, eqNs, eqD, eqDs, b2i, beq_int, beq_str, isObjD, plainR, d_check_ratio, b_check_ratio]
  rename_i c l
  by_cases h : c = 10
  · subst h; simp [startR, evalP, assignT, assignTs, isVal, putR, vals, heldS, look1, look2, look2r, prim1, prim2, arith, bindT, bindTs, Ev.bin, Ev.eq, Ev.neg, endR, ofB, ofBs, isTy, isC, eqN, eqNs, eqD, eqDs, b2i, beq_int, beq_str, isObjD, plainR, d_check_ratio, b_check_ratio]
  · have h1 : (c_Ratio == c) = false := by simpa using fun z : 10 = c => h z.symm
    simp [startR, evalP, assignT, assignTs, isVal, putR, vals, heldS, look1, look2, look2r, prim1, prim2, arith, bindT, bindTs, Ev.bin, Ev.eq, Ev.neg, endR, ofB, ofBs, isTy, isC, eqN, eqNs, eqD, eqDs, b2i, beq_int, beq_str, isObjD, plainR, d_check_ratio, b_check_ratio, h1, h]
end Mn.Pf

set_option maxRecDepth 100000
set_option maxHeartbeats 1000000
namespace Mn.Pf
open PySem
set_option exponentiation.threshold 20000
abbrev ro (p q : Int) : D := .obj 10 [.int p, .int q]
def Bd (i : Int) : Prop := i.natAbs < 2 ^ 4000
theorem mulOk_of {i j : Int} (hi : Bd i) (hj : Bd j) : mulOk i j = true := by
  have z : ∀ {i : Int}, Bd i → i.natAbs.log2 < 4000 := fun {i} hi => by
    by_cases h : i.natAbs = 0
    · rw [h]; decide
    · exact (Nat.log2_lt h).mpr hi
  have := z hi
  have := z hj
  unfold mulOk
  have e : i.natAbs.log2 + j.natAbs.log2 < 1000000 := by omega
  simp [e]
theorem Bd.mul {i j : Int} (hi : Bd i) (hj : Bd j) : (i * j).natAbs < 2 ^ 9000 := by
  unfold Bd at hi hj
  rw [Int.natAbs_mul]
  have : i.natAbs * j.natAbs < 2 ^ 4000 * 2 ^ 4000 := Nat.mul_lt_mul_of_le_of_lt (Nat.le_of_lt hi) hj (Nat.pow_pos (by decide))
  refine Nat.lt_of_lt_of_le this ?_
  rw [← Nat.pow_add]
  exact Nat.pow_le_pow_right (by decide) (by decide)
variable {k : Nat}
theorem s_check_ok (hk : 1 ≤ k) (p q : Int) (S : Sto) : callM pg k f_check_ratio [.val (ro p q)] S = .ok (.val .non) S := by
  rw [s_check hk _ _ rfl]; rfl
section
variable {p q p' q' : Int} (hp : Bd p) (hq : Bd q) (hp' : Bd p') (hq' : Bd q')
include hp hq hp' hq'
theorem s_add (hk : 4 ≤ k) (h0 : q ≠ 0) (h0' : q' ≠ 0) (S : Sto) : callM pg k f_Ratio_add [.val (ro p q), .val (ro p' q')] S = .ok (.val (rt (p * q' + p' * q) (q * q'))) S := by
  rw [call_eq (fd := d_Ratio_add) rfl (by omega)]
  have e1 : (ev pg (k - 1)).call = callM pg (k - 1) := ev_call (by omega)
  have e2 := s_check_ok (k := k - 1) (by omega) p' q' S
  have e3 := s_mk (k := k - 1) (by omega) (p * q' + p' * q) (q * q') S (hq.mul hq')
  rw [if_neg (Int.mul_ne_zero h0 h0')] at e3
  simp [startR, evalP, assignT, assignTs, isVal, putR, vals, heldS, look1, look2, look2r, prim1, prim2, arith, bindT, bindTs, Ev.bin, Ev.eq, Ev.neg, endR, ofB, ofBs, isTy, isC, eqN, eqNs, eqD, eqDs, b2i, beq_int, beq_str, isObjD, plainR, d_Ratio_add, b_Ratio_add, e1, e2, e3, mulOk_of hp hq', mulOk_of hp' hq, mulOk_of hq hq']
theorem s_sub (hk : 4 ≤ k) (h0 : q ≠ 0) (h0' : q' ≠ 0) (S : Sto) : callM pg k f_Ratio_sub [.val (ro p q), .val (ro p' q')] S = .ok (.val (rt (p * q' - p' * q) (q * q'))) S := by
  rw [call_eq (fd := d_Ratio_sub) rfl (by omega)]
  have e1 : (ev pg (k - 1)).call = callM pg (k - 1) := ev_call (by omega)
  have e2 := s_check_ok (k := k - 1) (by omega) p' q' S
  have e3 := s_mk (k := k - 1) (by omega) (p * q' - p' * q) (q * q') S (hq.mul hq')
  rw [if_neg (Int.mul_ne_zero h0 h0')] at e3
  simp [startR, evalP, assignT, assignTs, isVal, putR, vals, heldS, look1, look2, look2r, prim1, prim2, arith, bindT, bindTs, Ev.bin, Ev.eq, Ev.neg, endR, ofB, ofBs, isTy, isC, eqN, eqNs, eqD, eqDs, b2i, beq_int, beq_str, isObjD, plainR, d_Ratio_sub, b_Ratio_sub, e1, e2, e3, mulOk_of hp hq', mulOk_of hp' hq, mulOk_of hq hq']
theorem s_mul (hk : 4 ≤ k) (h0 : q ≠ 0) (h0' : q' ≠ 0) (S : Sto) : callM pg k f_Ratio_mul [.val (ro p q), .val (ro p' q')] S = .ok (.val (rt (p * p') (q * q'))) S := by
  rw [call_eq (fd := d_Ratio_mul) rfl (by omega)]
  have e1 : (ev pg (k - 1)).call = callM pg (k - 1) := ev_call (by omega)
  have e2 := s_check_ok (k := k - 1) (by omega) p' q' S
  have e3 := s_mk (k := k - 1) (by omega) (p * p') (q * q') S (hq.mul hq')
  rw [if_neg (Int.mul_ne_zero h0 h0')] at e3
  simp [startR, evalP, assignT, assignTs, isVal, putR, vals, heldS, look1, look2, look2r, prim1, prim2, arith, bindT, bindTs, Ev.bin, Ev.eq, Ev.neg, endR, ofB, ofBs, isTy, isC, eqN, eqNs, eqD, eqDs, b2i, beq_int, beq_str, isObjD, plainR, d_Ratio_mul, b_Ratio_mul, e1, e2, e3, mulOk_of hp hp', mulOk_of hq hq']
theorem s_over (hk : 4 ≤ k) (h0 : q ≠ 0) (S : Sto) : callM pg k f_Ratio_over [.val (ro p q), .val (ro p' q')] S = if p' = 0 then .ex 1 (.str "zero") S else .ok (.val (rt (p * q') (q * p'))) S := by
  rw [call_eq (fd := d_Ratio_over) rfl (by omega)]
  have e1 : (ev pg (k - 1)).call = callM pg (k - 1) := ev_call (by omega)
  have e2 := s_check_ok (k := k - 1) (by omega) p' q' S
  have e3 := s_mk (k := k - 1) (by omega) (p * q') (q * p') S (hq.mul hp')
  by_cases h : p' = 0
  · subst h
    rw [if_pos (by rw [Int.mul_zero])] at e3
    have m1 := mulOk_of hp hq'
    have m2 := mulOk_of hq hp'
    rw [Int.mul_zero] at e3
    simp [startR, evalP, assignT, assignTs, isVal, putR, vals, heldS, look1, look2, look2r, prim1, prim2, arith, bindT, bindTs, Ev.bin, Ev.eq, Ev.neg, endR, ofB, ofBs, isTy, isC, eqN, eqNs, eqD, eqDs, b2i, beq_int, beq_str, isObjD, plainR, d_Ratio_over, b_Ratio_over, e1, e2, e3, m1, m2]
  · rw [if_neg (Int.mul_ne_zero h0 h)] at e3
    simp [startR, evalP, assignT, assignTs, isVal, putR, vals, heldS, look1, look2, look2r, prim1, prim2, arith, bindT, bindTs, Ev.bin, Ev.eq, Ev.neg, endR, ofB, ofBs, isTy, isC, eqN, eqNs, eqD, eqDs, b2i, beq_int, beq_str, isObjD, plainR, d_Ratio_over, b_Ratio_over, e1, e2, e3, mulOk_of hp hq', mulOk_of hq hp', h]
theorem s_less (hk : 4 ≤ k) (S : Sto) : callM pg k f_Ratio_less [.val (ro p q), .val (ro p' q')] S = .ok (.val (.bl (decide (p * q' < p' * q)))) S := by
  rw [call_eq (fd := d_Ratio_less) rfl (by omega)]
  have e1 : (ev pg (k - 1)).call = callM pg (k - 1) := ev_call (by omega)
  have e2 := s_check_ok (k := k - 1) (by omega) p' q' S
  simp [startR, evalP, assignT, assignTs, isVal, putR, vals, heldS, look1, look2, look2r, prim1, prim2, arith, bindT, bindTs, Ev.bin, Ev.eq, Ev.neg, endR, ofB, ofBs, isTy, isC, eqN, eqNs, eqD, eqDs, b2i, beq_int, beq_str, isObjD, plainR, d_Ratio_less, b_Ratio_less, e1, e2, mulOk_of hp hq', mulOk_of hp' hq]
end
section
variable (p q : Int)
theorem s_neg (hk : 4 ≤ k) (hq : q.natAbs < 2 ^ 9000) (h0 : q ≠ 0) (S : Sto) : callM pg k f_Ratio_neg [.val (ro p q)] S = .ok (.val (rt (-p) q)) S := by
  rw [call_eq (fd := d_Ratio_neg) rfl (by omega)]
  have e3 := s_mk (k := k - 1) (by omega) (-p) q S hq
  rw [if_neg h0] at e3
  simp [startR, evalP, assignT, assignTs, isVal, putR, vals, heldS, look1, look2, look2r, prim1, prim2, arith, bindT, bindTs, Ev.bin, Ev.eq, Ev.neg, endR, ofB, ofBs, isTy, isC, eqN, eqNs, eqD, eqDs, b2i, beq_int, beq_str, isObjD, plainR, d_Ratio_neg, b_Ratio_neg, e3]
theorem s_sign (hk : 1 ≤ k) (S : Sto) : callM pg k f_Ratio_sign [.val (ro p q)] S = .ok (.val (.int (if 0 < p then 1 else if p < 0 then -1 else 0))) S := by
  rw [call_eq (fd := d_Ratio_sign) rfl (by omega)]
  by_cases h1 : 0 < p
  · have h2 : ¬ p < 0 := by omega
    simp [startR, evalP, assignT, assignTs, isVal, putR, vals, heldS, look1, look2, look2r, prim1, prim2, arith, bindT, bindTs, Ev.bin, Ev.eq, Ev.neg, endR, ofB, ofBs, isTy, isC, eqN, eqNs, eqD, eqDs, b2i, beq_int, beq_str, isObjD, plainR, d_Ratio_sign, b_Ratio_sign, h1, h2]
  · by_cases h2 : p < 0
    · simp [startR, evalP, assignT, assignTs, isVal, putR, vals, heldS, look1, look2, look2r, prim1, prim2, arith, bindT, bindTs, Ev.bin, Ev.eq, Ev.neg, endR, ofB, ofBs, isTy, isC, eqN, eqNs, eqD, eqDs, b2i, beq_int, beq_str, isObjD, plainR, d_Ratio_sign, b_Ratio_sign, h1, h2]
    · simp [startR, evalP, assignT, assignTs, isVal, putR, vals, heldS, look1, look2, look2r, prim1, prim2, arith, bindT, bindTs, Ev.bin, Ev.eq, Ev.neg, endR, ofB, ofBs, isTy, isC, eqN, eqNs, eqD, eqDs, b2i, beq_int, beq_str, isObjD, plainR, d_Ratio_sign, b_Ratio_sign, h1, h2]
theorem s_iswhole (hk : 2 ≤ k) (S : Sto) : callM pg k f_Ratio_is_whole [.val (ro p q)] S = .ok (.val (.bl (decide (q = 1)))) S := by
  rw [call_eq (fd := d_Ratio_is_whole) rfl (by omega)]
  simp [startR, evalP, assignT, assignTs, isVal, putR, vals, heldS, look1, look2, look2r, prim1, prim2, arith, bindT, bindTs, Ev.bin, Ev.eq, Ev.neg, endR, ofB, ofBs, isTy, isC, eqN, eqNs, eqD, eqDs, b2i, beq_int, beq_str, isObjD, plainR, d_Ratio_is_whole, b_Ratio_is_whole]
theorem s_floor (hk : 2 ≤ k) (hq : q.natAbs < 2 ^ 9000) (h0 : q ≠ 0) (S : Sto) : callM pg k f_Ratio_floor [.val (ro p q)] S = .ok (.val (.int (p.fdiv q))) S := by
  rw [call_eq (fd := d_Ratio_floor) rfl (by omega)]
  simp [startR, evalP, assignT, assignTs, isVal, putR, vals, heldS, look1, look2, look2r, prim1, prim2, arith, bindT, bindTs, Ev.bin, Ev.eq, Ev.neg, endR, ofB, ofBs, isTy, isC, eqN, eqNs, eqD, eqDs, b2i, beq_int, beq_str, isObjD, plainR, d_Ratio_floor, b_Ratio_floor, divOk_of h0 hq]
end
theorem eqSpec : EqSpec pg := by
  intro c cl f hc hm hf k l e S hk hl he hn
  have hc10 : c = 10 := by
    unfold pg at hc
    dsimp only at hc
    split at hc
    · rfl
    · cases hc
  subst hc10
  have hcl : pg.cl 10 = some l_Ratio := rfl
  rw [hcl] at hc
  cases hc
  cases hf
  match l, hl with
  | [x, y], _ =>
    have h4 : 4 ≤ k := by
      cases e <;> simp only [eqN] at hn <;> first | omega | (unfold tooDeep at *; omega)
    show callM pg k f_Ratio_eq _ _ = _
    rw [call_eq (fd := d_Ratio_eq) rfl (by omega)]
    cases e with
    | obj d m =>
      by_cases hd : 10 = d
      · subst hd
        have hm := he 10 m l_Ratio rfl rfl
        match m, hm with
        | [x', y'], _ =>
          simp only [eqN] at hn
          have hn1 : eqNs [x, y] [x', y'] + 1 ≤ k - 1 := by omega
          simp only [eqNs, Nat.max_zero] at hn1
          have t1 : (c_Ratio == 10) = true := rfl
          simp [startR, d_Ratio_eq, b_Ratio_eq, heldS, look1, prim1, isC, vals, Ev.eq, eqN, eqNs, hn1, endR, eqD, eqDs, eqDm, hcl, l_Ratio, isObjD]
      · have h1 : (c_Ratio == d) = false := by simpa using hd
        have h2 : ((10 : Nat) == d) = false := by simpa using hd
        simp [startR, d_Ratio_eq, b_Ratio_eq, heldS, look1, prim1, isC, vals, h1, endR, eqD, h2]
    | fn _ => exact absurd hn (by simp only [eqN]; omega)
    | cls _ => exact absurd hn (by simp only [eqN]; omega)
    | _ => simp [startR, d_Ratio_eq, b_Ratio_eq, heldS, look1, prim1, isC, vals, endR, eqD]
end Mn.Pf

set_option maxRecDepth 100000
set_option maxHeartbeats 1000000
namespace Mn.Pf
open PySem
set_option exponentiation.threshold 20000
variable {k : Nat}
theorem s_lcommon (hk : 1 ≤ k) (a b : Int) (S : Sto) : callM pg k f_law_common [.val (.int a), .val (.int b)] S = .ok (.val (.int (Int.gcd a b : Nat))) S := by
  rw [call_eq (fd := d_law_common) rfl hk]
  simp [startR, evalP, assignT, assignTs, isVal, putR, vals, heldS, look1, look2, look2r, prim1, prim2, arith, bindT, bindTs, Ev.bin, Ev.eq, Ev.neg, endR, ofB, ofBs, isTy, isC, eqN, eqNs, eqD, eqDs, b2i, beq_int, beq_str, isObjD, plainR, d_law_common, b_law_common, abs_nat, S_while]
  rw [gcd_loop (X := ev pg (k - 1))]
  · simp [startR, evalP, assignT, assignTs, isVal, putR, vals, heldS, look1, look2, look2r, prim1, prim2, arith, bindT, bindTs, Ev.bin, Ev.eq, Ev.neg, endR, ofB, ofBs, isTy, isC, eqN, eqNs, eqD, eqDs, b2i, beq_int, beq_str, isObjD, plainR]
    rfl
  · intro x y
    simp [startR, evalP, assignT, assignTs, isVal, putR, vals, heldS, look1, look2, look2r, prim1, prim2, arith, bindT, bindTs, Ev.bin, Ev.eq, Ev.neg, endR, ofB, ofBs, isTy, isC, eqN, eqNs, eqD, eqDs, b2i, beq_int, beq_str, isObjD, plainR]
  · intro x y h
    have : y ≠ 0 := by omega
    simp [startR, evalP, assignT, assignTs, isVal, putR, vals, heldS, look1, look2, look2r, prim1, prim2, arith, bindT, bindTs, Ev.bin, Ev.eq, Ev.neg, endR, ofB, ofBs, isTy, isC, eqN, eqNs, eqD, eqDs, b2i, beq_int, beq_str, isObjD, plainR, this, fmod_nat]
theorem s_plain (hk : 2 ≤ k) (n d : Int) (h0 : d ≠ 0) (hs : d.natAbs < 2 ^ 9000) (S : Sto) : callM pg k f_law_plain [.val (.int n), .val (.int d)] S = .ok (.val (.tup [.int (pn n d), .int (pd n d)])) S := by
  rw [call_eq (fd := d_law_plain) rfl (by omega)]
  have e1 : (ev pg (k - 1)).call = callM pg (k - 1) := ev_call (by omega)
  have e2 := s_lcommon (k := k - 1) (by omega) n d S
  have ⟨g1, g2⟩ := divOk_g (n := n) h0 hs
  by_cases hp : 0 < d
  · have q1 : Int.fdiv n (Int.gcd n d : Nat) = pn n d := by unfold pn gI; rw [if_pos hp]
    have q2 : Int.fdiv d (Int.gcd n d : Nat) = pd n d := by unfold pd gI; rw [if_pos hp]
    simp [startR, evalP, assignT, assignTs, isVal, putR, vals, heldS, look1, look2, look2r, prim1, prim2, arith, bindT, bindTs, Ev.bin, Ev.eq, Ev.neg, endR, ofB, ofBs, isTy, isC, eqN, eqNs, eqD, eqDs, b2i, beq_int, beq_str, isObjD, plainR, d_law_plain, b_law_plain, e1, e2, hp, g1, q1, q2]
  · have q1 : Int.fdiv (-n) (Int.gcd n d : Nat) = pn n d := by unfold pn gI; rw [if_neg hp, ← Int.neg_fdiv_neg, Int.neg_neg]
    have q2 : Int.fdiv (-d) (Int.gcd n d : Nat) = pd n d := by unfold pd gI; rw [if_neg hp, ← Int.neg_fdiv_neg, Int.neg_neg]
    simp [startR, evalP, assignT, assignTs, isVal, putR, vals, heldS, look1, look2, look2r, prim1, prim2, arith, bindT, bindTs, Ev.bin, Ev.eq, Ev.neg, endR, ofB, ofBs, isTy, isC, eqN, eqNs, eqD, eqDs, b2i, beq_int, beq_str, isObjD, plainR, d_law_plain, b_law_plain, e1, e2, hp, g1, q1, q2]
theorem s_same_int (hk : 2 ≤ k) (x y : Int) (S : Sto) : callM pg k f_law_same [.val (.int x), .val (.int y)] S = .ok (.val (.bl (decide (x = y)))) S := by
  rw [call_eq (fd := d_law_same) rfl (by omega)]
  have e1 : (ev pg (k - 1)).call = callM pg (k - 1) := ev_call (by omega)
  have e2 := s_is_whole (k := k - 1) (by omega) (.int x) S rfl
  simp [startR, evalP, assignT, assignTs, isVal, putR, vals, heldS, look1, look2, look2r, prim1, prim2, arith, bindT, bindTs, Ev.bin, Ev.eq, Ev.neg, endR, ofB, ofBs, isTy, isC, eqN, eqNs, eqD, eqDs, b2i, beq_int, beq_str, isObjD, plainR, d_law_same, b_law_same, e1, e2, isIntD]
theorem s_same_str (hk : 2 ≤ k) (x y : Str) (S : Sto) : callM pg k f_law_same [.val (.str x), .val (.str y)] S = .ok (.val (.bl (decide (x = y)))) S := by
  rw [call_eq (fd := d_law_same) rfl (by omega)]
  simp [startR, evalP, assignT, assignTs, isVal, putR, vals, heldS, look1, look2, look2r, prim1, prim2, arith, bindT, bindTs, Ev.bin, Ev.eq, Ev.neg, endR, ofB, ofBs, isTy, isC, eqN, eqNs, eqD, eqDs, b2i, beq_int, beq_str, isObjD, plainR, d_law_same, b_law_same]
theorem s_says (hk : 2 ≤ k) (x y : Bool) (S : Sto) : callM pg k f_law_says [.val (.bl x), .val (.bl y)] S = .ok (.val (.bl (x == y))) S := by
  rw [call_eq (fd := d_law_says) rfl (by omega)]
  simp [startR, evalP, assignT, assignTs, isVal, putR, vals, heldS, look1, look2, look2r, prim1, prim2, arith, bindT, bindTs, Ev.bin, Ev.eq, Ev.neg, endR, ofB, ofBs, isTy, isC, eqN, eqNs, eqD, eqDs, b2i, beq_int, beq_str, isObjD, plainR, d_law_says, b_law_says]
end Mn.Pf

set_option maxRecDepth 100000
set_option maxHeartbeats 1000000
namespace Mn.Pf
open PySem
set_option exponentiation.threshold 20000
section
variable {X : Ev} {ρ ρ1 : Rho} {S S1 : Sto} {a b c : E} {x y : A} {d e : D} {i n : Nat} {es : List E} {ls : List Mn.S} {t : B} {own : List Nat} {l : List D} {o : P2}
def kB2s (X : Ev) (o : P2) (i : Nat) (a : E) (ρ : Rho) (S : Sto) : Option (Option A) → R A
  | some (some _) => (evalE X a ρ S).bind fun y S1 => kB2 X o i ρ S1 y
  | _ => .st
theorem kB2s_s_o : kB2s X o i a ρ S (some (some x)) = (evalE X a ρ S).bind fun y S1 => kB2 X o i ρ S1 y := rfl
@[simp] theorem kB2s_s : kB2s X o i a ρ S (some (some x)) = (@R.bd _ _ ((evalE X a ρ S)) ⟨fun y S1 => kB2 X o i ρ S1 y⟩) := kB2s_s_o
@[simp] theorem E_b2' : evalE X (.b2 o i a) ρ S = kB2s X o i a ρ S ρ[i]? := by
  cases h : ρ[i]? with
  | none => simp only [evalE, slotA, h]; rfl
  | some z =>
    cases z with
    | none => simp only [evalE, slotA, h]; rfl
    | some x => rw [E_b2 h]; rfl
def kItem (S : Sto) : A → R (Option D)
  | .val e => .ok (some e) S
  | _ => .st
@[simp] theorem kItem_v : kItem S (.val e) = .ok (some e) S := rfl
def compF (X : Ev) (elt : E) (t : B) (own : List Nat) (ρ : Rho) (d : D) (S : Sto) : R (Option D) := match bindT t d (wipeR ρ own) with
  | none => .st
  | some ρ1 => (evalE X elt ρ1 S).nox.bind fun y S2 => kItem S2 y
theorem compF_s_o (h : bindT t d (wipeR ρ own) = some ρ1) : compF X a t own ρ d S = (evalE X a ρ1 S).nox.bind fun y S2 => kItem S2 y := by
  unfold compF; rw [h]
theorem compF_s (h : bindT t d (wipeR ρ own) = some ρ1) : compF X a t own ρ d S = (@R.bd _ _ ((evalE X a ρ1 S).nox) ⟨fun y S2 => kItem S2 y⟩) := compF_s_o h
def kComp (X : Ev) (elt : E) (t : B) (own : List Nat) (ρ : Rho) (S1 : Sto) : A → R A
  | .val (.lst l) => (compL (compF X elt t own ρ) l S1).bind fun r S2 => if lenOk r.length then .ok (.val (.lst r)) S2 else .st
  | _ => .st
theorem kComp_l_o : kComp X a t own ρ S (.val (.lst l)) = (compL (compF X a t own ρ) l S).bind fun r S2 => if lenOk r.length then .ok (.val (.lst r)) S2 else .st := rfl
@[simp] theorem kComp_l : kComp X a t own ρ S (.val (.lst l)) = (@R.bd _ _ ((compL (compF X a t own ρ) l S)) ⟨fun r S2 => if lenOk r.length then .ok (.val (.lst r)) S2 else .st⟩) := kComp_l_o
theorem E_comp_o : evalE X (.comp a t b none own) ρ S = (evalE X b ρ S).bind fun x S1 => kComp X a t own ρ S1 x := by
  simp only [evalE]; congr
@[simp] theorem E_comp : evalE X (.comp a t b none own) ρ S = (@R.bd _ _ ((evalE X b ρ S)) ⟨fun x S1 => kComp X a t own ρ S1 x⟩) := E_comp_o
theorem compL_nil {f : D → Sto → R (Option D)} : compL f [] S = .ok [] S := rfl
theorem compL_cons_o {f : D → Sto → R (Option D)} : compL f (d :: l) S = (f d S).bind fun o S1 => (compL f l S1).bind fun r S2 => .ok (match o with | some d => d :: r | none => r) S2 := rfl
theorem compL_cons {f : D → Sto → R (Option D)} : compL f (d :: l) S = (@R.bd _ _ ((f d S)) ⟨fun o S1 => (@R.bd _ _ ((compL f l S1)) ⟨fun r S2 => .ok (match o with | some d => d :: r | none => r) S2⟩)⟩) := compL_cons_o
theorem compL_map {f : D → Sto → R (Option D)} {g : D → D} : ∀ {l : List D}, (∀ d ∈ l, f d S = .ok (some (g d)) S) → compL f l S = .ok (l.map g) S
  | [], _ => rfl
  | d :: l, h => by
    rw [compL_cons_o, h d List.mem_cons_self]
    show (compL f l S).bind _ = _
    rw [compL_map fun e he => h e (List.mem_cons_of_mem _ he)]
    rfl
/-! for -/
noncomputable def forB (X : Ev) (t : B) (b : List Mn.S) (d : D) (ρ : Rho) (S : Sto) : SR := match bindT t d ρ with
  | some ρ1 => evalSs X b ρ1 S
  | none => .st
theorem forB_s (h : bindT t d ρ = some ρ1) : forB X t ls d ρ S = evalSs X ls ρ1 S := by unfold forB; rw [h]
noncomputable def kFor (X : Ev) (t : B) (b : List Mn.S) (ρ : Rho) (S1 : Sto) : A → SR
  | .val (.lst l) => forL (forB X t b) l ρ S1
  | _ => .st
@[simp] theorem kFor_l : kFor X t ls ρ S (.val (.lst l)) = forL (forB X t ls) l ρ S := rfl
theorem S_for_o : evalS X (.sfor t a ls) ρ S = (evalE X a ρ S).sr ρ fun x S1 => kFor X t ls ρ S1 x := by
  simp only [evalS]; congr
@[simp] theorem S_for : evalS X (.sfor t a ls) ρ S = (@R.sk _ ((evalE X a ρ S)) ρ ⟨fun x S1 => kFor X t ls ρ S1 x⟩) := S_for_o
theorem forL_nil {f : D → Rho → Sto → SR} : forL f [] ρ S = .nx ρ S := rfl
theorem forL_nx {f : D → Rho → Sto → SR} (h : f d ρ S = .nx ρ1 S1) : forL f (d :: l) ρ S = forL f l ρ1 S1 := by
  rw [forL, h]
theorem forL_rt {f : D → Rho → Sto → SR} (h : f d ρ S = .rt x S1) : forL f (d :: l) ρ S = .rt x S1 := by
  rw [forL, h]
/-- a loop with an invariant -/
theorem forL_inv {f : D → Rho → Sto → SR} (I : List D → Rho → Sto → Prop) (step : ∀ d l ρ S, I (d :: l) ρ S → ∃ ρ1 S1, f d ρ S = .nx ρ1 S1 ∧ I l ρ1 S1) : ∀ (l : List D) (ρ : Rho) (S : Sto), I l ρ S → ∃ ρ1 S1, forL f l ρ S = .nx ρ1 S1 ∧ I [] ρ1 S1
  | [], ρ, S, h => ⟨ρ, S, rfl, h⟩
  | d :: l, ρ, S, h => by
    obtain ⟨ρ1, S1, e, h1⟩ := step d l ρ S h
    rw [forL_nx e]
    exact forL_inv I step l ρ1 S1 h1
def kRset (ρ : Rho) (S3 : Sto) : A → A → A → SR
  | .ref n, .val (.int j), .val d => (match S3[n]? with
          | some (.lst l) => (match L2.ixN l.length j with | some q => .nx ρ (S3.set n (.lst (l.set q d))) | none => .st)
          | _ => .st)
  | _, _, _ => .st
theorem S_rset_o : evalS X (.rset a b c) ρ S = (evalE X c ρ S).sr ρ fun y S1 => (evalE X a ρ S1).sr ρ fun x S2 => (evalE X b ρ S2).sr ρ fun z S3 => kRset ρ S3 x z y := by
  simp only [evalS]; congr
@[simp] theorem S_rset : evalS X (.rset a b c) ρ S = (@R.sk _ ((evalE X c ρ S)) ρ ⟨fun y S1 => (@R.sk _ ((evalE X a ρ S1)) ρ ⟨fun x S2 => (@R.sk _ ((evalE X b ρ S2)) ρ ⟨fun z S3 => kRset ρ S3 x z y⟩)⟩)⟩) := S_rset_o
def kRetl (S1 : Sto) : Option (List D) → SR
  | some ds => .rt (.ref S1.length) (S1 ++ [.lst ds])
  | none => .st
@[simp] theorem kRetl_s : kRetl S (some l) = .rt (.ref S.length) (S ++ [.lst l]) := rfl
theorem S_retl_o : evalS X (.retl es) ρ S = (evalEs X es ρ S).sr ρ fun l S1 => kRetl S1 (vals l) := by
  simp only [evalS]; congr; (try (funext l S1; unfold kRetl; split <;> rfl))
@[simp] theorem S_retl : evalS X (.retl es) ρ S = (@R.sk _ ((evalEs X es ρ S)) ρ ⟨fun l S1 => kRetl S1 (vals l)⟩) := S_retl_o
/-! places -/
theorem atI_0 {α : Type} {a : α} {l : List α} : L2.atI (a :: l) 0 = some a := by
  unfold L2.atI L2.ixN
  have : (0 : Int) < ((a :: l).length : Int) := by simp only [List.length_cons]; omega
  rw [if_pos (by omega), if_pos this]; rfl
theorem atI_1 {α : Type} {a b : α} {l : List α} : L2.atI (a :: b :: l) 1 = some b := by
  unfold L2.atI L2.ixN
  have : (1 : Int) < ((a :: b :: l).length : Int) := by simp only [List.length_cons]; omega
  rw [if_pos (by omega), if_pos this]; rfl
theorem atI_2 {α : Type} {a b c : α} {l : List α} : L2.atI (a :: b :: c :: l) 2 = some c := by
  unfold L2.atI L2.ixN
  have : (2 : Int) < ((a :: b :: c :: l).length : Int) := by simp only [List.length_cons]; omega
  rw [if_pos (by omega), if_pos this]; rfl
theorem atI_3 {α : Type} {a b c d : α} {l : List α} : L2.atI (a :: b :: c :: d :: l) 3 = some d := by
  unfold L2.atI L2.ixN
  have : (3 : Int) < ((a :: b :: c :: d :: l).length : Int) := by simp only [List.length_cons]; omega
  rw [if_pos (by omega), if_pos this]; rfl
theorem mulOk_l {i j : Int} (h : i.natAbs < 2 ^ 64) : mulOk i j = true := by unfold mulOk; simp [h]
theorem mulOk_r {i j : Int} (h : j.natAbs < 2 ^ 64) : mulOk i j = true := by unfold mulOk; simp [h]
theorem lenOk_of {n : Nat} (h : n ≤ 100000) : lenOk n = true := by
  unfold lenOk
  have : n ≤ sizeLine := by rw [sizeLine_eq]; omega
  simp [this]
end
variable {k : Nat}
/-! the state -/
abbrev stt (a b : Int) : Sto := [.lst [.int a, .int b]]
theorem ixN_20 : L2.ixN 2 0 = some 0 := rfl
theorem ixN_21 : L2.ixN 2 1 = some 1 := rfl
theorem s_take (hk : 1 ≤ k) (m : Int) (hm : 0 < m) (hs : m.natAbs < 2 ^ 9000) (a b : Int) : ∃ v a' b', callM pg k f_law_take [.ref 0, .val (.int m)] (stt a b) = .ok (.val (.int v)) (stt a' b') ∧ 0 ≤ v ∧ v < m := by
  have hm0 : m ≠ 0 := by omega
  have d1 := divOk_of hm0 hs
  have d2 : divOk 7 = true := by decide
  have m1 : mulOk b 48271 = true := mulOk_r (by decide)
  have fm : ∀ z : Int, 0 ≤ z.fmod m ∧ z.fmod m < m := fun z => ⟨Int.fmod_nonneg_of_pos _ hm, Int.fmod_lt_of_pos _ hm⟩
  by_cases h : 0 < a
  · refine ⟨a.fmod m, a.fdiv m, b, ?_, fm a⟩
    rw [call_eq (fd := d_law_take) rfl (by omega)]
    simp [startR, evalP, assignT, assignTs, isVal, putR, vals, heldS, look1, look2, look2r, prim1, prim2, arith, bindT, bindTs, Ev.bin, Ev.eq, Ev.neg, endR, ofB, ofBs, isTy, isC, eqN, eqNs, eqD, eqDs, b2i, beq_int, beq_str, isObjD, plainR, d_law_take, b_law_take, atI_0, h, hm0, d1, kRset, ixN_20]
  · refine ⟨(((b * 48271 + 11).fmod 2147483647).fdiv 7).fmod m, a, (b * 48271 + 11).fmod 2147483647, ?_, fm _⟩
    rw [call_eq (fd := d_law_take) rfl (by omega)]
    simp [startR, evalP, assignT, assignTs, isVal, putR, vals, heldS, look1, look2, look2r, prim1, prim2, arith, bindT, bindTs, Ev.bin, Ev.eq, Ev.neg, endR, ofB, ofBs, isTy, isC, eqN, eqNs, eqD, eqDs, b2i, beq_int, beq_str, isObjD, plainR, d_law_take, b_law_take, atI_0, atI_1, h, hm0, d2, m1, kRset, ixN_21]
/-! pairs -/
theorem Bd_of {i : Int} {n : Nat} (h : i.natAbs < 2 ^ n) (hn : n ≤ 4000) : Bd i := Nat.lt_of_lt_of_le h (Nat.pow_le_pow_right (by decide) hn)
theorem s_pair (hk : 2 ≤ k) (a b : Int) : ∃ n d a' b', callM pg k f_law_pair [.ref 0] (stt a b) = .ok (.val (.tup [.int n, .int d])) (stt a' b') ∧ n.natAbs < 2 ^ 41 ∧ 0 < d ∧ d.natAbs < 2 ^ 41 := by
  have e1 : (ev pg (k - 1)).call = callM pg (k - 1) := ev_call (by omega)
  obtain ⟨v, a1, b1, t1, h1, h2⟩ := s_take (k := k - 1) (by omega) 4 (by decide) (by decide +kernel) a b
  have hw : ∃ w : Int, L2.atI ([.int 12, .int 7, .int 1000003, .int 1000000000000] : List D) v = some (.int w) ∧ 0 < w ∧ w ≤ 1000000000000 := by
    have : v = 0 ∨ v = 1 ∨ v = 2 ∨ v = 3 := by omega
    rcases this with rfl | rfl | rfl | rfl
    · exact ⟨12, rfl, by decide, by decide⟩
    · exact ⟨7, rfl, by decide, by decide⟩
    · exact ⟨1000003, rfl, by decide, by decide⟩
    · exact ⟨1000000000000, rfl, by decide, by decide⟩
  obtain ⟨w, hw, w1, w2⟩ := hw
  have wb : ∀ z : Int, 0 < z → z ≤ 2000000000001 → z.natAbs < 2 ^ 9000 := fun z h h' => by
    have : z.natAbs < 2 ^ 41 := by omega
    exact Nat.lt_of_lt_of_le this (Nat.pow_le_pow_right (by decide) (by decide))
  obtain ⟨x, a2, b2, t2, h3, h4⟩ := s_take (k := k - 1) (by omega) (2 * w + 1) (by omega) (wb _ (by omega) (by omega)) a1 b1
  obtain ⟨y, a3, b3, t3, h5, h6⟩ := s_take (k := k - 1) (by omega) w (by omega) (wb _ (by omega) (by omega)) a2 b2
  have m1 : mulOk 2 w = true := mulOk_l (by decide)
  refine ⟨x - w, 1 + y, a3, b3, ?_, by omega, by omega, by omega⟩
  rw [call_eq (fd := d_law_pair) rfl (by omega)]
  simp [startR, evalP, assignT, assignTs, isVal, putR, vals, heldS, look1, look2, look2r, prim1, prim2, arith, bindT, bindTs, Ev.bin, Ev.eq, Ev.neg, endR, ofB, ofBs, isTy, isC, eqN, eqNs, eqD, eqDs, b2i, beq_int, beq_str, isObjD, plainR, d_law_pair, b_law_pair, e1, t1, hw, t2, t3, m1]
/-! two and two -/
theorem rng2 : rangeD 0 2 = [.int 0, .int 1] := rfl
theorem s_same_pair (hk : 3 ≤ k) (x y x' y' : Int) (S : Sto) : callM pg k f_law_same [.val (.tup [.int x, .int y]), .val (.tup [.int x', .int y'])] S = .ok (.val (.bl (decide (x = x') && decide (y = y')))) S := by
  rw [call_eq (fd := d_law_same) rfl (by omega)]
  have e1 : (ev pg (k - 1)).call = callM pg (k - 1) := ev_call (by omega)
  have e2 := s_same_int (k := k - 1) (by omega) x x' S
  have e3 := s_same_int (k := k - 1) (by omega) y y' S
  have s2 : small62 2 = true := by decide
  have l2 : lenOk 2 = true := lenOk_of (by decide)
  simp [startR, evalP, assignT, assignTs, isVal, putR, vals, heldS, look1, look2, look2r, prim1, prim2, arith, bindT, bindTs, Ev.bin, Ev.eq, Ev.neg, endR, ofB, ofBs, isTy, isC, eqN, eqNs, eqD, eqDs, b2i, beq_int, beq_str, isObjD, plainR, d_law_same, b_law_same, e1, e2, e3, rng2, s2, compL_nil, compL_cons, compF, wipeR, atI_0, atI_1, l2, allBl]
end Mn.Pf

set_option maxRecDepth 100000
set_option maxHeartbeats 1000000
namespace Mn.Pf
open PySem
set_option exponentiation.threshold 20000
variable {k : Nat}
theorem s_is (hk : 4 ≤ k) (p q n d : Int) (h0 : d ≠ 0) (hs : d.natAbs < 2 ^ 9000) (S : Sto) : callM pg k f_law_is [.val (ro p q), .val (.int n), .val (.int d)] S = .ok (.val (.bl (decide (p = pn n d) && decide (q = pd n d)))) S := by
  rw [call_eq (fd := d_law_is) rfl (by omega)]
  have e1 : (ev pg (k - 1)).call = callM pg (k - 1) := ev_call (by omega)
  have e2 := s_plain (k := k - 1) (by omega) n d h0 hs S
  have e3 := s_same_pair (k := k - 1) (by omega) p q (pn n d) (pd n d) S
  simp [startR, evalP, assignT, assignTs, isVal, putR, vals, heldS, look1, look2, look2r, prim1, prim2, arith, bindT, bindTs, Ev.bin, Ev.eq, Ev.neg, endR, ofB, ofBs, isTy, isC, eqN, eqNs, eqD, eqDs, b2i, beq_int, beq_str, isObjD, plainR, d_law_is, b_law_is, e1, e2, e3]
theorem s_is_rt (hk : 4 ≤ k) {a b n d : Int} (hb : b ≠ 0) (h0 : d ≠ 0) (hs : d.natAbs < 2 ^ 9000) (e : a * d = n * b) (S : Sto) : callM pg k f_law_is [.val (rt a b), .val (.int n), .val (.int d)] S = .ok (.val (.bl true)) S := by
  have := s_is hk (pn a b) (pd a b) n d h0 hs S
  obtain ⟨e1, e2⟩ := pl_cross hb h0 e
  rw [e1, e2] at this
  show callM pg k f_law_is [.val (ro (pn a b) (pd a b)), .val (.int n), .val (.int d)] S = _
  rw [e1, e2, this]
  simp
section
variable {f : Nat} {x y z d : D} {S S' : Sto}
theorem told1 (hk : 2 ≤ k) (h : callM pg (k - 1) f [.val x] S = .ok (.val d) S') : callM pg k f_law_told [.val (.fn f), .val (.tup [x])] S = .ok (.val (.tup [.str "told", d])) S' := by
  rw [call_eq (fd := d_law_told) rfl (by omega)]
  have e1 : (ev pg (k - 1)).call = callM pg (k - 1) := ev_call (by omega)
  simp [startR, evalP, assignT, assignTs, isVal, putR, vals, heldS, look1, look2, look2r, prim1, prim2, arith, bindT, bindTs, Ev.bin, Ev.eq, Ev.neg, endR, ofB, ofBs, isTy, isC, eqN, eqNs, eqD, eqDs, b2i, beq_int, beq_str, isObjD, plainR, d_law_told, b_law_told, e1, h, atI_0]
theorem told1_0 (hk : 2 ≤ k) (h : callM pg (k - 1) f [.val x] S = .ex 0 d S') : callM pg k f_law_told [.val (.fn f), .val (.tup [x])] S = .ok (.val (.tup [.str "malformed", .non])) S' := by
  rw [call_eq (fd := d_law_told) rfl (by omega)]
  have e1 : (ev pg (k - 1)).call = callM pg (k - 1) := ev_call (by omega)
  simp [startR, evalP, assignT, assignTs, isVal, putR, vals, heldS, look1, look2, look2r, prim1, prim2, arith, bindT, bindTs, Ev.bin, Ev.eq, Ev.neg, endR, ofB, ofBs, isTy, isC, eqN, eqNs, eqD, eqDs, b2i, beq_int, beq_str, isObjD, plainR, d_law_told, b_law_told, e1, h, atI_0, handle]
theorem told1_1 (hk : 2 ≤ k) (h : callM pg (k - 1) f [.val x] S = .ex 1 d S') : callM pg k f_law_told [.val (.fn f), .val (.tup [x])] S = .ok (.val (.tup [.str "refused", d])) S' := by
  rw [call_eq (fd := d_law_told) rfl (by omega)]
  have e1 : (ev pg (k - 1)).call = callM pg (k - 1) := ev_call (by omega)
  simp [startR, evalP, assignT, assignTs, isVal, putR, vals, heldS, look1, look2, look2r, prim1, prim2, arith, bindT, bindTs, Ev.bin, Ev.eq, Ev.neg, endR, ofB, ofBs, isTy, isC, eqN, eqNs, eqD, eqDs, b2i, beq_int, beq_str, isObjD, plainR, d_law_told, b_law_told, e1, h, atI_0, handle]
theorem told1_2 (hk : 2 ≤ k) {i : Int} (h : callM pg (k - 1) f [.val x] S = .ex 2 (.int i) S') : callM pg k f_law_told [.val (.fn f), .val (.tup [x])] S = .ok (.val (.tup [.str "text", .non])) S' := by
  rw [call_eq (fd := d_law_told) rfl (by omega)]
  have e1 : (ev pg (k - 1)).call = callM pg (k - 1) := ev_call (by omega)
  have e2 := s_is_whole (k := k - 1) (by omega) (.int i) S' rfl
  simp [startR, evalP, assignT, assignTs, isVal, putR, vals, heldS, look1, look2, look2r, prim1, prim2, arith, bindT, bindTs, Ev.bin, Ev.eq, Ev.neg, endR, ofB, ofBs, isTy, isC, eqN, eqNs, eqD, eqDs, b2i, beq_int, beq_str, isObjD, plainR, d_law_told, b_law_told, e1, h, atI_0, handle, e2, isIntD]
theorem told2 (hk : 2 ≤ k) (h : callM pg (k - 1) f [.val x, .val y] S = .ok (.val d) S') : callM pg k f_law_told [.val (.fn f), .val (.tup [x, y])] S = .ok (.val (.tup [.str "told", d])) S' := by
  rw [call_eq (fd := d_law_told) rfl (by omega)]
  have e1 : (ev pg (k - 1)).call = callM pg (k - 1) := ev_call (by omega)
  simp [startR, evalP, assignT, assignTs, isVal, putR, vals, heldS, look1, look2, look2r, prim1, prim2, arith, bindT, bindTs, Ev.bin, Ev.eq, Ev.neg, endR, ofB, ofBs, isTy, isC, eqN, eqNs, eqD, eqDs, b2i, beq_int, beq_str, isObjD, plainR, d_law_told, b_law_told, e1, h, atI_0, atI_1]
theorem told2_0 (hk : 2 ≤ k) (h : callM pg (k - 1) f [.val x, .val y] S = .ex 0 d S') : callM pg k f_law_told [.val (.fn f), .val (.tup [x, y])] S = .ok (.val (.tup [.str "malformed", .non])) S' := by
  rw [call_eq (fd := d_law_told) rfl (by omega)]
  have e1 : (ev pg (k - 1)).call = callM pg (k - 1) := ev_call (by omega)
  simp [startR, evalP, assignT, assignTs, isVal, putR, vals, heldS, look1, look2, look2r, prim1, prim2, arith, bindT, bindTs, Ev.bin, Ev.eq, Ev.neg, endR, ofB, ofBs, isTy, isC, eqN, eqNs, eqD, eqDs, b2i, beq_int, beq_str, isObjD, plainR, d_law_told, b_law_told, e1, h, atI_0, atI_1, handle]
theorem told2_1 (hk : 2 ≤ k) (h : callM pg (k - 1) f [.val x, .val y] S = .ex 1 d S') : callM pg k f_law_told [.val (.fn f), .val (.tup [x, y])] S = .ok (.val (.tup [.str "refused", d])) S' := by
  rw [call_eq (fd := d_law_told) rfl (by omega)]
  have e1 : (ev pg (k - 1)).call = callM pg (k - 1) := ev_call (by omega)
  simp [startR, evalP, assignT, assignTs, isVal, putR, vals, heldS, look1, look2, look2r, prim1, prim2, arith, bindT, bindTs, Ev.bin, Ev.eq, Ev.neg, endR, ofB, ofBs, isTy, isC, eqN, eqNs, eqD, eqDs, b2i, beq_int, beq_str, isObjD, plainR, d_law_told, b_law_told, e1, h, atI_0, atI_1, handle]
theorem told3_0 (hk : 2 ≤ k) (h : callM pg (k - 1) f [.val x, .val y, .val z] S = .ex 0 d S') : callM pg k f_law_told [.val (.fn f), .val (.tup [x, y, z])] S = .ok (.val (.tup [.str "malformed", .non])) S' := by
  rw [call_eq (fd := d_law_told) rfl (by omega)]
  have e1 : (ev pg (k - 1)).call = callM pg (k - 1) := ev_call (by omega)
  simp [startR, evalP, assignT, assignTs, isVal, putR, vals, heldS, look1, look2, look2r, prim1, prim2, arith, bindT, bindTs, Ev.bin, Ev.eq, Ev.neg, endR, ofB, ofBs, isTy, isC, eqN, eqNs, eqD, eqDs, b2i, beq_int, beq_str, isObjD, plainR, d_law_told, b_law_told, e1, h, atI_0, atI_1, atI_2, handle]
end
theorem s_lover (hk : 5 ≤ k) {p q p' q' : Int} (hp : Bd p) (hq : Bd q) (hp' : Bd p') (hq' : Bd q') (h0 : q ≠ 0) (S : Sto) : callM pg k f_law_over [.val (ro p q), .val (ro p' q')] S = if p' = 0 then .ex 1 (.str "zero") S else .ok (.val (rt (p * q') (q * p'))) S := by
  rw [call_eq (fd := d_law_over) rfl (by omega)]
  have e1 : (ev pg (k - 1)).call = callM pg (k - 1) := ev_call (by omega)
  have e2 := s_over hp hq hp' hq' (k := k - 1) (by omega) h0 S
  by_cases h : p' = 0
  · rw [if_pos h] at e2 ⊢
    have m : l_Ratio.meths.lookup 8 = some f_Ratio_over := rfl
    simp [startR, evalP, assignT, assignTs, isVal, putR, vals, heldS, look1, look2, look2r, prim1, prim2, arith, bindT, bindTs, Ev.bin, Ev.eq, Ev.neg, endR, ofB, ofBs, isTy, isC, eqN, eqNs, eqD, eqDs, b2i, beq_int, beq_str, isObjD, plainR, d_law_over, b_law_over, e1, mfind_rt, m, e2]
  · rw [if_neg h] at e2 ⊢
    have m : l_Ratio.meths.lookup 8 = some f_Ratio_over := rfl
    simp [startR, evalP, assignT, assignTs, isVal, putR, vals, heldS, look1, look2, look2r, prim1, prim2, arith, bindT, bindTs, Ev.bin, Ev.eq, Ev.neg, endR, ofB, ofBs, isTy, isC, eqN, eqNs, eqD, eqDs, b2i, beq_int, beq_str, isObjD, plainR, d_law_over, b_law_over, e1, mfind_rt, m, e2]
theorem s_as_int (hk : 4 ≤ k) (a : Int) (S : Sto) : callM pg k f_as_ratio [.val (.int a)] S = .ok (.val (rt a 1)) S := by
  rw [call_eq (fd := d_as_ratio) rfl (by omega)]
  have e1 : (ev pg (k - 1)).call = callM pg (k - 1) := ev_call (by omega)
  have e2 := s_is_int (k := k - 1) (by omega) a S
  have e3 := s_mk1 (k := k - 1) (by omega) a S
  simp [startR, evalP, assignT, assignTs, isVal, putR, vals, heldS, look1, look2, look2r, prim1, prim2, arith, bindT, bindTs, Ev.bin, Ev.eq, Ev.neg, endR, ofB, ofBs, isTy, isC, eqN, eqNs, eqD, eqDs, b2i, beq_int, beq_str, isObjD, plainR, d_as_ratio, b_as_ratio, e1, e2, e3]
theorem s_as_rt (hk : 4 ≤ k) (p q : Int) (S : Sto) : callM pg k f_as_ratio [.val (ro p q)] S = .ok (.val (ro p q)) S := by
  rw [call_eq (fd := d_as_ratio) rfl (by omega)]
  have e1 : (ev pg (k - 1)).call = callM pg (k - 1) := ev_call (by omega)
  have e2 := s_is_integer (k := k - 1) (by omega) (ro p q) S rfl
  have e3 := s_check_ok (k := k - 1) (by omega) p q S
  simp [startR, evalP, assignT, assignTs, isVal, putR, vals, heldS, look1, look2, look2r, prim1, prim2, arith, bindT, bindTs, Ev.bin, Ev.eq, Ev.neg, endR, ofB, ofBs, isTy, isC, eqN, eqNs, eqD, eqDs, b2i, beq_int, beq_str, isObjD, plainR, d_as_ratio, b_as_ratio, e1, e2, e3, isIntD]
theorem s_as_bad (hk : 4 ≤ k) (d : D) (S : Sto) (hp : plainD d = true) (h1 : isIntD d = false) (h2 : isC 10 d = some false) : callM pg k f_as_ratio [.val d] S = .ex 0 (.str "a ratio") S := by
  rw [call_eq (fd := d_as_ratio) rfl (by omega)]
  have e1 : (ev pg (k - 1)).call = callM pg (k - 1) := ev_call (by omega)
  have e2 := s_is_integer (k := k - 1) (by omega) d S hp
  have e3 := s_check (k := k - 1) (by omega) d S hp
  rw [show isC c_Ratio d = some false from h2] at e3
  simp [startR, evalP, assignT, assignTs, isVal, putR, vals, heldS, look1, look2, look2r, prim1, prim2, arith, bindT, bindTs, Ev.bin, Ev.eq, Ev.neg, endR, ofB, ofBs, isTy, isC, eqN, eqNs, eqD, eqDs, b2i, beq_int, beq_str, isObjD, plainR, d_as_ratio, b_as_ratio, e1, e2, e3, h1]
end Mn.Pf

set_option maxRecDepth 100000
set_option maxHeartbeats 1000000
/-! texts of numbers -/
namespace Mn.Pf
open PySem L2 NumText TL
/-- a number's signs as the program wants them -/
def isNum (cs : List Nat) : Bool := !cs.isEmpty && cs.all (fun c => decide (48 ≤ c ∧ c ≤ 57)) && (cs.head? != some 48 || cs == [48])
theorem isNum_iff {cs : List Nat} : isNum cs = true ↔ cs ≠ [] ∧ AllDigits cs ∧ (cs.head? ≠ some 48 ∨ cs = [48]) := by
  unfold isNum AllDigits
  simp only [Bool.and_eq_true, Bool.not_eq_true', List.isEmpty_eq_false_iff, List.all_eq_true, decide_eq_true_eq, Bool.or_eq_true, bne_iff_ne, beq_iff_eq]
  exact and_assoc
theorem num_back {cs : List Nat} (h : isNum cs = true) : numL (digitsVal cs) = cs := by
  obtain ⟨h1, h2, h3⟩ := isNum_iff.mp h
  have hd : Nat.toDigits 10 (digitsVal cs) = cs.map Char.ofNat := by
    obtain ⟨n, hn⟩ : ∃ n, cs.length = n + 1 := ⟨cs.length - 1, by have := List.length_pos_iff.mpr h1; omega⟩
    refine toDigits_digitsVal n cs hn h2 ?_
    cases cs with
    | nil => exact absurd rfl h1
    | cons c r =>
      rcases h3 with h3 | h3
      · have := h2.head
        have : c ≠ 48 := fun z => h3 (by rw [z]; rfl)
        exact .inr ⟨c, r, rfl, by omega⟩
      · rw [h3] at hn
        exact .inl (by simpa using hn.symm)
  unfold numL
  rw [hd, List.map_map]
  conv => rhs; rw [← List.map_id cs]
  refine List.map_congr_left fun c hc => ?_
  have := h2 c hc
  show (Char.ofNat c).toNat = c
  have : ∀ c : Nat, c < 58 → (Char.ofNat c).toNat = c := by decide
  exact this c (by omega)
theorem numL_num (n : Nat) : isNum (numL n) = true := by
  refine isNum_iff.mpr ⟨numL_ne n, numL_digits n, ?_⟩
  induction n using Nat.strongRecOn with
  | _ n ih =>
    by_cases h : n < 10
    · rw [numL_lt h]
      by_cases h0 : n = 0
      · subst h0; exact .inr rfl
      · left
        simp only [List.head?_cons, ne_eq, Option.some.injEq]
        omega
    · left
      rw [numL_step (by omega)]
      have h1 := ih (n / 10) (by omega)
      have hne := numL_ne (n / 10)
      have h0 : 0 < n / 10 := by omega
      rcases h1 with h1 | h1
      · cases e : numL (n / 10) with
        | nil => exact absurd e hne
        | cons c r =>
          rw [e] at h1
          simpa using h1
      · exfalso
        have := numL_val (n / 10)
        rw [h1] at this
        have z : digitsVal [48] = 0 := rfl
        omega
/-- an integer's signs -/
def numI (i : Int) : List Nat := if i < 0 then 45 :: numL i.natAbs else numL i.natAbs
theorem tl_int (i : Int) : tl (Str.ofString (toString i)) = numI i := by
  cases i with
  | ofNat n =>
    rw [show (Int.ofNat n) = ((n : Nat) : Int) from rfl, tl_num]
    unfold numI
    rw [if_neg (by omega)]
    rfl
  | negSucc n =>
    unfold numI
    rw [if_pos (by omega)]
    have e : toString (Int.negSucc n) = "-" ++ Nat.repr (n + 1) := rfl
    rw [e, tl_ofString, String.toList_append, List.map_append]
    show [45] ++ (Nat.repr (n + 1)).toList.map Char.toNat = _
    rw [Nat.toList_repr]
    rfl
/-- what is read of signs, with a stroke ahead or not -/
def hval : List Nat → Int
  | 45 :: r => -((digitsVal r : Nat) : Int)
  | cs => ((digitsVal cs : Nat) : Int)
def pln : List Nat → List Nat
  | 45 :: r => r
  | cs => cs
theorem pln_cases (cs : List Nat) : (∃ r, cs = 45 :: r ∧ pln cs = r ∧ hval cs = -((digitsVal r : Nat) : Int)) ∨ (cs.head? ≠ some 45 ∧ pln cs = cs ∧ hval cs = ((digitsVal cs : Nat) : Int)) := by
  cases cs with
  | nil => exact .inr ⟨by simp, rfl, rfl⟩
  | cons c r =>
    by_cases h : c = 45
    · subst h; exact .inl ⟨r, rfl, rfl, rfl⟩
    · refine .inr ⟨by simpa using h, ?_, ?_⟩
      · unfold pln; split
        · rename_i e; cases e; exact absurd rfl h
        · rfl
      · unfold hval; split
        · rename_i e; cases e; exact absurd rfl h
        · rfl
theorem int_high {z : Str} (h : isNum (pln (tl z)) = true) (hl : z.length ≤ 4300) : intText? z = some (hval (tl z)) := by
  rcases pln_cases (tl z) with ⟨r, e1, e2, e3⟩ | ⟨e1, e2, e3⟩
  · rw [e2] at h
    obtain ⟨h1, h2, _⟩ := isNum_iff.mp h
    rw [e3]
    exact intText_neg e1 h2 h1 hl
  · rw [e2] at h
    obtain ⟨h1, h2, _⟩ := isNum_iff.mp h
    rw [e3]
    exact intText_digits h2 h1 hl
/-- the integer's text is just what was read -/
theorem high_back {cs : List Nat} (h : isNum (pln cs) = true) (h0 : pln cs ≠ [48] ∨ cs = [48]) : numI (hval cs) = cs := by
  rcases pln_cases cs with ⟨r, e1, e2, e3⟩ | ⟨e1, e2, e3⟩
  · rw [e2] at h h0
    have hb := num_back h
    have hpos : 0 < digitsVal r := by
      rcases Nat.eq_zero_or_pos (digitsVal r) with z | z
      · rw [z] at hb
        rcases h0 with h0 | h0
        · exact absurd hb.symm h0
        · rw [e1] at h0; cases h0
      · exact z
    rw [e3]
    unfold numI
    rw [if_pos (by omega), e1]
    simp only [Int.natAbs_neg, Int.natAbs_natCast]
    rw [hb]
  · rw [e2] at h
    rw [e3]
    unfold numI
    rw [if_neg (by omega)]
    exact num_back h
/-- where the first stroke is -/
theorem first_of (s : Nat) : ∀ l : List Nat, s ∉ l ∨ ∃ a b, l = a ++ s :: b ∧ s ∉ a
  | [] => .inl (by simp)
  | c :: l => by
    by_cases h : c = s
    · exact .inr ⟨[], l, by rw [h]; rfl, by simp⟩
    · rcases first_of s l with z | ⟨a, b, e, z⟩
      · exact .inl (by simp [z, Ne.symm h])
      · exact .inr ⟨c :: a, b, by rw [e]; rfl, by simp [z, Ne.symm h]⟩
theorem tl_slash : tl ("/" : Str) = [47] := rfl
theorem part_cases (z : Str) : (47 ∉ tl z ∧ Txt.partition z "/" = (z, Str.empty, Str.empty)) ∨ ∃ a b : Str, tl z = tl a ++ 47 :: tl b ∧ 47 ∉ tl a ∧ Txt.partition z "/" = (a, ("/" : Str), b) := by
  rcases first_of 47 (tl z) with h | ⟨a, b, e, h⟩
  · exact .inl ⟨h, partition_none tl_slash h⟩
  · refine .inr ⟨⟨a.toArray⟩, ⟨b.toArray⟩, e, h, ?_⟩
    have ez : z = (⟨a.toArray⟩ : Str) ++ "/" ++ (⟨b.toArray⟩ : Str) := by
      apply ext_tl
      rw [tl_append, tl_append, tl_mk, tl_mk, tl_slash]
      show tl z = _
      rw [e]
      simp
    rw [ez]
    exact partition_app tl_slash h
/-- the text of a fraction -/
def txtL (p q : Int) : List Nat := numI p ++ (if q = 1 then [] else 47 :: numI q)
theorem numI_free {i : Int} : 47 ∉ numI i := by
  unfold numI
  split
  · simp [numL_free (n := i.natAbs) (s := 47) (.inl (by omega))]
  · exact numL_free (.inl (by omega))
theorem numI_inj {i j : Int} (h : numI i = numI j) : i = j := by
  unfold numI at h
  have no : ∀ {m n : Nat}, numL m ≠ 45 :: numL n := fun {m n} e => by
    have : 45 ∈ numL m := by rw [e]; simp
    exact numL_free (.inl (by omega)) this
  split at h <;> split at h
  · have := numL_inj (List.cons.inj h).2; omega
  · exact absurd h.symm no
  · exact absurd h no
  · have := numL_inj h; omega
theorem pln_numI (i : Int) : pln (numI i) = numL i.natAbs ∧ hval (numI i) = i := by
  unfold numI
  split
  · refine ⟨rfl, ?_⟩
    show -((digitsVal (numL i.natAbs) : Nat) : Int) = i
    rw [numL_val]; omega
  · have hne : (numL i.natAbs).head? ≠ some 45 := by
      intro e
      cases e' : numL i.natAbs with
      | nil => rw [e'] at e; cases e
      | cons c r =>
        rw [e'] at e
        simp only [List.head?_cons, Option.some.injEq] at e
        subst e
        have : 45 ∈ numL i.natAbs := by rw [e']; simp
        exact numL_free (.inl (by omega)) this
    rcases pln_cases (numL i.natAbs) with ⟨r, e1, _⟩ | ⟨_, e2, e3⟩
    · rw [e1] at hne; exact absurd rfl hne
    · refine ⟨e2, ?_⟩
      rw [e3, numL_val]; omega
end Mn.Pf

set_option maxRecDepth 100000
set_option maxHeartbeats 1000000
namespace Mn.Pf
open PySem L2 NumText TL
set_option exponentiation.threshold 20000
variable {k : Nat}
theorem compL_mapc {α : Type} {S : Sto} {f : D → Sto → R (Option D)} {h g : α → D} : ∀ {l : List α}, (∀ c ∈ l, f (h c) S = .ok (some (g c)) S) → compL f (l.map h) S = .ok (l.map g) S
  | [], _ => rfl
  | c :: l, e => by
    rw [List.map_cons, compL_cons_o, e c List.mem_cons_self]
    show (compL f (l.map h) S).bind _ = _
    rw [compL_mapc fun d he => e d (List.mem_cons_of_mem _ he)]
    rfl
theorem allBl_map {α : Type} {p : α → Bool} : ∀ {l : List α}, allBl (l.map fun c => .bl (p c)) = some (l.all p)
  | [] => rfl
  | c :: l => by
    rw [List.map_cons, allBl, allBl_map]
    rfl
def isDg (c : Nat) : Bool := decide (48 ≤ c ∧ c ≤ 57)
theorem str_nil {z : Str} : z = ("" : Str) ↔ tl z = [] := ⟨fun h => by rw [h]; rfl, fun h => ext_tl h⟩
theorem str_zero {z : Str} : z = ("0" : Str) ↔ tl z = [48] := ⟨fun h => by rw [h]; rfl, fun h => ext_tl h⟩
theorem str_minus {z : Str} : z = ("-" : Str) ↔ tl z = [45] := ⟨fun h => by rw [h]; rfl, fun h => ext_tl h⟩
theorem in_digits (c : Nat) : (!(Builtin.Str.occurrences ("0123456789" : Str) ⟨#[c]⟩ 0 ("0123456789" : Str).length 1).isEmpty) = isDg c := by
  unfold isDg
  rw [PySem.StrLaws.found_one]
  have e : (("0123456789" : Str)).cps.toList = [48, 49, 50, 51, 52, 53, 54, 55, 56, 57] := rfl
  rw [e]
  apply decide_eq_decide.mpr
  simp only [List.mem_cons, List.not_mem_nil, or_false]
  omega
theorem s_isnum (hk : 2 ≤ k) (z : Str) (hz : z.length ≤ 100000) (S : Sto) : callM pg k f_ratio_is_number [.val (.str z)] S = .ok (.val (.bl (isNum (tl z)))) S := by
  rw [call_eq (fd := d_ratio_is_number) rfl (by omega)]
  have hl := lenOk_of hz
  by_cases h0 : tl z = []
  · have e := str_nil.mpr h0
    subst e
    simp [startR, evalP, assignT, assignTs, isVal, putR, vals, heldS, look1, look2, look2r, prim1, prim2, arith, bindT, bindTs, Ev.bin, Ev.eq, Ev.neg, endR, ofB, ofBs, isTy, isC, eqN, eqNs, eqD, eqDs, b2i, beq_int, beq_str, isObjD, plainR, d_ratio_is_number, b_ratio_is_number]
    rfl
  · have h0' : ¬ z = "" := fun e => h0 (str_nil.mp e)
    obtain ⟨c, r, hc⟩ : ∃ c r, tl z = c :: r := by
      cases e : tl z with
      | nil => exact absurd e h0
      | cons c r => exact ⟨c, r, rfl⟩
    have hcomp : compL (compF (ev pg (k - 1)) (.p2 .inn (.var 1) (.k (.str "0123456789"))) (.v 1) [1] [some (.val (.str z)), none]) (charsD z) S = .ok ((tl z).map fun c => D.bl (isDg c)) S := by
      refine compL_mapc fun c hc => ?_
      have e := in_digits c
      simp [startR, evalP, assignT, assignTs, isVal, putR, vals, heldS, look1, look2, look2r, prim1, prim2, arith, bindT, bindTs, Ev.bin, Ev.eq, Ev.neg, endR, ofB, ofBs, isTy, isC, eqN, eqNs, eqD, eqDs, b2i, beq_int, beq_str, isObjD, plainR, compF, wipeR, e]
    have hall := allBl_map (p := isDg) (l := tl z)
    have hl2 : lenOk z.cps.size = true := hl
    have hat : L2.atI z.cps.toList 0 = some c := by
      rw [show z.cps.toList = c :: r from hc]; exact atI_0
    have hq : ((⟨#[c]⟩ : Str) = "0") ↔ c = 48 := by
      rw [str_zero]
      show [c] = [48] ↔ _
      simp
    have hz0 : (z = "0") ↔ c :: r = [48] := by rw [str_zero, hc]
    have hN : isNum (tl z) = (((tl z).all isDg) && ((tl z).head? != some 48 || tl z == [48])) := by
      unfold isNum; rw [hc]; rfl
    rw [hN]
    have hA : z.cps.all isDg = (tl z).all isDg := by rw [← Array.all_toList]
    cases hB : (tl z).all isDg with
    | false =>
      rw [hB] at hA hall
      simp [startR, evalP, assignT, assignTs, isVal, putR, vals, heldS, look1, look2, look2r, prim1, prim2, arith, bindT, bindTs, Ev.bin, Ev.eq, Ev.neg, endR, ofB, ofBs, isTy, isC, eqN, eqNs, eqD, eqDs, b2i, beq_int, beq_str, isObjD, plainR, d_ratio_is_number, b_ratio_is_number, h0', hl, hcomp, hall, hl2, hat, hA]
    | true =>
      rw [hB] at hA hall
      by_cases hc0 : c = 48
      · have hq1 := hq.mpr hc0
        by_cases hr : r = []
        · have hz1 : z = "0" := hz0.mpr (by rw [hc0, hr])
          have h2 : ((tl z).head? != some 48 || tl z == [48]) = true := by rw [hc, hc0, hr]; rfl
          rw [h2]
          simp [startR, evalP, assignT, assignTs, isVal, putR, vals, heldS, look1, look2, look2r, prim1, prim2, arith, bindT, bindTs, Ev.bin, Ev.eq, Ev.neg, endR, ofB, ofBs, isTy, isC, eqN, eqNs, eqD, eqDs, b2i, beq_int, beq_str, isObjD, plainR, d_ratio_is_number, b_ratio_is_number, h0', hl, hcomp, hall, hl2, hat, hA, hq1]
          exact hz1
        · have hz1 : ¬ z = "0" := fun e => hr (by have := hz0.mp e; simpa using (List.cons.inj this).2)
          have h2 : ((tl z).head? != some 48 || tl z == [48]) = false := by rw [hc, hc0]; simp [hr]
          rw [h2]
          simp [startR, evalP, assignT, assignTs, isVal, putR, vals, heldS, look1, look2, look2r, prim1, prim2, arith, bindT, bindTs, Ev.bin, Ev.eq, Ev.neg, endR, ofB, ofBs, isTy, isC, eqN, eqNs, eqD, eqDs, b2i, beq_int, beq_str, isObjD, plainR, d_ratio_is_number, b_ratio_is_number, h0', hl, hcomp, hall, hl2, hat, hA, hq1]
          exact hz1
      · have hq1 : ¬ ((⟨#[c]⟩ : Str) = "0") := fun z => hc0 (hq.mp z)
        have h2 : ((tl z).head? != some 48 || tl z == [48]) = true := by rw [hc]; simp [hc0]
        rw [h2]
        simp [startR, evalP, assignT, assignTs, isVal, putR, vals, heldS, look1, look2, look2r, prim1, prim2, arith, bindT, bindTs, Ev.bin, Ev.eq, Ev.neg, endR, ofB, ofBs, isTy, isC, eqN, eqNs, eqD, eqDs, b2i, beq_int, beq_str, isObjD, plainR, d_ratio_is_number, b_ratio_is_number, h0', hl, hcomp, hall, hl2, hat, hA, hq1]
end Mn.Pf

set_option maxRecDepth 100000
set_option maxHeartbeats 1000000
namespace Mn.Pf
open PySem L2 NumText TL
set_option exponentiation.threshold 20000
variable {k : Nat}
def istr (i : Int) : Str := Str.ofString (toString i)
def txt (p q : Int) : Str := if q = 1 then istr p else istr p ++ "/" ++ istr q
theorem tl_istr (i : Int) : tl (istr i) = numI i := tl_int i
theorem tl_txt (p q : Int) : tl (txt p q) = txtL p q := by
  unfold txt txtL
  split
  · rw [tl_istr, List.append_nil]
  · rw [tl_append, tl_append, tl_istr, tl_istr, tl_slash]; simp
def BIG : Nat := 10 ^ 2000
theorem big_lt : BIG < 2 ^ 7000 := by unfold BIG; decide +kernel
theorem log_big {i : Int} (h : i.natAbs ≤ BIG) : i.natAbs.log2 < 7000 := by
  by_cases h0 : i.natAbs = 0
  · rw [h0]; decide
  · exact (Nat.log2_lt h0).mpr (Nat.lt_of_le_of_lt h big_lt)
theorem numI_len {i : Int} (h : i.natAbs ≤ BIG) : (numI i).length ≤ 2002 := by
  have : i.natAbs < 10 ^ 2001 := Nat.lt_of_le_of_lt h (by unfold BIG; exact Nat.pow_lt_pow_right (by decide) (by decide))
  have := numL_len (by decide) this
  unfold numI
  split
  · rw [List.length_cons]; omega
  · omega
theorem istr_len {i : Int} (h : i.natAbs ≤ BIG) : (istr i).length ≤ 2002 := by rw [len_tl, tl_istr]; exact numI_len h
theorem bits_big {i : Int} (h : i.natAbs ≤ BIG) : Builtin.Int.intBits i ≤ 8000 := by
  have := log_big h
  unfold Builtin.Int.intBits
  split <;> omega
theorem max_abs {p q : Int} (hq : 0 < q) (h1 : p.natAbs ≤ BIG) (h2 : q.natAbs ≤ BIG) : (if (if p < 0 then -p else p) < q then q else (if p < 0 then -p else p)).natAbs ≤ BIG := by
  split <;> split <;> omega
theorem app_len (x y : Str) : (x ++ y).length = x.length + y.length := by rw [len_tl, tl_append, List.length_append, ← len_tl, ← len_tl]
theorem s_text (hk : 2 ≤ k) {p q : Int} (hq : 0 < q) (h1 : p.natAbs ≤ BIG) (h2 : q.natAbs ≤ BIG) (S : Sto) : callM pg k f_ratio_text [.val (ro p q)] S = if 2000 < (txt p q).length then .ex 1 (.str "long") S else .ok (.val (.str (txt p q))) S := by
  rw [call_eq (fd := d_ratio_text) rfl (by omega)]
  have e1 : (ev pg (k - 1)).call = callM pg (k - 1) := ev_call (by omega)
  have e2 := s_check_ok (k := k - 1) (by omega) p q S
  have hb : ¬ (8000 : Int) < (Builtin.Int.intBits (if (if p < 0 then -p else p) < q then q else (if p < 0 then -p else p)) : Int) := by
    have := bits_big (max_abs hq h1 h2)
    omega
  have l1 := log_big h1
  have l2 := log_big h2
  have m4 : mulOk 4 2000 = true := by decide
  have a1 := istr_len h1
  have a2 := istr_len h2
  have i1 : Str.ofString p.repr = istr p := rfl
  have i2 : Str.ofString q.repr = istr q := rfl
  have sl : ("/" : Str).length = 1 := rfl
  have t1 : lenOk ((istr p).length + 1) = true := lenOk_of (by omega)
  have t2 : lenOk ((istr p ++ ("/" : Str)).length + (istr q).length) = true := lenOk_of (by rw [app_len, sl]; omega)
  by_cases hq1 : q = 1
  · subst hq1
    have t3 : lenOk (istr p).length = true := lenOk_of (by omega)
    have tx : txt p 1 = istr p := if_pos rfl
    rw [tx]
    by_cases hL : 2000 < (istr p).length
    · have hL' : (2000 : Int) < ((istr p).length : Int) := by omega
      rw [if_pos hL]
      simp [startR, evalP, assignT, assignTs, isVal, putR, vals, heldS, look1, look2, look2r, prim1, prim2, arith, bindT, bindTs, Ev.bin, Ev.eq, Ev.neg, endR, ofB, ofBs, isTy, isC, eqN, eqNs, eqD, eqDs, b2i, beq_int, beq_str, isObjD, plainR, d_ratio_text, b_ratio_text, e1, e2, hb, l1, l2, m4, i1, t3, hL, hL']
    · have hL' : ¬ (2000 : Int) < ((istr p).length : Int) := by omega
      rw [if_neg hL]
      simp [startR, evalP, assignT, assignTs, isVal, putR, vals, heldS, look1, look2, look2r, prim1, prim2, arith, bindT, bindTs, Ev.bin, Ev.eq, Ev.neg, endR, ofB, ofBs, isTy, isC, eqN, eqNs, eqD, eqDs, b2i, beq_int, beq_str, isObjD, plainR, d_ratio_text, b_ratio_text, e1, e2, hb, l1, l2, m4, i1, t3, hL, hL']
  · have tx : txt p q = istr p ++ "/" ++ istr q := if_neg hq1
    rw [tx]
    have t3 : lenOk (istr p ++ ("/" : Str) ++ istr q).length = true := lenOk_of (by rw [app_len, app_len, sl]; omega)
    by_cases hL : 2000 < (istr p ++ ("/" : Str) ++ istr q).length
    · have hL' : (2000 : Int) < ((istr p ++ ("/" : Str) ++ istr q).length : Int) := by omega
      rw [if_pos hL]
      simp [startR, evalP, assignT, assignTs, isVal, putR, vals, heldS, look1, look2, look2r, prim1, prim2, arith, bindT, bindTs, Ev.bin, Ev.eq, Ev.neg, endR, ofB, ofBs, isTy, isC, eqN, eqNs, eqD, eqDs, b2i, beq_int, beq_str, isObjD, plainR, d_ratio_text, b_ratio_text, e1, e2, hb, l1, l2, m4, i1, i2, hq1, t1, t2, t3, hL, hL', sl]
    · have hL' : ¬ (2000 : Int) < ((istr p ++ ("/" : Str) ++ istr q).length : Int) := by omega
      rw [if_neg hL]
      simp [startR, evalP, assignT, assignTs, isVal, putR, vals, heldS, look1, look2, look2r, prim1, prim2, arith, bindT, bindTs, Ev.bin, Ev.eq, Ev.neg, endR, ofB, ofBs, isTy, isC, eqN, eqNs, eqD, eqDs, b2i, beq_int, beq_str, isObjD, plainR, d_ratio_text, b_ratio_text, e1, e2, hb, l1, l2, m4, i1, i2, hq1, t1, t2, t3, hL, hL', sl]
end Mn.Pf

set_option maxRecDepth 100000
set_option maxHeartbeats 1000000
namespace Mn.Pf
open PySem L2 NumText TL
set_option exponentiation.threshold 20000
variable {k : Nat}
theorem dval_lt : ∀ (cs : List Nat) (a : Nat), AllDigits cs → cs.foldl (fun acc c => acc * 10 + (c - 48)) a < (a + 1) * 10 ^ cs.length
  | [], a, _ => by simp
  | c :: cs, a, h => by
    have hc := h.head
    have ih := dval_lt cs (a * 10 + (c - 48)) h.tail
    rw [List.foldl_cons, List.length_cons, Nat.pow_succ]
    refine Nat.lt_of_lt_of_le ih ?_
    have : a * 10 + (c - 48) + 1 ≤ (a + 1) * 10 := by omega
    calc (a * 10 + (c - 48) + 1) * 10 ^ cs.length ≤ ((a + 1) * 10) * 10 ^ cs.length := Nat.mul_le_mul_right _ this
      _ = (a + 1) * (10 ^ cs.length * 10) := by rw [Nat.mul_assoc, Nat.mul_comm 10]
theorem dval_big {cs : List Nat} (h : AllDigits cs) (hl : cs.length ≤ 2000) : digitsVal cs ≤ BIG := by
  have := dval_lt cs 0 h
  have h2 : (0 + 1) * 10 ^ cs.length ≤ BIG := by
    rw [Nat.zero_add, Nat.one_mul]
    exact Nat.pow_le_pow_right (by decide) hl
  exact Nat.le_of_lt (Nat.lt_of_lt_of_le this h2)
theorem hval_big {cs : List Nat} (h : isNum (pln cs) = true) (hl : cs.length ≤ 2000) : (hval cs).natAbs ≤ BIG := by
  rcases pln_cases cs with ⟨r, e1, e2, e3⟩ | ⟨e1, e2, e3⟩
  · rw [e2] at h
    rw [e3]
    rw [e1, List.length_cons] at hl
    have := dval_big (isNum_iff.mp h).2.1 (by omega)
    omega
  · rw [e2] at h
    rw [e3]
    have := dval_big (isNum_iff.mp h).2.1 hl
    omega
def plS (a : Str) : Str := ⟨(pln (tl a)).toArray⟩
theorem tl_plS (a : Str) : tl (plS a) = pln (tl a) := rfl
theorem tl_cut01 (a : Str) : tl (cutS a (some 0) (some 1)) = (tl a).take 1 := by
  show ((tl a).drop (HT.sIx a.length 0 (some 0))).take (HT.sIx a.length a.length (some 1) - HT.sIx a.length 0 (some 0)) = _
  have h0 : HT.sIx a.length 0 (some 0) = 0 := by unfold HT.sIx; simp
  have h1 : HT.sIx a.length a.length (some 1) = min 1 a.length := by unfold HT.sIx; simp
  rw [h0, h1, List.drop_zero, Nat.sub_zero, len_tl]
  cases tl a <;> simp
theorem tl_cut1 (a : Str) : tl (cutS a (some 1) none) = (tl a).drop 1 := by
  show ((tl a).drop (HT.sIx a.length 0 (some 1))).take (HT.sIx a.length a.length none - HT.sIx a.length 0 (some 1)) = _
  have h1 : HT.sIx a.length 0 (some 1) = min 1 a.length := by unfold HT.sIx; simp
  have h0 : HT.sIx a.length a.length none = a.length := rfl
  rw [h0, h1, len_tl]
  cases tl a <;> simp
theorem plain_cases (a : Str) : (cutS a (some 0) (some 1) = "-" ∧ cutS a (some 1) none = plS a) ∨ (¬ cutS a (some 0) (some 1) = "-" ∧ a = plS a) := by
  rcases pln_cases (tl a) with ⟨r, e1, e2, e3⟩ | ⟨e1, e2, e3⟩
  · left
    refine ⟨str_minus.mpr (by rw [tl_cut01, e1]; rfl), ext_tl (by rw [tl_cut1, tl_plS, e2, e1]; rfl)⟩
  · right
    refine ⟨fun z => ?_, ext_tl (by rw [tl_plS, e2])⟩
    have := str_minus.mp z
    rw [tl_cut01] at this
    cases e : tl a with
    | nil => rw [e] at this; cases this
    | cons c r =>
      rw [e] at this e1
      simp only [List.take_succ_cons, List.take_zero, List.cons.injEq, and_true] at this
      subst this
      exact e1 rfl
/-- too long, or empty, or no text -/
theorem s_read0 (hk : 1 ≤ k) (z : Str) (hz : z.length ≤ 100000) (h : z.length = 0 ∨ 2000 < z.length) (S : Sto) : callM pg k f_read_ratio [.val (.str z)] S = .ex 2 (.int 0) S := by
  rw [call_eq (fd := d_read_ratio) rfl (by omega)]
  have hl := lenOk_of hz
  rcases h with h | h
  · rw [h] at hl
    simp [startR, evalP, assignT, assignTs, isVal, putR, vals, heldS, look1, look2, look2r, prim1, prim2, arith, bindT, bindTs, Ev.bin, Ev.eq, Ev.neg, endR, ofB, ofBs, isTy, isC, eqN, eqNs, eqD, eqDs, b2i, beq_int, beq_str, isObjD, plainR, d_read_ratio, b_read_ratio, hl, h]
  · have h1 : (1 : Int) ≤ (z.length : Int) := by omega
    have h2 : ¬ (z.length : Int) ≤ 2000 := by omega
    simp [startR, evalP, assignT, assignTs, isVal, putR, vals, heldS, look1, look2, look2r, prim1, prim2, arith, bindT, bindTs, Ev.bin, Ev.eq, Ev.neg, endR, ofB, ofBs, isTy, isC, eqN, eqNs, eqD, eqDs, b2i, beq_int, beq_str, isObjD, plainR, d_read_ratio, b_read_ratio, hl, h1, h2]
theorem s_readD (hk : 1 ≤ k) (d : D) (S : Sto) (h : isTy 4 d = some false) : callM pg k f_read_ratio [.val d] S = .ex 2 (.int 0) S := by
  rw [call_eq (fd := d_read_ratio) rfl (by omega)]
  cases d <;> first | (cases h; done) | simp [startR, evalP, assignT, assignTs, isVal, putR, vals, heldS, look1, look2, look2r, prim1, prim2, arith, bindT, bindTs, Ev.bin, Ev.eq, Ev.neg, endR, ofB, ofBs, isTy, isC, eqN, eqNs, eqD, eqDs, b2i, beq_int, beq_str, isObjD, plainR, d_read_ratio, b_read_ratio]
def readR (z a st b : Str) (S : Sto) : R A :=
  if isNum (pln (tl a)) = false then .ex 2 (.int 0) S
  else if pln (tl a) = [48] ∧ z ≠ "0" then .ex 2 (.int 0) S
  else if st = "" then .ok (.val (rt (hval (tl a)) 1)) S
  else if isNum (tl b) = false ∨ tl b = [48] then .ex 2 (.int a.length) S
  else if pd (hval (tl a)) (digitsVal (tl b) : Nat) = 1 ∨ istr (pd (hval (tl a)) (digitsVal (tl b) : Nat)) ≠ b then .ex 2 (.int a.length) S
  else .ok (.val (rt (hval (tl a)) (digitsVal (tl b) : Nat))) S
theorem pln_le (cs : List Nat) : (pln cs).length ≤ cs.length := by
  rcases pln_cases cs with ⟨r, q1, q2, _⟩ | ⟨_, q2, _⟩
  · rw [q2, q1]; simp
  · rw [q2]; exact Nat.le_refl _
theorem BIG_9000 {i : Int} (h : i.natAbs ≤ BIG) : i.natAbs < 2 ^ 9000 := Nat.lt_of_le_of_lt h (Nat.lt_of_lt_of_le big_lt (Nat.pow_le_pow_right (by decide) (by decide)))
theorem s_readX (hk : 5 ≤ k) (z a st b P : Str) (h1 : 1 ≤ z.length) (h2 : z.length ≤ 2000) (hp : Txt.partition z "/" = (a, st, b)) (ha : a.length ≤ 2000) (hb : b.length ≤ 2000) (S : Sto) (hP : tl P = pln (tl a))
    (hpl : (cutS a (some 0) (some 1) = "-" ∧ cutS a (some 1) none = P) ∨ (¬ cutS a (some 0) (some 1) = "-" ∧ P = a)) : callM pg k f_read_ratio [.val (.str z)] S = readR z a st b S := by
  rw [call_eq (fd := d_read_ratio) rfl (by omega)]
  have e1 : (ev pg (k - 1)).call = callM pg (k - 1) := ev_call (by omega)
  have hl : lenOk z.length = true := lenOk_of (by omega)
  have hla : lenOk a.length = true := lenOk_of (by omega)
  have hlb : lenOk b.length = true := lenOk_of (by omega)
  have i1 : (1 : Int) ≤ (z.length : Int) := by omega
  have i2 : (z.length : Int) ≤ 2000 := by omega
  have sl : ¬ ("/" : Str).length = 0 := by decide
  have hPl : P.length ≤ 100000 := by
    rw [len_tl, hP]
    have := pln_le (tl a)
    rw [← len_tl] at this
    omega
  have na := s_isnum (k := k - 1) (by omega) P hPl S
  rw [hP] at na
  have nb := s_isnum (k := k - 1) (by omega) b (by omega) S
  have z48 : P = "0" ↔ pln (tl a) = [48] := by rw [str_zero, hP]
  have b48 : b = "0" ↔ tl b = [48] := str_zero
  unfold readR
  by_cases c1 : isNum (pln (tl a)) = false
  · rw [if_pos c1]
    rw [c1] at na
    rcases hpl with ⟨p1, p2⟩ | ⟨p1, p2⟩
    · simp [startR, evalP, assignT, assignTs, isVal, putR, vals, heldS, look1, look2, look2r, prim1, prim2, arith, bindT, bindTs, Ev.bin, Ev.eq, Ev.neg, endR, ofB, ofBs, isTy, isC, eqN, eqNs, eqD, eqDs, b2i, beq_int, beq_str, isObjD, plainR, d_read_ratio, b_read_ratio, sliceD, hl, hla, hlb, i1, i2, hp, e1, na, p1, p2, sl]
    · subst p2
      simp [startR, evalP, assignT, assignTs, isVal, putR, vals, heldS, look1, look2, look2r, prim1, prim2, arith, bindT, bindTs, Ev.bin, Ev.eq, Ev.neg, endR, ofB, ofBs, isTy, isC, eqN, eqNs, eqD, eqDs, b2i, beq_int, beq_str, isObjD, plainR, d_read_ratio, b_read_ratio, sliceD, hl, hla, hlb, i1, i2, hp, e1, na, p1, sl]
  rw [if_neg c1]
  have c1' : isNum (pln (tl a)) = true := by simpa using c1
  rw [c1'] at na
  by_cases c2 : pln (tl a) = [48] ∧ z ≠ "0"
  · rw [if_pos c2]
    have q1 := z48.mpr c2.1
    have q2 := c2.2
    rcases hpl with ⟨p1, p2⟩ | ⟨p1, p2⟩
    · rw [q1] at p2 na
      simp [startR, evalP, assignT, assignTs, isVal, putR, vals, heldS, look1, look2, look2r, prim1, prim2, arith, bindT, bindTs, Ev.bin, Ev.eq, Ev.neg, endR, ofB, ofBs, isTy, isC, eqN, eqNs, eqD, eqDs, b2i, beq_int, beq_str, isObjD, plainR, d_read_ratio, b_read_ratio, sliceD, hl, hla, hlb, i1, i2, hp, e1, na, p1, p2, sl, q2]
    · subst p2
      subst q1
      simp [startR, evalP, assignT, assignTs, isVal, putR, vals, heldS, look1, look2, look2r, prim1, prim2, arith, bindT, bindTs, Ev.bin, Ev.eq, Ev.neg, endR, ofB, ofBs, isTy, isC, eqN, eqNs, eqD, eqDs, b2i, beq_int, beq_str, isObjD, plainR, d_read_ratio, b_read_ratio, sliceD, hl, hla, hlb, i1, i2, hp, e1, na, p1, sl, q2]
  rw [if_neg c2]
  have c2' : (decide (P = "0") && (true != decide (z = "0"))) = false := by
    by_cases q : P = "0"
    · have : z = "0" := Classical.byContradiction fun w => c2 ⟨z48.mp q, w⟩
      simp [this]
    · simp [q]
  have ia := int_high c1' (by omega)
  have m1 := s_mk1 (k := k - 1) (by omega) (hval (tl a)) S
  -- the condition on P
  have condP : ∀ {x : Bool}, x = (decide (P = "0") && (true != decide (z = "0"))) → x = false := fun e => e.trans c2'
  by_cases c3 : st = ""
  · rw [if_pos c3]
    subst c3
    rcases hpl with ⟨p1, p2⟩ | ⟨p1, p2⟩
    · by_cases q : P = "0"
      · have q2 : z = "0" := Classical.byContradiction fun w => c2 ⟨z48.mp q, w⟩
        subst q2
        rw [q] at p2 na
        simp [startR, evalP, assignT, assignTs, isVal, putR, vals, heldS, look1, look2, look2r, prim1, prim2, arith, bindT, bindTs, Ev.bin, Ev.eq, Ev.neg, endR, ofB, ofBs, isTy, isC, eqN, eqNs, eqD, eqDs, b2i, beq_int, beq_str, isObjD, plainR, d_read_ratio, b_read_ratio, sliceD, hl, hla, hlb, i1, i2, hp, e1, na, p1, p2, sl, ia, m1]
      · simp [startR, evalP, assignT, assignTs, isVal, putR, vals, heldS, look1, look2, look2r, prim1, prim2, arith, bindT, bindTs, Ev.bin, Ev.eq, Ev.neg, endR, ofB, ofBs, isTy, isC, eqN, eqNs, eqD, eqDs, b2i, beq_int, beq_str, isObjD, plainR, d_read_ratio, b_read_ratio, sliceD, hl, hla, hlb, i1, i2, hp, e1, na, p1, p2, sl, q, ia, m1]
    · subst p2
      by_cases q : P = "0"
      · have q2 : z = "0" := Classical.byContradiction fun w => c2 ⟨z48.mp q, w⟩
        subst q2
        subst q
        simp [startR, evalP, assignT, assignTs, isVal, putR, vals, heldS, look1, look2, look2r, prim1, prim2, arith, bindT, bindTs, Ev.bin, Ev.eq, Ev.neg, endR, ofB, ofBs, isTy, isC, eqN, eqNs, eqD, eqDs, b2i, beq_int, beq_str, isObjD, plainR, d_read_ratio, b_read_ratio, sliceD, hl, hla, hlb, i1, i2, hp, e1, na, p1, sl, ia, m1]
      · simp [startR, evalP, assignT, assignTs, isVal, putR, vals, heldS, look1, look2, look2r, prim1, prim2, arith, bindT, bindTs, Ev.bin, Ev.eq, Ev.neg, endR, ofB, ofBs, isTy, isC, eqN, eqNs, eqD, eqDs, b2i, beq_int, beq_str, isObjD, plainR, d_read_ratio, b_read_ratio, sliceD, hl, hla, hlb, i1, i2, hp, e1, na, p1, sl, q, ia, m1]
  rw [if_neg c3]
  by_cases c4 : isNum (tl b) = false ∨ tl b = [48]
  · rw [if_pos c4]
    rcases c4 with c4 | c4
    · rw [c4] at nb
      rcases hpl with ⟨p1, p2⟩ | ⟨p1, p2⟩
      · by_cases q : P = "0"
        · have q2 : z = "0" := Classical.byContradiction fun w => c2 ⟨z48.mp q, w⟩
          subst q2
          rw [q] at p2 na
          simp [startR, evalP, assignT, assignTs, isVal, putR, vals, heldS, look1, look2, look2r, prim1, prim2, arith, bindT, bindTs, Ev.bin, Ev.eq, Ev.neg, endR, ofB, ofBs, isTy, isC, eqN, eqNs, eqD, eqDs, b2i, beq_int, beq_str, isObjD, plainR, d_read_ratio, b_read_ratio, sliceD, hl, hla, hlb, i1, i2, hp, e1, na, p1, sl, ia, c3, p2, nb]
        · simp [startR, evalP, assignT, assignTs, isVal, putR, vals, heldS, look1, look2, look2r, prim1, prim2, arith, bindT, bindTs, Ev.bin, Ev.eq, Ev.neg, endR, ofB, ofBs, isTy, isC, eqN, eqNs, eqD, eqDs, b2i, beq_int, beq_str, isObjD, plainR, d_read_ratio, b_read_ratio, sliceD, hl, hla, hlb, i1, i2, hp, e1, na, p1, sl, ia, c3, p2, q, nb]
      · subst p2
        by_cases q : P = "0"
        · have q2 : z = "0" := Classical.byContradiction fun w => c2 ⟨z48.mp q, w⟩
          subst q2
          subst q
          simp [startR, evalP, assignT, assignTs, isVal, putR, vals, heldS, look1, look2, look2r, prim1, prim2, arith, bindT, bindTs, Ev.bin, Ev.eq, Ev.neg, endR, ofB, ofBs, isTy, isC, eqN, eqNs, eqD, eqDs, b2i, beq_int, beq_str, isObjD, plainR, d_read_ratio, b_read_ratio, sliceD, hl, hla, hlb, i1, i2, hp, e1, na, p1, sl, ia, c3, nb]
        · simp [startR, evalP, assignT, assignTs, isVal, putR, vals, heldS, look1, look2, look2r, prim1, prim2, arith, bindT, bindTs, Ev.bin, Ev.eq, Ev.neg, endR, ofB, ofBs, isTy, isC, eqN, eqNs, eqD, eqDs, b2i, beq_int, beq_str, isObjD, plainR, d_read_ratio, b_read_ratio, sliceD, hl, hla, hlb, i1, i2, hp, e1, na, p1, sl, ia, c3, q, nb]
    · have hb0 := b48.mpr c4
      subst hb0
      have nb0 : isNum (tl ("0" : Str)) = true := by decide
      rw [nb0] at nb
      rcases hpl with ⟨p1, p2⟩ | ⟨p1, p2⟩
      · by_cases q : P = "0"
        · have q2 : z = "0" := Classical.byContradiction fun w => c2 ⟨z48.mp q, w⟩
          subst q2
          rw [q] at p2 na
          simp [startR, evalP, assignT, assignTs, isVal, putR, vals, heldS, look1, look2, look2r, prim1, prim2, arith, bindT, bindTs, Ev.bin, Ev.eq, Ev.neg, endR, ofB, ofBs, isTy, isC, eqN, eqNs, eqD, eqDs, b2i, beq_int, beq_str, isObjD, plainR, d_read_ratio, b_read_ratio, sliceD, hl, hla, hlb, i1, i2, hp, e1, na, p1, sl, ia, c3, p2, nb]
        · simp [startR, evalP, assignT, assignTs, isVal, putR, vals, heldS, look1, look2, look2r, prim1, prim2, arith, bindT, bindTs, Ev.bin, Ev.eq, Ev.neg, endR, ofB, ofBs, isTy, isC, eqN, eqNs, eqD, eqDs, b2i, beq_int, beq_str, isObjD, plainR, d_read_ratio, b_read_ratio, sliceD, hl, hla, hlb, i1, i2, hp, e1, na, p1, sl, ia, c3, p2, q, nb]
      · subst p2
        by_cases q : P = "0"
        · have q2 : z = "0" := Classical.byContradiction fun w => c2 ⟨z48.mp q, w⟩
          subst q2
          subst q
          simp [startR, evalP, assignT, assignTs, isVal, putR, vals, heldS, look1, look2, look2r, prim1, prim2, arith, bindT, bindTs, Ev.bin, Ev.eq, Ev.neg, endR, ofB, ofBs, isTy, isC, eqN, eqNs, eqD, eqDs, b2i, beq_int, beq_str, isObjD, plainR, d_read_ratio, b_read_ratio, sliceD, hl, hla, hlb, i1, i2, hp, e1, na, p1, sl, ia, c3, nb]
        · simp [startR, evalP, assignT, assignTs, isVal, putR, vals, heldS, look1, look2, look2r, prim1, prim2, arith, bindT, bindTs, Ev.bin, Ev.eq, Ev.neg, endR, ofB, ofBs, isTy, isC, eqN, eqNs, eqD, eqDs, b2i, beq_int, beq_str, isObjD, plainR, d_read_ratio, b_read_ratio, sliceD, hl, hla, hlb, i1, i2, hp, e1, na, p1, sl, ia, c3, q, nb]
  · rw [if_neg c4]
    have c5 : isNum (tl b) = true := by
      cases e : isNum (tl b) with
      | true => rfl
      | false => exact absurd (.inl e) c4
    have c6 : ¬ b = "0" := fun e => c4 (.inr (b48.mp e))
    rw [c5] at nb
    obtain ⟨g1, g2, _⟩ := isNum_iff.mp c5
    have ib := intText_digits g2 g1 (show b.length ≤ 4300 by omega)
    have hd0 : ((digitsVal (tl b) : Nat) : Int) ≠ 0 := by
      have := num_back c5
      intro w
      have w' : digitsVal (tl b) = 0 := by omega
      rw [w'] at this
      exact c4 (.inr this.symm)
    have hdB : ((digitsVal (tl b) : Nat) : Int).natAbs ≤ BIG := by
      have := dval_big g2 (by rw [← len_tl]; exact hb)
      simpa using this
    have m2 := s_mk (k := k - 1) (by omega) (hval (tl a)) ((digitsVal (tl b) : Nat) : Int) S (BIG_9000 hdB)
    rw [if_neg hd0] at m2
    change intText? b = some ((digitsVal (tl b) : Nat) : Int) at ib
    have lp := log_big (Nat.le_trans (pn_abs (n := hval (tl a)) hd0).2 hdB)
    generalize ((digitsVal (tl b) : Nat) : Int) = dd at *
    have it : Str.ofString (pd (hval (tl a)) dd).repr = istr (pd (hval (tl a)) dd) := rfl
    by_cases c7 : pd (hval (tl a)) dd = 1
    · rw [if_pos (.inl c7)]
      rcases hpl with ⟨p1, p2⟩ | ⟨p1, p2⟩
      · by_cases q : P = "0"
        · have q2 : z = "0" := Classical.byContradiction fun w => c2 ⟨z48.mp q, w⟩
          subst q2
          rw [q] at p2 na
          simp [startR, evalP, assignT, assignTs, isVal, putR, vals, heldS, look1, look2, look2r, prim1, prim2, arith, bindT, bindTs, Ev.bin, Ev.eq, Ev.neg, endR, ofB, ofBs, isTy, isC, eqN, eqNs, eqD, eqDs, b2i, beq_int, beq_str, isObjD, plainR, d_read_ratio, b_read_ratio, sliceD, hl, hla, hlb, i1, i2, hp, e1, na, p1, sl, ia, c3, p2, nb, ib, m2, rt, c6, c7]
        · simp [startR, evalP, assignT, assignTs, isVal, putR, vals, heldS, look1, look2, look2r, prim1, prim2, arith, bindT, bindTs, Ev.bin, Ev.eq, Ev.neg, endR, ofB, ofBs, isTy, isC, eqN, eqNs, eqD, eqDs, b2i, beq_int, beq_str, isObjD, plainR, d_read_ratio, b_read_ratio, sliceD, hl, hla, hlb, i1, i2, hp, e1, na, p1, sl, ia, c3, p2, q, nb, ib, m2, rt, c6, c7]
      · subst p2
        by_cases q : P = "0"
        · have q2 : z = "0" := Classical.byContradiction fun w => c2 ⟨z48.mp q, w⟩
          subst q2
          subst q
          simp [startR, evalP, assignT, assignTs, isVal, putR, vals, heldS, look1, look2, look2r, prim1, prim2, arith, bindT, bindTs, Ev.bin, Ev.eq, Ev.neg, endR, ofB, ofBs, isTy, isC, eqN, eqNs, eqD, eqDs, b2i, beq_int, beq_str, isObjD, plainR, d_read_ratio, b_read_ratio, sliceD, hl, hla, hlb, i1, i2, hp, e1, na, p1, sl, ia, c3, nb, ib, m2, rt, c6, c7]
        · simp [startR, evalP, assignT, assignTs, isVal, putR, vals, heldS, look1, look2, look2r, prim1, prim2, arith, bindT, bindTs, Ev.bin, Ev.eq, Ev.neg, endR, ofB, ofBs, isTy, isC, eqN, eqNs, eqD, eqDs, b2i, beq_int, beq_str, isObjD, plainR, d_read_ratio, b_read_ratio, sliceD, hl, hla, hlb, i1, i2, hp, e1, na, p1, sl, ia, c3, q, nb, ib, m2, rt, c6, c7]
    · by_cases c8 : istr (pd (hval (tl a)) dd) = b
      · rw [if_neg (by simp [c7, c8])]
        rcases hpl with ⟨p1, p2⟩ | ⟨p1, p2⟩
        · by_cases q : P = "0"
          · have q2 : z = "0" := Classical.byContradiction fun w => c2 ⟨z48.mp q, w⟩
            subst q2
            rw [q] at p2 na
            simp [startR, evalP, assignT, assignTs, isVal, putR, vals, heldS, look1, look2, look2r, prim1, prim2, arith, bindT, bindTs, Ev.bin, Ev.eq, Ev.neg, endR, ofB, ofBs, isTy, isC, eqN, eqNs, eqD, eqDs, b2i, beq_int, beq_str, isObjD, plainR, d_read_ratio, b_read_ratio, sliceD, hl, hla, hlb, i1, i2, hp, e1, na, p1, sl, ia, c3, p2, nb, ib, m2, rt, c6, c7, c8, lp, it]
          · simp [startR, evalP, assignT, assignTs, isVal, putR, vals, heldS, look1, look2, look2r, prim1, prim2, arith, bindT, bindTs, Ev.bin, Ev.eq, Ev.neg, endR, ofB, ofBs, isTy, isC, eqN, eqNs, eqD, eqDs, b2i, beq_int, beq_str, isObjD, plainR, d_read_ratio, b_read_ratio, sliceD, hl, hla, hlb, i1, i2, hp, e1, na, p1, sl, ia, c3, p2, q, nb, ib, m2, rt, c6, c7, c8, lp, it]
        · subst p2
          by_cases q : P = "0"
          · have q2 : z = "0" := Classical.byContradiction fun w => c2 ⟨z48.mp q, w⟩
            subst q2
            subst q
            simp [startR, evalP, assignT, assignTs, isVal, putR, vals, heldS, look1, look2, look2r, prim1, prim2, arith, bindT, bindTs, Ev.bin, Ev.eq, Ev.neg, endR, ofB, ofBs, isTy, isC, eqN, eqNs, eqD, eqDs, b2i, beq_int, beq_str, isObjD, plainR, d_read_ratio, b_read_ratio, sliceD, hl, hla, hlb, i1, i2, hp, e1, na, p1, sl, ia, c3, nb, ib, m2, rt, c6, c7, c8, lp, it]
          · simp [startR, evalP, assignT, assignTs, isVal, putR, vals, heldS, look1, look2, look2r, prim1, prim2, arith, bindT, bindTs, Ev.bin, Ev.eq, Ev.neg, endR, ofB, ofBs, isTy, isC, eqN, eqNs, eqD, eqDs, b2i, beq_int, beq_str, isObjD, plainR, d_read_ratio, b_read_ratio, sliceD, hl, hla, hlb, i1, i2, hp, e1, na, p1, sl, ia, c3, q, nb, ib, m2, rt, c6, c7, c8, lp, it]
      · rw [if_pos (.inr c8)]
        rcases hpl with ⟨p1, p2⟩ | ⟨p1, p2⟩
        · by_cases q : P = "0"
          · have q2 : z = "0" := Classical.byContradiction fun w => c2 ⟨z48.mp q, w⟩
            subst q2
            rw [q] at p2 na
            simp [startR, evalP, assignT, assignTs, isVal, putR, vals, heldS, look1, look2, look2r, prim1, prim2, arith, bindT, bindTs, Ev.bin, Ev.eq, Ev.neg, endR, ofB, ofBs, isTy, isC, eqN, eqNs, eqD, eqDs, b2i, beq_int, beq_str, isObjD, plainR, d_read_ratio, b_read_ratio, sliceD, hl, hla, hlb, i1, i2, hp, e1, na, p1, sl, ia, c3, p2, nb, ib, m2, rt, c6, c7, c8, lp, it]
          · simp [startR, evalP, assignT, assignTs, isVal, putR, vals, heldS, look1, look2, look2r, prim1, prim2, arith, bindT, bindTs, Ev.bin, Ev.eq, Ev.neg, endR, ofB, ofBs, isTy, isC, eqN, eqNs, eqD, eqDs, b2i, beq_int, beq_str, isObjD, plainR, d_read_ratio, b_read_ratio, sliceD, hl, hla, hlb, i1, i2, hp, e1, na, p1, sl, ia, c3, p2, q, nb, ib, m2, rt, c6, c7, c8, lp, it]
        · subst p2
          by_cases q : P = "0"
          · have q2 : z = "0" := Classical.byContradiction fun w => c2 ⟨z48.mp q, w⟩
            subst q2
            subst q
            simp [startR, evalP, assignT, assignTs, isVal, putR, vals, heldS, look1, look2, look2r, prim1, prim2, arith, bindT, bindTs, Ev.bin, Ev.eq, Ev.neg, endR, ofB, ofBs, isTy, isC, eqN, eqNs, eqD, eqDs, b2i, beq_int, beq_str, isObjD, plainR, d_read_ratio, b_read_ratio, sliceD, hl, hla, hlb, i1, i2, hp, e1, na, p1, sl, ia, c3, nb, ib, m2, rt, c6, c7, c8, lp, it]
          · simp [startR, evalP, assignT, assignTs, isVal, putR, vals, heldS, look1, look2, look2r, prim1, prim2, arith, bindT, bindTs, Ev.bin, Ev.eq, Ev.neg, endR, ofB, ofBs, isTy, isC, eqN, eqNs, eqD, eqDs, b2i, beq_int, beq_str, isObjD, plainR, d_read_ratio, b_read_ratio, sliceD, hl, hla, hlb, i1, i2, hp, e1, na, p1, sl, ia, c3, q, nb, ib, m2, rt, c6, c7, c8, lp, it]
theorem s_read (hk : 5 ≤ k) (z a st b : Str) (h1 : 1 ≤ z.length) (h2 : z.length ≤ 2000) (hp : Txt.partition z "/" = (a, st, b)) (ha : a.length ≤ 2000) (hb : b.length ≤ 2000) (S : Sto) : callM pg k f_read_ratio [.val (.str z)] S = readR z a st b S := by
  refine s_readX hk z a st b (plS a) h1 h2 hp ha hb S rfl ?_
  rcases plain_cases a with ⟨p1, p2⟩ | ⟨p1, p2⟩
  · exact .inl ⟨p1, p2⟩
  · exact .inr ⟨p1, p2.symm⟩
end Mn.Pf

set_option maxRecDepth 100000
set_option maxHeartbeats 1000000
namespace Mn.Pf
open PySem L2 NumText TL
set_option exponentiation.threshold 20000
variable {k : Nat}
theorem rt_self {p q : Int} (hq : 0 < q) (c : Int.gcd p q = 1) : rt p q = ro p q := by
  obtain ⟨e1, e2⟩ := pl_self hq c
  unfold rt
  rw [e1, e2]
theorem rt_one (p : Int) : rt p 1 = ro p 1 := rt_self (by decide) (by simp)
theorem empty_eq : Str.empty = ("" : Str) := rfl
/-- what is read at all writes just what was read -/
theorem reads (hk : 5 ≤ k) (z : Str) (hz : z.length ≤ 100000) (S : Sto) : (∃ i : Int, callM pg k f_read_ratio [.val (.str z)] S = .ex 2 (.int i) S) ∨
    ∃ p q : Int, callM pg k f_read_ratio [.val (.str z)] S = .ok (.val (ro p q)) S ∧ 0 < q ∧ p.natAbs ≤ BIG ∧ q.natAbs ≤ BIG ∧ txt p q = z ∧ z.length ≤ 2000 := by
  by_cases h1 : z.length = 0 ∨ 2000 < z.length
  · exact .inl ⟨0, s_read0 (by omega) z hz h1 S⟩
  have l1 : 1 ≤ z.length := by omega
  have l2 : z.length ≤ 2000 := by omega
  rcases part_cases z with ⟨n47, hp⟩ | ⟨a, b, ez, n47, hp⟩
  · rw [s_read hk z z Str.empty Str.empty l1 l2 hp l2 (by decide) S]
    unfold readR
    by_cases c1 : isNum (pln (tl z)) = false
    · rw [if_pos c1]; exact .inl ⟨_, rfl⟩
    rw [if_neg c1]
    by_cases c2 : pln (tl z) = [48] ∧ z ≠ "0"
    · rw [if_pos c2]; exact .inl ⟨_, rfl⟩
    rw [if_neg c2, if_pos empty_eq, rt_one]
    have c1' : isNum (pln (tl z)) = true := by simpa using c1
    right
    refine ⟨_, 1, rfl, by decide, hval_big c1' (by rw [← len_tl]; exact l2), by unfold BIG; decide +kernel, ?_, l2⟩
    apply ext_tl
    rw [tl_txt]
    unfold txtL
    rw [if_pos rfl, List.append_nil]
    refine high_back c1' ?_
    by_cases w : pln (tl z) = [48]
    · right
      have : z = "0" := Classical.byContradiction fun y => c2 ⟨w, y⟩
      exact str_zero.mp this
    · exact .inl w
  · have hlen : z.length = a.length + (1 + b.length) := by
      rw [len_tl, ez, List.length_append, List.length_cons, ← len_tl, ← len_tl]; omega
    have la : a.length ≤ 2000 := by omega
    have lb : b.length ≤ 2000 := by omega
    rw [s_read hk z a "/" b l1 l2 hp la lb S]
    unfold readR
    by_cases c1 : isNum (pln (tl a)) = false
    · rw [if_pos c1]; exact .inl ⟨_, rfl⟩
    rw [if_neg c1]
    by_cases c2 : pln (tl a) = [48] ∧ z ≠ "0"
    · rw [if_pos c2]; exact .inl ⟨_, rfl⟩
    rw [if_neg c2, if_neg (by decide)]
    by_cases c4 : isNum (tl b) = false ∨ tl b = [48]
    · rw [if_pos c4]; exact .inl ⟨_, rfl⟩
    rw [if_neg c4]
    by_cases c5 : pd (hval (tl a)) (digitsVal (tl b) : Nat) = 1 ∨ istr (pd (hval (tl a)) (digitsVal (tl b) : Nat)) ≠ b
    · rw [if_pos c5]; exact .inl ⟨_, rfl⟩
    rw [if_neg c5]
    have c1' : isNum (pln (tl a)) = true := by simpa using c1
    have c4' : isNum (tl b) = true := by
      cases e : isNum (tl b) with
      | true => rfl
      | false => exact absurd (.inl e) c4
    have hz0 : z ≠ "0" := fun e => by
      have := str_zero.mp e
      rw [ez] at this
      have h : 47 ∈ tl a ++ 47 :: tl b := by simp
      rw [this] at h
      simp at h
    have ha48 : pln (tl a) ≠ [48] := fun e => c2 ⟨e, hz0⟩
    have hb := num_back c4'
    have hd0 : digitsVal (tl b) ≠ 0 := fun e => by
      rw [e] at hb
      exact c4 (.inr hb.symm)
    have hbig := dval_big (isNum_iff.mp c4').2.1 (by rw [← len_tl]; exact lb)
    have c6 : istr (pd (hval (tl a)) (digitsVal (tl b) : Nat)) = b := Classical.byContradiction fun e => c5 (.inr e)
    have c7 : pd (hval (tl a)) (digitsVal (tl b) : Nat) ≠ 1 := fun e => c5 (.inl e)
    have hI : numI ((digitsVal (tl b) : Nat) : Int) = tl b := by
      unfold numI
      rw [if_neg (by omega)]
      simpa using hb
    have e1 : pd (hval (tl a)) (digitsVal (tl b) : Nat) = ((digitsVal (tl b) : Nat) : Int) := by
      apply numI_inj
      rw [hI, ← tl_istr, c6]
    have hdd : ((digitsVal (tl b) : Nat) : Int) ≠ 0 := by omega
    have m1 := pn_mul (n := hval (tl a)) hdd
    have m2 := pd_mul (n := hval (tl a)) hdd
    have g1 : gI (hval (tl a)) ((digitsVal (tl b) : Nat) : Int) = 1 := by
      rw [e1] at m2
      exact Int.eq_of_mul_eq_mul_left hdd (by rw [Int.mul_one]; exact m2.symm)
    rw [g1, Int.mul_one] at m1
    right
    refine ⟨hval (tl a), ((digitsVal (tl b) : Nat) : Int), ?_, by omega, hval_big c1' (by rw [← len_tl]; exact la), by simpa using hbig, ?_, l2⟩
    · unfold rt
      rw [← m1, e1]
    · apply ext_tl
      rw [tl_txt]
      unfold txtL
      rw [e1] at c7
      rw [if_neg c7, hI, ez, high_back c1' (.inl ha48)]
theorem numL_zero {n : Nat} (h : numL n = [48]) : n = 0 := numL_inj (h.trans (numL_lt (n := 0) (by decide)).symm)
/-- what is written is read back -/
theorem reads_txt (hk : 5 ≤ k) {p q : Int} (hq : 0 < q) (c : Int.gcd p q = 1) (hl : (txt p q).length ≤ 2000) (S : Sto) : callM pg k f_read_ratio [.val (.str (txt p q))] S = .ok (.val (ro p q)) S := by
  have hp := pln_numI p
  have hN : isNum (pln (numI p)) = true := by rw [hp.1]; exact numL_num _
  have hlt : 1 ≤ (txt p q).length := by
    rw [len_tl, tl_txt]
    have : 0 < (numI p).length := List.length_pos_iff.mpr fun e => by
      rw [e] at hN; cases hN
    unfold txtL
    rw [List.length_append]; omega
  by_cases h1 : q = 1
  · subst h1
    have et : txt p 1 = istr p := if_pos rfl
    rw [et] at hl hlt ⊢
    have hp0 : Txt.partition (istr p) "/" = (istr p, Str.empty, Str.empty) := partition_none tl_slash (by rw [tl_istr]; exact numI_free)
    rw [s_read hk (istr p) (istr p) Str.empty Str.empty hlt hl hp0 hl (by decide) S]
    unfold readR
    rw [tl_istr, hN, if_neg (by decide), hp.1]
    have c2 : ¬ (numL p.natAbs = [48] ∧ istr p ≠ "0") := fun ⟨e, w⟩ => by
      have := numL_zero e
      have hp0 : p = 0 := by omega
      subst hp0
      exact w rfl
    rw [if_neg c2, if_pos empty_eq, hp.2, rt_one]
  · have et : txt p q = istr p ++ "/" ++ istr q := if_neg h1
    have hp0 : Txt.partition (txt p q) "/" = (istr p, ("/" : Str), istr q) := by
      rw [et]
      exact partition_app tl_slash (by rw [tl_istr]; exact numI_free)
    have hlen : (txt p q).length = (istr p).length + 1 + (istr q).length := by rw [et, app_len, app_len]; rfl
    rw [s_read hk (txt p q) (istr p) "/" (istr q) hlt hl hp0 (by omega) (by omega) S]
    unfold readR
    have hq1 : numI q = numL q.natAbs := by unfold numI; rw [if_neg (by omega)]
    have hv : ((digitsVal (numI q) : Nat) : Int) = q := by rw [hq1, numL_val]; omega
    obtain ⟨s1, s2⟩ := pl_self hq c
    rw [tl_istr, tl_istr, hN, if_neg (by decide), hp.1, hp.2, hv, s2]
    have c2 : ¬ (numL p.natAbs = [48] ∧ txt p q ≠ "0") := fun ⟨e, w⟩ => by
      have := numL_zero e
      have hp0 : p = 0 := by omega
      subst hp0
      rw [Int.zero_gcd] at c
      omega
    have c4 : ¬ (isNum (numI q) = false ∨ numI q = [48]) := by
      rintro (e | e)
      · rw [hq1, numL_num] at e; cases e
      · rw [hq1] at e
        have := numL_zero e
        omega
    rw [if_neg c2, if_neg (by decide), if_neg c4, if_neg (by simp [h1]), rt_self hq c]
theorem s_itself (hk : 8 ≤ k) (z : Str) (hz : z.length ≤ 100000) (S : Sto) : callM pg k f_law_reads_itself [.val (.str z)] S = .ok (.val (.bl true)) S := by
  rw [call_eq (fd := d_law_reads_itself) rfl (by omega)]
  have e1 : (ev pg (k - 1)).call = callM pg (k - 1) := ev_call (by omega)
  have k5 : 5 ≤ k - 1 := by omega
  have k1 : 1 ≤ k - 1 := by omega
  rcases reads (k := k - 1 - 1) (by omega) z hz S with ⟨i, h⟩ | ⟨p, q, h, hq, h1, h2, ht, hl⟩
  · have e2 := told1_2 (k := k - 1) (by omega) h
    simp [startR, evalP, assignT, assignTs, isVal, putR, vals, heldS, look1, look2, look2r, prim1, prim2, arith, bindT, bindTs, Ev.bin, Ev.eq, Ev.neg, endR, ofB, ofBs, isTy, isC, eqN, eqNs, eqD, eqDs, b2i, beq_int, beq_str, isObjD, plainR, d_law_reads_itself, b_law_reads_itself, e1, e2, k1]
  · have e2 := told1 (k := k - 1) (by omega) h
    have e3 := s_text (k := k - 1) (by omega) hq h1 h2 S
    rw [ht, if_neg (by omega)] at e3
    simp [startR, evalP, assignT, assignTs, isVal, putR, vals, heldS, look1, look2, look2r, prim1, prim2, arith, bindT, bindTs, Ev.bin, Ev.eq, Ev.neg, endR, ofB, ofBs, isTy, isC, eqN, eqNs, eqD, eqDs, b2i, beq_int, beq_str, isObjD, plainR, d_law_reads_itself, b_law_reads_itself, e1, e2, e3, atI_0, atI_1, k5]
end Mn.Pf

set_option maxRecDepth 100000
set_option maxHeartbeats 2000000
namespace Mn.Pf
open PySem L2 NumText TL
set_option exponentiation.threshold 20000
theorem eq_ii {k : Nat} {x y : Int} {S : Sto} : (ev pg k).eq (.val (.int x)) (.val (.int y)) S false = .ok (.val (.bl (decide (x = y)))) S := by
  simp [Ev.eq, eqN, eqD, beq_int, isObjD]
variable {k : Nat}
/-- a fraction that is drawn -/
structure Sm (a b : Int) : Prop where
  n : a.natAbs < 2 ^ 41
  p : 0 < b
  d : b.natAbs < 2 ^ 41
namespace Sm
variable {a b : Int} (h : Sm a b)
include h
theorem b0 : b ≠ 0 := by have := h.p; omega
theorem bn : Bd a := Bd_of h.n (by decide)
theorem bd : Bd b := Bd_of h.d (by decide)
theorem bpn : Bd (pn a b) := Nat.lt_of_le_of_lt (pn_abs h.b0).1 h.bn
theorem bpd : Bd (pd a b) := Nat.lt_of_le_of_lt (pn_abs h.b0).2 h.bd
theorem pd0 : pd a b ≠ 0 := by have := pd_pos (n := a) h.b0; omega
theorem big : b.natAbs < 2 ^ 9000 := Nat.lt_of_lt_of_le h.d (Nat.pow_le_pow_right (by decide) (by decide))
theorem bigp : (pd a b).natAbs < 2 ^ 9000 := Nat.lt_of_le_of_lt (pn_abs h.b0).2 h.big
theorem nB : (pn a b).natAbs ≤ BIG := by
  have := (pn_abs (n := a) h.b0).1
  have h1 := h.n
  have : (2 : Nat) ^ 41 ≤ BIG := by unfold BIG; decide +kernel
  omega
theorem dB : (pd a b).natAbs ≤ BIG := by
  have := (pn_abs (n := a) h.b0).2
  have h1 := h.d
  have : (2 : Nat) ^ 41 ≤ BIG := by unfold BIG; decide +kernel
  omega
end Sm
@[simp] theorem meth_add {l : List D} {args : List A} {S : Sto} : (ev pg k).meth (.val (.obj 10 l)) Op.add.nm args S = (ev pg k).call f_Ratio_add (.val (.obj 10 l) :: args) S := by
  simp only [Ev.meth, mfind_rt]; rfl
@[simp] theorem meth_sub {l : List D} {args : List A} {S : Sto} : (ev pg k).meth (.val (.obj 10 l)) Op.sub.nm args S = (ev pg k).call f_Ratio_sub (.val (.obj 10 l) :: args) S := by
  simp only [Ev.meth, mfind_rt]; rfl
@[simp] theorem meth_mul {l : List D} {args : List A} {S : Sto} : (ev pg k).meth (.val (.obj 10 l)) Op.mul.nm args S = (ev pg k).call f_Ratio_mul (.val (.obj 10 l) :: args) S := by
  simp only [Ev.meth, mfind_rt]; rfl
@[simp] theorem meth_neg {l : List D} {args : List A} {S : Sto} : (ev pg k).meth (.val (.obj 10 l)) 3 args S = (ev pg k).call f_Ratio_neg (.val (.obj 10 l) :: args) S := by
  simp only [Ev.meth, mfind_rt]; rfl
@[simp] theorem mf_9 {l : List D} {S : Sto} : (ev pg k).mfind (.val (.obj 10 l)) 9 S = some f_Ratio_less := by rw [mfind_rt]; rfl
@[simp] theorem mf_10 {l : List D} {S : Sto} : (ev pg k).mfind (.val (.obj 10 l)) 10 S = some f_Ratio_sign := by rw [mfind_rt]; rfl
@[simp] theorem mf_11 {l : List D} {S : Sto} : (ev pg k).mfind (.val (.obj 10 l)) 11 S = some f_Ratio_is_whole := by rw [mfind_rt]; rfl
@[simp] theorem mf_12 {l : List D} {S : Sto} : (ev pg k).mfind (.val (.obj 10 l)) 12 S = some f_Ratio_floor := by rw [mfind_rt]; rfl
theorem eqD_ro {p q p' q' : Int} : eqD pg (ro p q) (ro p' q') = (decide (p = p') && decide (q = q')) := by
  have hcl : pg.cl 10 = some l_Ratio := rfl
  simp [eqD, hcl, eqDm, l_Ratio, beq_int]
abbrev oS (i : Nat) : Mn.S := b_law_ops_hold.getD i .pass
theorem ops_eq : b_law_ops_hold = [oS 0, oS 1, oS 2, oS 3, oS 4, oS 5, oS 6, oS 7, oS 8, oS 9, oS 10, oS 11, oS 12] := rfl
section
variable {a b c d : Int} (h : Sm a b) (h' : Sm c d) (hk : 20 ≤ k)
include h h' hk
theorem o3 {s : Int} (hs : s = 1 ∨ s = -1) (S : Sto) {x y z u v w r t s1 s2 s3 : Option A} : evalS (ev pg k) (oS 2) [x, some (.val (.int a)), some (.val (.int b)), y, z, some (.val (rt a b)), u, some (.val (.int s)), v, w, r, t, s1, s2, s3] S = .nx [x, some (.val (.int a)), some (.val (.int b)), y, z, some (.val (rt a b)), u, some (.val (.int s)), v, w, r, t, s1, s2, s3] S := by
  have e1 : (ev pg k).call = callM pg k := ev_call (by omega)
  have i1 := s_is_rt (k := k) (by omega) h.b0 h.b0 h.big rfl S (a := a) (n := a)
  have hsb : s * b ≠ 0 := by rcases hs with rfl | rfl <;> have := h.b0 <;> omega
  have hsB : (s * b).natAbs < 2 ^ 9000 := by rw [Int.natAbs_mul]; rcases hs with rfl | rfl <;> simpa using h.big
  have mk := s_mk (k := k) (by omega) (s * a) (s * b) S hsB
  rw [if_neg hsb] at mk
  have i2 := s_is_rt (k := k) (by omega) hsb h.b0 h.big (a := s * a) (n := a) (by grind) S
  have mk1 := s_mk1 (k := k) (by omega) a S
  have i3 := s_is_rt (k := k) (by omega) (a := a) (b := 1) (n := a) (d := 1) (by decide) (by decide) (by decide +kernel) rfl S
  have ms : Bd s := by rcases hs with rfl | rfl <;> (unfold Bd; decide +kernel)
  simp [startR, evalP, assignT, assignTs, isVal, putR, vals, heldS, look1, look2, look2r, prim1, prim2, arith, bindT, bindTs, Ev.bin, Ev.eq, Ev.neg, endR, ofB, ofBs, isTy, isC, eqN, eqNs, eqD, eqDs, b2i, beq_int, beq_str, isObjD, plainR, b_law_ops_hold, e1, i1, mk, i2, mk1, i3, mulOk_of ms h.bn, mulOk_of ms h.bd]
theorem cross_add : (pn a b * pd c d + pn c d * pd a b) * (b * d) = (a * d + c * b) * (pd a b * pd c d) := by
  have e1 := pn_mul (n := a) h.b0
  have e2 := pd_mul (n := a) h.b0
  have e3 := pn_mul (n := c) h'.b0
  have e4 := pd_mul (n := c) h'.b0
  generalize pn a b = p at *
  generalize pd a b = q at *
  generalize pn c d = p' at *
  generalize pd c d = q' at *
  generalize gI a b = g at *
  generalize gI c d = g' at *
  clear h h'
  subst e1 e2 e3 e4
  grind
theorem cross_sub : (pn a b * pd c d - pn c d * pd a b) * (b * d) = (a * d - c * b) * (pd a b * pd c d) := by
  have e1 := pn_mul (n := a) h.b0
  have e2 := pd_mul (n := a) h.b0
  have e3 := pn_mul (n := c) h'.b0
  have e4 := pd_mul (n := c) h'.b0
  generalize pn a b = p at *
  generalize pd a b = q at *
  generalize pn c d = p' at *
  generalize pd c d = q' at *
  generalize gI a b = g at *
  generalize gI c d = g' at *
  clear h h'
  subst e1 e2 e3 e4
  grind
theorem cross_mul : (pn a b * pn c d) * (b * d) = (a * c) * (pd a b * pd c d) := by
  have e1 := pn_mul (n := a) h.b0
  have e2 := pd_mul (n := a) h.b0
  have e3 := pn_mul (n := c) h'.b0
  have e4 := pd_mul (n := c) h'.b0
  generalize pn a b = p at *
  generalize pd a b = q at *
  generalize pn c d = p' at *
  generalize pd c d = q' at *
  generalize gI a b = g at *
  generalize gI c d = g' at *
  clear h h'
  subst e1 e2 e3 e4
  grind
theorem cross_neg : (- pn a b) * b = (-a) * pd a b := by
  have e1 := pn_mul (n := a) h.b0
  have e2 := pd_mul (n := a) h.b0
  generalize pn a b = p at *
  generalize pd a b = q at *
  generalize gI a b = g at *
  clear h h'
  subst e1 e2
  grind
theorem cross_over : (pn a b * pd c d) * (b * c) = (a * d) * (pd a b * pn c d) := by
  have e1 := pn_mul (n := a) h.b0
  have e2 := pd_mul (n := a) h.b0
  have e3 := pn_mul (n := c) h'.b0
  have e4 := pd_mul (n := c) h'.b0
  generalize pn a b = p at *
  generalize pd a b = q at *
  generalize pn c d = p' at *
  generalize pd c d = q' at *
  generalize gI a b = g at *
  generalize gI c d = g' at *
  clear h h'
  subst e1 e2 e3 e4
  grind
theorem bd_bd : (b * d).natAbs < 2 ^ 9000 ∧ b * d ≠ 0 := ⟨h.bd.mul h'.bd, Int.mul_ne_zero h.b0 h'.b0⟩
theorem o4 (S : Sto) {x y z v w r t s s' : Option A} : evalS (ev pg k) (oS 3) [x, some (.val (.int a)), some (.val (.int b)), some (.val (.int c)), some (.val (.int d)), some (.val (rt a b)), some (.val (rt c d)), y, z, v, w, r, t, s, s'] S =
    .nx [x, some (.val (.int a)), some (.val (.int b)), some (.val (.int c)), some (.val (.int d)), some (.val (rt a b)), some (.val (rt c d)), y, z, v, w, r, t, s, s'] S := by
  have e1 : (ev pg k).call = callM pg k := ev_call (by omega)
  have q0 := Int.mul_ne_zero h.pd0 h'.pd0
  obtain ⟨d1, d0⟩ := bd_bd h h' hk
  have a1 := s_add h.bpn h.bpd h'.bpn h'.bpd (k := k) (by omega) h.pd0 h'.pd0 S
  have a2 := s_sub h.bpn h.bpd h'.bpn h'.bpd (k := k) (by omega) h.pd0 h'.pd0 S
  have a3 := s_mul h.bpn h.bpd h'.bpn h'.bpd (k := k) (by omega) h.pd0 h'.pd0 S
  have a4 := s_neg (pn a b) (pd a b) (k := k) (by omega) h.bigp h.pd0 S
  have i1 := s_is_rt (k := k) (by omega) q0 d0 d1 (cross_add h h' hk) S
  have i2 := s_is_rt (k := k) (by omega) q0 d0 d1 (cross_sub h h' hk) S
  have i3 := s_is_rt (k := k) (by omega) q0 d0 d1 (cross_mul h h' hk) S
  have i4 := s_is_rt (k := k) (by omega) h.pd0 h.b0 h.big (cross_neg h h' hk) S
  have r1 : rt a b = ro (pn a b) (pd a b) := rfl
  have r2 : rt c d = ro (pn c d) (pd c d) := rfl
  rw [r1, r2]
  simp [startR, evalP, assignT, assignTs, isVal, putR, vals, heldS, look1, look2, look2r, prim1, prim2, arith, bindT, bindTs, Ev.bin, Ev.eq, Ev.neg, endR, ofB, ofBs, isTy, isC, eqN, eqNs, eqD, eqDs, b2i, beq_int, beq_str, isObjD, plainR, b_law_ops_hold, e1, a1, a2, a3, a4, i1, i2, i3, i4, mulOk_of h.bn h'.bd, mulOk_of h'.bn h.bd, mulOk_of h.bd h'.bd, mulOk_of h.bn h'.bn]
theorem pn_zero : pn c d = 0 ↔ c = 0 := by
  have e3 := pn_mul (n := c) h'.b0
  have g := gI_ne (n := c) h'.b0
  constructor
  · intro e; rw [e, Int.zero_mul] at e3; exact e3
  · intro e
    rw [e] at e3 ⊢
    rcases Int.mul_eq_zero.mp e3.symm with z | z
    · exact z
    · rw [e] at g; exact absurd z g
theorem o56 (S : Sto) {x y v w r t s s' z : Option A} : ∃ T : D, evalS (ev pg k) (oS 4) [x, some (.val (.int a)), some (.val (.int b)), some (.val (.int c)), some (.val (.int d)), some (.val (rt a b)), some (.val (rt c d)), y, z, v, w, r, t, s, s'] S =
    .nx [x, some (.val (.int a)), some (.val (.int b)), some (.val (.int c)), some (.val (.int d)), some (.val (rt a b)), some (.val (rt c d)), y, some (.val T), v, w, r, t, s, s'] S ∧
    evalS (ev pg k) (oS 5) [x, some (.val (.int a)), some (.val (.int b)), some (.val (.int c)), some (.val (.int d)), some (.val (rt a b)), some (.val (rt c d)), y, some (.val T), v, w, r, t, s, s'] S =
    .nx [x, some (.val (.int a)), some (.val (.int b)), some (.val (.int c)), some (.val (.int d)), some (.val (rt a b)), some (.val (rt c d)), y, some (.val T), v, w, r, t, s, s'] S := by
  have e1 : (ev pg k).call = callM pg k := ev_call (by omega)
  have o := s_lover (k := k - 1) (by omega) h.bpn h.bpd h'.bpn h'.bpd h.pd0 S
  have r1 : rt a b = ro (pn a b) (pd a b) := rfl
  have r2 : rt c d = ro (pn c d) (pd c d) := rfl
  have k1 : 1 ≤ k := by omega
  rw [r1, r2]
  by_cases hc : c = 0
  · rw [if_pos ((pn_zero h h' hk).mpr hc)] at o
    have t1 := told2_1 (k := k) (by omega) o
    refine ⟨.tup [.str "refused", .str "zero"], ?_, ?_⟩
    · simp [startR, evalP, assignT, assignTs, isVal, putR, vals, heldS, look1, look2, look2r, prim1, prim2, arith, bindT, bindTs, Ev.bin, Ev.eq, Ev.neg, endR, ofB, ofBs, isTy, isC, eqN, eqNs, eqD, eqDs, b2i, beq_int, beq_str, isObjD, plainR, b_law_ops_hold, e1, t1]
    · simp [startR, evalP, assignT, assignTs, isVal, putR, vals, heldS, look1, look2, look2r, prim1, prim2, arith, bindT, bindTs, Ev.bin, Ev.eq, Ev.neg, endR, ofB, ofBs, isTy, isC, eqN, eqNs, eqD, eqDs, b2i, beq_int, beq_str, isObjD, plainR, b_law_ops_hold, e1, hc, k1]
  · rw [if_neg (fun z => hc ((pn_zero h h' hk).mp z))] at o
    have t1 := told2 (k := k) (by omega) o
    have hbc : b * c ≠ 0 := Int.mul_ne_zero h.b0 hc
    have q0 : pd a b * pn c d ≠ 0 := Int.mul_ne_zero h.pd0 fun z => hc ((pn_zero h h' hk).mp z)
    have i1 := s_is_rt (k := k) (by omega) q0 hbc (h.bd.mul h'.bn) (cross_over h h' hk) S
    refine ⟨.tup [.str "told", rt (pn a b * pd c d) (pd a b * pn c d)], ?_, ?_⟩
    · simp [startR, evalP, assignT, assignTs, isVal, putR, vals, heldS, look1, look2, look2r, prim1, prim2, arith, bindT, bindTs, Ev.bin, Ev.eq, Ev.neg, endR, ofB, ofBs, isTy, isC, eqN, eqNs, eqD, eqDs, b2i, beq_int, beq_str, isObjD, plainR, b_law_ops_hold, e1, t1]
    · simp [startR, evalP, assignT, assignTs, isVal, putR, vals, heldS, look1, look2, look2r, prim1, prim2, arith, bindT, bindTs, Ev.bin, Ev.eq, Ev.neg, endR, ofB, ofBs, isTy, isC, eqN, eqNs, eqD, eqDs, b2i, beq_int, beq_str, isObjD, plainR, b_law_ops_hold, e1, hc, k1, atI_0, atI_1, i1, mulOk_of h.bn h'.bd, mulOk_of h.bd h'.bn]
theorem o7 (S : Sto) {x y z v w r t s s' : Option A} : evalS (ev pg k) (oS 6) [x, some (.val (.int a)), some (.val (.int b)), some (.val (.int c)), some (.val (.int d)), some (.val (rt a b)), some (.val (rt c d)), y, z, v, w, r, t, s, s'] S =
    .nx [x, some (.val (.int a)), some (.val (.int b)), some (.val (.int c)), some (.val (.int d)), some (.val (rt a b)), some (.val (rt c d)), y, z, v, w, r, t, s, s'] S := by
  have e1 : (ev pg k).call = callM pg k := ev_call (by omega)
  have k4 : 4 ≤ k := by omega
  have l1 := s_less h.bpn h.bpd h'.bpn h'.bpd (k := k) (by omega) S
  have q1 : decide (pn a b * pd c d < pn c d * pd a b) = decide (a * d < c * b) := decide_eq_decide.mpr (pl_lt h.p h'.p)
  rw [q1] at l1
  have q2 : (decide (pn a b = pn c d) && decide (pd a b = pd c d)) = decide (a * d = c * b) := by
    rw [← Bool.decide_and]
    exact decide_eq_decide.mpr (pl_iff h.b0 h'.b0)
  have y1 := s_says (k := k) (by omega) (decide (a * d < c * b)) (decide (a * d < c * b)) S
  have y2 := s_says (k := k) (by omega) (decide (a * d = c * b)) (decide (a * d = c * b)) S
  rw [beq_self_eq_true] at y1 y2
  have g1 := s_sign (pn a b) (pd a b) (k := k) (by omega) S
  obtain ⟨p1, p2⟩ := pn_sign (n := a) h.p
  have qs : (if 0 < pn a b then (1 : Int) else if pn a b < 0 then -1 else 0) = (if 0 < a then 1 else if a < 0 then -1 else 0) := by
    simp only [p1, p2]
  rw [qs] at g1
  have r1 : rt a b = ro (pn a b) (pd a b) := rfl
  have r2 : rt c d = ro (pn c d) (pd c d) := rfl
  have eq := eqD_ro (p := pn a b) (q := pd a b) (p' := pn c d) (q' := pd c d)
  rw [q2] at eq
  rw [r1, r2]
  have y3 : ∀ i : Int, callM pg k f_law_same [.val (.int i), .val (.int i)] S = .ok (.val (.bl true)) S := fun i => by
    rw [s_same_int (k := k) (by omega)]; simp
  have ez : eqN (ro (pn a b) (pd a b)) (ro (pn c d) (pd c d)) ≤ k := by
    simp only [eqN, eqNs]
    omega
  have eqE : (ev pg k).eq (.val (ro (pn a b) (pd a b))) (.val (ro (pn c d) (pd c d))) S false = .ok (.val (.bl (decide (a * d = c * b)))) S := by
    simp only [Ev.eq, ev_k, ev_G, ez, isObjD, eq]
    simp
  by_cases h1 : 0 < a
  · rw [if_pos h1] at g1
    simp [startR, evalP, assignT, assignTs, isVal, putR, vals, heldS, look1, look2, look2r, prim1, prim2, arith, bindT, bindTs, Ev.bin, Ev.neg, endR, ofB, ofBs, isTy, isC, b2i, isObjD, plainR, eq_ii, b_law_ops_hold, e1, l1, y1, y2, y3, g1, h1, eqE, mulOk_of h.bn h'.bd, mulOk_of h'.bn h.bd]
  · rw [if_neg h1] at g1
    by_cases h2 : a < 0
    · rw [if_pos h2] at g1
      simp [startR, evalP, assignT, assignTs, isVal, putR, vals, heldS, look1, look2, look2r, prim1, prim2, arith, bindT, bindTs, Ev.bin, Ev.neg, endR, ofB, ofBs, isTy, isC, b2i, isObjD, plainR, eq_ii, b_law_ops_hold, e1, l1, y1, y2, y3, g1, h1, h2, eqE, mulOk_of h.bn h'.bd, mulOk_of h'.bn h.bd]
    · rw [if_neg h2] at g1
      simp [startR, evalP, assignT, assignTs, isVal, putR, vals, heldS, look1, look2, look2r, prim1, prim2, arith, bindT, bindTs, Ev.bin, Ev.neg, endR, ofB, ofBs, isTy, isC, b2i, isObjD, plainR, eq_ii, b_law_ops_hold, e1, l1, y1, y2, y3, g1, h1, h2, eqE, mulOk_of h.bn h'.bd, mulOk_of h'.bn h.bd]
omit h' in
theorem o8 (S : Sto) {x y z v w r t s s' c1 c2 : Option A} : evalS (ev pg k) (oS 7) [x, some (.val (.int a)), some (.val (.int b)), c1, c2, some (.val (rt a b)), y, z, v, w, r, t, s, s', none] S =
    .nx [x, some (.val (.int a)), some (.val (.int b)), c1, c2, some (.val (rt a b)), y, z, v, w, r, t, s, s', none] S := by
  have e1 : (ev pg k).call = callM pg k := ev_call (by omega)
  have k4 : 4 ≤ k := by omega
  have g1 := s_iswhole (pn a b) (pd a b) (k := k) (by omega) S
  have q1 : decide (pd a b = 1) = decide (a.fmod b = 0) := decide_eq_decide.mpr (pd_one h.p)
  rw [q1] at g1
  have y1 := s_says (k := k) (by omega) (decide (a.fmod b = 0)) (decide (a.fmod b = 0)) S
  rw [beq_self_eq_true] at y1
  have g2 := s_floor (pn a b) (pd a b) (k := k) (by omega) h.bigp h.pd0 S
  rw [pl_floor h.p] at g2
  have y3 : callM pg k f_law_same [.val (.int (a.fdiv b)), .val (.int (a.fdiv b))] S = .ok (.val (.bl true)) S := by
    rw [s_same_int (k := k) (by omega)]; simp
  have dk := divOk_of h.b0 h.big
  have b0 := h.b0
  have r1 : rt a b = ro (pn a b) (pd a b) := rfl
  have l4 : lenOk 4 = true := lenOk_of (by decide)
  have q2 : ∀ e : D, isObjD e = false → plainD e = true → (ev pg k).eq (.val (ro (pn a b) (pd a b))) (.val e) S false = .ok (.val (.bl false)) S := fun e h1 h2 => by
    cases e <;> first | (cases h1; done) | (cases h2; done) | simp [Ev.eq, eqN, k4, isObjD, eqD]
  have f1 := q2 .non rfl rfl
  have f2 := q2 (.int a) rfl rfl
  have f3 := q2 (.tup [.int (pn a b), .int (pd a b)]) rfl rfl
  have f4 := q2 (.str "0") rfl rfl
  rw [r1]
  simp [startR, evalP, assignT, assignTs, isVal, putR, vals, heldS, look1, look2, look2r, prim1, prim2, arith, bindT, bindTs, Ev.bin, Ev.neg, endR, ofB, ofBs, isTy, isC, b2i, isObjD, plainR, eq_ii, b_law_ops_hold, e1, g1, g2, y1, y3, dk, b0, l4, items, compL_nil, compL_cons, compF, wipeR, f1, f2, f3, f4, anyBl]
omit h' in
theorem o9 (S : Sto) {x y z v w r t s s' c1 c2 u : Option A} : evalS (ev pg k) (oS 8) [x, some (.val (.int a)), some (.val (.int b)), c1, c2, u, y, z, v, w, r, t, s, s', none] S =
    .nx [x, some (.val (.int a)), some (.val (.int b)), c1, c2, u, y, z, v, some (.val (.int (pn a b))), some (.val (.int (pd a b))), t, s, s', none] S := by
  have e1 : (ev pg k).call = callM pg k := ev_call (by omega)
  have p1 := s_plain (k := k) (by omega) a b h.b0 h.big S
  simp [startR, evalP, assignT, assignTs, isVal, putR, vals, heldS, look1, look2, look2r, prim1, prim2, arith, bindT, bindTs, Ev.bin, Ev.neg, endR, ofB, ofBs, isTy, isC, b2i, isObjD, plainR, eq_ii, b_law_ops_hold, e1, p1]
omit h' in
theorem o10 (S : Sto) {x y z v t s s' c1 c2 u a1 a2 : Option A} : evalS (ev pg k) (oS 9) [x, a1, a2, c1, c2, u, y, z, v, some (.val (.int (pn a b))), some (.val (.int (pd a b))), t, s, s', none] S =
    .nx [x, a1, a2, c1, c2, u, y, z, v, some (.val (.int (pn a b))), some (.val (.int (pd a b))), some (.val (.str (txt (pn a b) (pd a b)))), s, s', none] S := by
  have l1 := log_big h.nB
  have l2 := log_big h.dB
  have i1 : Str.ofString (pn a b).repr = istr (pn a b) := rfl
  have i2 : Str.ofString (pd a b).repr = istr (pd a b) := rfl
  have sl : ("/" : Str).length = 1 := rfl
  have s0 : ("" : Str).length = 0 := rfl
  have n1 := istr_len h.nB
  have n2 := istr_len h.dB
  have t1 : lenOk (istr (pn a b)).length = true := lenOk_of (by omega)
  have t2 : lenOk (1 + (istr (pd a b)).length) = true := lenOk_of (by omega)
  have t3 : lenOk ((istr (pn a b)).length + (("/" : Str) ++ istr (pd a b)).length) = true := lenOk_of (by rw [app_len, sl]; omega)
  have hp := pd_pos (n := a) h.b0
  by_cases h1 : pd a b = 1
  · have h2 : ¬ 1 < pd a b := by omega
    have e : istr (pn a b) ++ ("" : Str) = txt (pn a b) (pd a b) := by
      unfold txt
      rw [if_pos h1]
      apply ext_tl
      rw [tl_append]
      show _ ++ [] = _
      rw [List.append_nil]
    simp [startR, evalP, assignT, assignTs, isVal, putR, vals, heldS, look1, look2, look2r, prim1, prim2, arith, bindT, bindTs, Ev.bin, Ev.neg, endR, ofB, ofBs, isTy, isC, b2i, isObjD, plainR, eq_ii, b_law_ops_hold, l1, l2, i1, i2, sl, s0, t1, t2, t3, h2, e]
  · have h2 : 1 < pd a b := by omega
    have e : istr (pn a b) ++ (("/" : Str) ++ istr (pd a b)) = txt (pn a b) (pd a b) := by
      unfold txt
      rw [if_neg h1]
      apply ext_tl
      rw [tl_append, tl_append, tl_append, tl_append, List.append_assoc]
    simp [startR, evalP, assignT, assignTs, isVal, putR, vals, heldS, look1, look2, look2r, prim1, prim2, arith, bindT, bindTs, Ev.bin, Ev.neg, endR, ofB, ofBs, isTy, isC, b2i, isObjD, plainR, eq_ii, b_law_ops_hold, l1, l2, i1, i2, sl, s0, t1, t2, t3, h2, e]
omit h' in
theorem txt_small : (txt (pn a b) (pd a b)).length ≤ 100 ∧ 0 < (txt (pn a b) (pd a b)).length := by
  have n1 : (numI (pn a b)).length ≤ 20 := by
    have := (pn_abs (n := a) h.b0).1
    have := h.n
    have := numL_len (n := (pn a b).natAbs) (k := 13) (by decide) (by omega)
    unfold numI
    split
    · rw [List.length_cons]; omega
    · omega
  have n2 : (numI (pd a b)).length ≤ 20 := by
    have := (pn_abs (n := a) h.b0).2
    have := h.d
    have := numL_len (n := (pd a b).natAbs) (k := 13) (by decide) (by omega)
    unfold numI
    split
    · rw [List.length_cons]; omega
    · omega
  have n3 : 0 < (numI (pn a b)).length := List.length_pos_iff.mpr fun e => by
    unfold numI at e
    split at e
    · cases e
    · exact numL_ne _ e
  rw [len_tl, tl_txt]
  unfold txtL
  rw [List.length_append]
  split
  · simp only [List.length_nil]; omega
  · rw [List.length_cons]; omega
omit h' in
theorem o11 (S : Sto) {x y z v s s' c1 c2 a1 a2 w r : Option A} : evalS (ev pg k) (oS 10) [x, a1, a2, c1, c2, some (.val (rt a b)), y, z, v, w, r, some (.val (.str (txt (pn a b) (pd a b)))), s, s', none] S =
    .nx [x, a1, a2, c1, c2, some (.val (rt a b)), y, z, v, w, r, some (.val (.str (txt (pn a b) (pd a b)))), s, s', none] S := by
  have e1 : (ev pg k).call = callM pg k := ev_call (by omega)
  have k4 : 4 ≤ k := by omega
  obtain ⟨tl1, tl2⟩ := txt_small h hk
  have t1 := s_text (k := k) (by omega) (pd_pos (n := a) h.b0) h.nB h.dB S
  rw [if_neg (by omega)] at t1
  have t2 := s_same_str (k := k) (by omega) (txt (pn a b) (pd a b)) (txt (pn a b) (pd a b)) S
  rw [decide_eq_true rfl] at t2
  have t3 := reads_txt (k := k) (by omega) (pd_pos (n := a) h.b0) (cop h.b0) (by omega) S
  have eqE : (ev pg k).eq (.val (ro (pn a b) (pd a b))) (.val (ro (pn a b) (pd a b))) S false = .ok (.val (.bl true)) S := by
    simp [Ev.eq, eqN, eqNs, k4, isObjD, eqD_ro]
  have r1 : rt a b = ro (pn a b) (pd a b) := rfl
  rw [r1]
  simp [startR, evalP, assignT, assignTs, isVal, putR, vals, heldS, look1, look2, look2r, prim1, prim2, arith, bindT, bindTs, Ev.bin, Ev.neg, endR, ofB, ofBs, isTy, isC, b2i, isObjD, plainR, eq_ii, b_law_ops_hold, e1, t1, t2, t3, eqE]
end
end Mn.Pf

set_option maxRecDepth 100000
set_option maxHeartbeats 2000000
namespace Mn.Pf
open PySem L2 NumText TL
set_option exponentiation.threshold 20000
variable {k : Nat}
theorem s_len8 : ∃ l : List Nat, ("0-/17 +." : Str).cps.toList = l ∧ l.length = 8 := ⟨_, rfl, rfl⟩
theorem rng6 : rangeD 0 6 = [.int 0, .int 1, .int 2, .int 3, .int 4, .int 5] := rfl
section
variable {a b : Int} (h : Sm a b) (hk : 20 ≤ k)
include h hk
theorem atI_some {α : Type} {l : List α} {i : Int} (h0 : 0 ≤ i) (h1 : i < l.length) : ∃ x, L2.atI l i = some x := by
  unfold L2.atI L2.ixN
  rw [if_pos h0, if_pos h1]
  have : i.toNat < l.length := by omega
  exact ⟨l[i.toNat], by simp [this]⟩
/-- one turn: three bent texts -/
theorem o12t (m n : Int) {x y z v c1 c2 a1 a2 w r u s s' : Option A} (hx : x = some (.ref 0)) : ∃ m' n' t1 t2, evalSs (ev pg k) [.par [.v 13, .v 7] [.call f_law_take [.var 0, .b1 .len 11], .p2 .idx (.k (.str "0-/17 +.")) (.call f_law_take [.var 0, .k (.int 8)])],
    .sif (.not (.p1 .all (.comp (.call f_law_reads_itself [.var 14]) (.v 14) (.p1 .item (.tup [.bin .add (.bin .add (.sl (.var 11) none (some (.var 13))) (.var 7)) (.sl (.var 11) (some (.var 13)) none), .bin .add (.sl (.var 11) none (some (.var 13))) (.sl (.var 11) (some (.bin .add (.var 13) (.k (.int 1)))) none), .bin .add (.bin .add (.sl (.var 11) none (some (.var 13))) (.var 7)) (.sl (.var 11) (some (.bin .add (.var 13) (.k (.int 1)))) none)])) none [14]))) [.ret (.k (.bl false))] []]
     [x, a1, a2, c1, c2, u, y, z, v, w, r, some (.val (.str (txt (pn a b) (pd a b)))), s, s', none] (stt m n) = .nx [x, a1, a2, c1, c2, u, y, t1, v, w, r, some (.val (.str (txt (pn a b) (pd a b)))), s, t2, none] (stt m' n') := by
  subst hx
  have e1 : (ev pg k).call = callM pg k := ev_call (by omega)
  obtain ⟨l1, l2⟩ := txt_small h hk
  generalize txt (pn a b) (pd a b) = T at *
  have lT : lenOk T.length = true := lenOk_of (by omega)
  obtain ⟨at_, A1, B1, k1, q1, q2⟩ := s_take (k := k) (by omega) (T.length : Int) (by omega) (by
    have : ((T.length : Int)).natAbs = T.length := by omega
    rw [this]
    exact Nat.lt_of_le_of_lt l1 (by decide +kernel)) m n
  obtain ⟨si, A2, B2, k2, q3, q4⟩ := s_take (k := k) (by omega) 8 (by decide) (by decide +kernel) A1 B1
  obtain ⟨c8, hc8, hl8⟩ := s_len8
  obtain ⟨ch, hch⟩ := atI_some h hk (l := c8) (i := si) q3 (by rw [hl8]; exact q4)
  rw [← hc8] at hch
  have l8 : lenOk ("0-/17 +." : Str).length = true := by decide
  have n1 : ∀ lo hi, (cutS T lo hi).length ≤ 100 := fun lo hi => Nat.le_trans (cutS_length T lo hi) l1
  have chl : (⟨#[ch]⟩ : Str).length = 1 := rfl
  have lA : ∀ lo hi lo' hi', lenOk ((cutS T lo hi).length + (cutS T lo' hi').length) = true := fun lo hi lo' hi' => lenOk_of (by have := n1 lo hi; have := n1 lo' hi'; omega)
  have lB : ∀ lo hi, lenOk ((cutS T lo hi).length + 1) = true := fun lo hi => lenOk_of (by have := n1 lo hi; omega)
  have lC : ∀ lo hi lo' hi', lenOk ((cutS T lo hi ++ (⟨#[ch]⟩ : Str)).length + (cutS T lo' hi').length) = true := fun lo hi lo' hi' => lenOk_of (by rw [app_len, chl]; have := n1 lo hi; have := n1 lo' hi'; omega)
  have it : ∀ (z : Str), z.length ≤ 100000 → callM pg k f_law_reads_itself [.val (.str z)] (stt A2 B2) = .ok (.val (.bl true)) (stt A2 B2) := fun z hz => s_itself (by omega) z hz _
  have i1 := it (cutS T none (some at_) ++ (⟨#[ch]⟩ : Str) ++ cutS T (some at_) none) (by rw [app_len, app_len, chl]; have := n1 none (some at_); have := n1 (some at_) none; omega)
  have i2 := it (cutS T none (some at_) ++ cutS T (some (at_ + 1)) none) (by rw [app_len]; have := n1 none (some at_); have := n1 (some (at_ + 1)) none; omega)
  have i3 := it (cutS T none (some at_) ++ (⟨#[ch]⟩ : Str) ++ cutS T (some (at_ + 1)) none) (by rw [app_len, app_len, chl]; have := n1 none (some at_); have := n1 (some (at_ + 1)) none; omega)
  have l3 : lenOk 3 = true := lenOk_of (by decide)
  refine ⟨A2, B2, some (.val (.str ⟨#[ch]⟩)), some (.val (.int at_)), ?_⟩
  simp [startR, evalP, assignT, assignTs, isVal, putR, vals, heldS, look1, look2, look2r, prim1, prim2, arith, bindT, bindTs, Ev.bin, Ev.neg, endR, ofB, ofBs, isTy, isC, b2i, isObjD, plainR, eq_ii, e1, lT, k1, k2, l8, hch, sliceD, chl, lA, lB, lC, i1, i2, i3, l3, items, compL_nil, compL_cons, compF, wipeR, allBl]
/-- six turns -/
theorem o12 (m n : Int) {y z v c1 c2 a1 a2 w r u : Option A} : ∃ m' n' t1 t2 t3, evalS (ev pg k) (oS 11) [some (.ref 0), a1, a2, c1, c2, u, y, z, v, w, r, some (.val (.str (txt (pn a b) (pd a b)))), none, none, none] (stt m n) =
    .nx [some (.ref 0), a1, a2, c1, c2, u, y, t1, v, w, r, some (.val (.str (txt (pn a b) (pd a b)))), t3, t2, none] (stt m' n') := by
  have s6 : small62 6 = true := by decide
  have key := forL_inv (f := forB (ev pg k) (.v 12) [.par [.v 13, .v 7] [.call f_law_take [.var 0, .b1 .len 11], .p2 .idx (.k (.str "0-/17 +.")) (.call f_law_take [.var 0, .k (.int 8)])],
    .sif (.not (.p1 .all (.comp (.call f_law_reads_itself [.var 14]) (.v 14) (.p1 .item (.tup [.bin .add (.bin .add (.sl (.var 11) none (some (.var 13))) (.var 7)) (.sl (.var 11) (some (.var 13)) none), .bin .add (.sl (.var 11) none (some (.var 13))) (.sl (.var 11) (some (.bin .add (.var 13) (.k (.int 1)))) none), .bin .add (.bin .add (.sl (.var 11) none (some (.var 13))) (.var 7)) (.sl (.var 11) (some (.bin .add (.var 13) (.k (.int 1)))) none)])) none [14]))) [.ret (.k (.bl false))] []])
    (fun _ ρ S => ∃ m n t1 t2 t3, S = stt m n ∧ ρ = [some (.ref 0), a1, a2, c1, c2, u, y, t1, v, w, r, some (.val (.str (txt (pn a b) (pd a b)))), t3, t2, none])
    (by
      rintro d l ρ S ⟨m, n, t1, t2, t3, rfl, rfl⟩
      obtain ⟨m', n', t1', t2', e⟩ := o12t h hk m n (x := some (.ref 0)) (z := t1) (s := some (.val d)) (s' := t2) (a1 := a1) (a2 := a2) (c1 := c1) (c2 := c2) (u := u) (y := y) (v := v) (w := w) (r := r) rfl
      exact ⟨_, _, (forB_s (by simp [bindT])).trans e, m', n', t1', t2', _, rfl, rfl⟩)
    (rangeD 0 6) _ _ ⟨m, n, z, none, none, rfl, rfl⟩
  obtain ⟨ρ1, S1, e, m', n', t1, t2, t3, rfl, rfl⟩ := key
  refine ⟨m', n', t1, t2, t3, ?_⟩
  show evalS (ev pg k) (.sfor (.v 12) (.p1 .rng (.k (.int 6))) _) _ _ = _
  rw [S_for]
  have ez : evalE (ev pg k) (.p1 .rng (.k (.int 6))) [some (.ref 0), a1, a2, c1, c2, u, y, z, v, w, r, some (.val (.str (txt (pn a b) (pd a b)))), none, none, none] (stt m n) = .ok (.val (.lst (rangeD 0 6))) (stt m n) := by
    simp [startR, evalP, assignT, assignTs, isVal, putR, vals, heldS, look1, look2, look2r, prim1, prim2, arith, bindT, bindTs, Ev.bin, Ev.neg, endR, ofB, ofBs, isTy, isC, b2i, isObjD, plainR, eq_ii, s6]
  rw [ez]
  exact e
theorem o13 (S : Sto) {x y z v c1 c2 w r t s s' b1 u : Option A} : evalS (ev pg k) (oS 12) [x, some (.val (.int a)), b1, c1, c2, some (.val (rt a b)), y, z, v, w, r, t, s, s', u] S = .rt (.val (.bl true)) S := by
  have e1 : (ev pg k).call = callM pg k := ev_call (by omega)
  have k4 : 4 ≤ k := by omega
  have t1 := s_as_int (k := k) (by omega) a S
  have i3 := s_is_rt (k := k) (by omega) (a := a) (b := 1) (n := a) (d := 1) (by decide) (by decide) (by decide +kernel) rfl S
  have t2 := s_as_rt (k := k) (by omega) (pn a b) (pd a b) S
  have eqE : (ev pg k).eq (.val (ro (pn a b) (pd a b))) (.val (ro (pn a b) (pd a b))) S false = .ok (.val (.bl true)) S := by
    simp [Ev.eq, eqN, eqNs, k4, isObjD, eqD_ro]
  have r1 : rt a b = ro (pn a b) (pd a b) := rfl
  rw [r1]
  simp [startR, evalP, assignT, assignTs, isVal, putR, vals, heldS, look1, look2, look2r, prim1, prim2, arith, bindT, bindTs, Ev.bin, Ev.neg, endR, ofB, ofBs, isTy, isC, b2i, isObjD, plainR, eq_ii, b_law_ops_hold, e1, t1, i3, t2, eqE]
end
theorem s_ops (hk : 21 ≤ k) (m n : Int) : ∃ m' n', callM pg k f_law_ops_hold [.ref 0] (stt m n) = .ok (.val (.bl true)) (stt m' n') := by
  obtain ⟨a, b, m1, n1, p1, ha, hb, hb'⟩ := s_pair (k := k - 1) (by omega) m n
  obtain ⟨c, d, m2, n2, p2, hc, hd, hd'⟩ := s_pair (k := k - 1) (by omega) m1 n1
  have h : Sm a b := ⟨ha, hb, hb'⟩
  have h' : Sm c d := ⟨hc, hd, hd'⟩
  obtain ⟨t, m3, n3, p3, ht0, ht1⟩ := s_take (k := k - 1) (by omega) 2 (by decide) (by decide +kernel) m2 n2
  have hs : 1 - 2 * t = 1 ∨ 1 - 2 * t = -1 := by omega
  have hk1 : 20 ≤ k - 1 := by omega
  have e1 : (ev pg (k - 1)).call = callM pg (k - 1) := ev_call (by omega)
  have mkA := s_mk (k := k - 1) (by omega) a b (stt m2 n2) h.big
  rw [if_neg h.b0] at mkA
  have mkC := s_mk (k := k - 1) (by omega) c d (stt m2 n2) h'.big
  rw [if_neg h'.b0] at mkC
  have m2t : mulOk 2 t = true := mulOk_l (by decide)
  have o1 : evalS (ev pg (k - 1)) (oS 0) (some (.ref 0) :: List.replicate 14 none) (stt m n) = .nx [some (.ref 0), some (.val (.int a)), some (.val (.int b)), some (.val (.int c)), some (.val (.int d)), none, none, none, none, none, none, none, none, none, none] (stt m2 n2) := by
    simp [startR, evalP, assignT, assignTs, isVal, putR, vals, heldS, look1, look2, look2r, prim1, prim2, arith, bindT, bindTs, Ev.bin, Ev.neg, endR, ofB, ofBs, isTy, isC, b2i, isObjD, plainR, eq_ii, b_law_ops_hold, e1, p1, p2, List.replicate]
  have o2 : evalS (ev pg (k - 1)) (oS 1) [some (.ref 0), some (.val (.int a)), some (.val (.int b)), some (.val (.int c)), some (.val (.int d)), none, none, none, none, none, none, none, none, none, none] (stt m2 n2) =
      .nx [some (.ref 0), some (.val (.int a)), some (.val (.int b)), some (.val (.int c)), some (.val (.int d)), some (.val (rt a b)), some (.val (rt c d)), some (.val (.int (1 - 2 * t))), none, none, none, none, none, none, none] (stt m3 n3) := by
    simp [startR, evalP, assignT, assignTs, isVal, putR, vals, heldS, look1, look2, look2r, prim1, prim2, arith, bindT, bindTs, Ev.bin, Ev.neg, endR, ofB, ofBs, isTy, isC, b2i, isObjD, plainR, eq_ii, b_law_ops_hold, e1, mkA, mkC, p3, m2t]
  obtain ⟨T, q5, q6⟩ := o56 h h' hk1 (stt m3 n3) (x := some (.ref 0)) (y := some (.val (.int (1 - 2 * t)))) (v := none) (w := none) (r := none) (t := none) (s := none) (s' := none) (z := none)
  obtain ⟨m4, n4, t1, t2, t3, q12⟩ := o12 h hk1 m3 n3 (a1 := some (.val (.int a))) (a2 := some (.val (.int b))) (c1 := some (.val (.int c))) (c2 := some (.val (.int d))) (u := some (.val (rt a b))) (y := some (.val (rt c d))) (z := some (.val (.int (1 - 2 * t)))) (v := some (.val T)) (w := some (.val (.int (pn a b)))) (r := some (.val (.int (pd a b))))
  refine ⟨m4, n4, ?_⟩
  rw [call_eq (fd := d_law_ops_hold) rfl (by omega)]
  have e0 : startR d_law_ops_hold [.ref 0] = some (some (.ref 0) :: List.replicate 14 none) := rfl
  have eb : d_law_ops_hold.body = b_law_ops_hold := rfl
  rw [e0, eb, ops_eq]
  simp only [Ss_cons, o1, o2, seq_nx, o3 h h' hk1 hs, o4 h h' hk1, q5, q6, o7 h h' hk1, o8 h hk1, o9 h hk1, o10 h hk1, o11 h hk1, q12, o13 h hk1, seq_rt]
  rfl
end Mn.Pf

set_option maxRecDepth 100000
set_option maxHeartbeats 2000000
namespace Mn.Pf
open PySem L2 NumText TL
set_option exponentiation.threshold 20000
variable {k : Nat}
/-! sums -/
structure SmL (w : Int × Int) : Prop where
  n : w.1.natAbs < 2 ^ 83
  p : 0 < w.2
  d : w.2.natAbs < 2 ^ 83
theorem Sm.l {a b : Int} (h : Sm a b) : SmL (a, b) := ⟨Nat.lt_of_lt_of_le h.n (Nat.pow_le_pow_right (by decide) (by decide : 41 ≤ 83)), h.p, Nat.lt_of_lt_of_le h.d (Nat.pow_le_pow_right (by decide) (by decide : 41 ≤ 83))⟩
def sumF : List (Int × Int) → Int → Int → Int × Int
  | [], n, d => (n, d)
  | p :: l, n, d => sumF l (n * p.2 + p.1 * d) (d * p.2)
def pairD (p : Int × Int) : D := .tup [.int p.1, .int p.2]
def rtD (p : Int × Int) : D := rt p.1 p.2
structure Bn (i : Nat) (n d : Int) : Prop where
  n : n.natAbs < 2 ^ (100 * i + 1)
  p : 0 < d
  d : d.natAbs < 2 ^ (100 * i + 1)
theorem pow_split (i j : Nat) : (2 : Nat) ^ (i + j) = 2 ^ i * 2 ^ j := Nat.pow_add 2 i j
theorem Bn.step {i : Nat} {n d : Int} {p : Int × Int} (h : Bn i n d) (hp : SmL p) : Bn (i + 1) (n * p.2 + p.1 * d) (d * p.2) := by
  have e : (2 : Nat) ^ (100 * (i + 1) + 1) = 2 ^ (100 * i + 1) * 2 ^ 100 := by
    rw [← Nat.pow_add]; congr 1
  have m1 : n.natAbs * p.2.natAbs ≤ 2 ^ (100 * i + 1) * 2 ^ 83 := Nat.mul_le_mul (Nat.le_of_lt h.n) (Nat.le_of_lt hp.d)
  have m2 : p.1.natAbs * d.natAbs ≤ 2 ^ 83 * 2 ^ (100 * i + 1) := Nat.mul_le_mul (Nat.le_of_lt hp.n) (Nat.le_of_lt h.d)
  have m3 : d.natAbs * p.2.natAbs ≤ 2 ^ (100 * i + 1) * 2 ^ 83 := Nat.mul_le_mul (Nat.le_of_lt h.d) (Nat.le_of_lt hp.d)
  have z : 0 < (2 : Nat) ^ (100 * i + 1) := Nat.pow_pos (by decide)
  refine ⟨?_, Int.mul_pos h.p hp.p, ?_⟩
  · have a1 : (n * p.2 + p.1 * d).natAbs ≤ (n * p.2).natAbs + (p.1 * d).natAbs := Int.natAbs_add_le _ _
    rw [Int.natAbs_mul, Int.natAbs_mul] at a1
    rw [e]
    generalize (2 : Nat) ^ (100 * i + 1) = Z at *
    generalize n.natAbs * p.2.natAbs = U at *
    generalize p.1.natAbs * d.natAbs = V at *
    omega
  · rw [Int.natAbs_mul, e]
    generalize (2 : Nat) ^ (100 * i + 1) = Z at *
    generalize d.natAbs * p.2.natAbs = U at *
    omega
theorem Bn.le {i : Nat} {n d : Int} (h : Bn i n d) (hi : i ≤ 30) : Bd n ∧ Bd d :=
  ⟨Bd_of h.n (by omega), Bd_of h.d (by omega)⟩
theorem SmL.bd {p : Int × Int} (h : SmL p) : Bd p.1 ∧ Bd p.2 := ⟨Bd_of h.n (by decide : 83 ≤ 4000), Bd_of h.d (by decide : 83 ≤ 4000)⟩
theorem sumF_bn : ∀ (l : List (Int × Int)) (i : Nat) (n d : Int), Bn i n d → (∀ p ∈ l, SmL p) → Bn (i + l.length) (sumF l n d).1 (sumF l n d).2
  | [], i, n, d, h, _ => h
  | p :: l, i, n, d, h, hl => by
    have := sumF_bn l (i + 1) _ _ (h.step (hl p List.mem_cons_self)) fun q hq => hl q (List.mem_cons_of_mem _ hq)
    rw [List.length_cons, show i + (l.length + 1) = i + 1 + l.length by omega]
    exact this
theorem cross_add' {a b c d : Int} (hb : b ≠ 0) (hd : d ≠ 0) : (pn a b * pd c d + pn c d * pd a b) * (b * d) = (a * d + c * b) * (pd a b * pd c d) := by
  have e1 := pn_mul (n := a) hb
  have e2 := pd_mul (n := a) hb
  have e3 := pn_mul (n := c) hd
  have e4 := pd_mul (n := c) hd
  generalize pn a b = p at *
  generalize pd a b = q at *
  generalize pn c d = p' at *
  generalize pd c d = q' at *
  generalize gI a b = g at *
  generalize gI c d = g' at *
  clear hb hd
  subst e1 e2 e3 e4
  grind
theorem cross_mul' {a b c d : Int} (hb : b ≠ 0) (hd : d ≠ 0) : (pn a b * pn c d) * (b * d) = (a * c) * (pd a b * pd c d) := by
  have e1 := pn_mul (n := a) hb
  have e2 := pd_mul (n := a) hb
  have e3 := pn_mul (n := c) hd
  have e4 := pd_mul (n := c) hd
  generalize pn a b = p at *
  generalize pd a b = q at *
  generalize pn c d = p' at *
  generalize pd c d = q' at *
  generalize gI a b = g at *
  generalize gI c d = g' at *
  clear hb hd
  subst e1 e2 e3 e4
  grind
theorem rt_eq {a b c d : Int} (hb : b ≠ 0) (hd : d ≠ 0) (e : a * d = c * b) : rt a b = rt c d := by
  obtain ⟨e1, e2⟩ := pl_cross hb hd e
  unfold rt
  rw [e1, e2]
/-- one step of the sum -/
theorem add_step (hk : 4 ≤ k) {i : Nat} (hi : i ≤ 30) {n d : Int} {p : Int × Int} (h : Bn i n d) (hp : SmL p) (S : Sto) :
    (ev pg k).bin .add (.val (rt n d)) (.val (rtD p)) S = .ok (.val (rt (n * p.2 + p.1 * d) (d * p.2))) S := by
  obtain ⟨b1, b2⟩ := h.le hi
  obtain ⟨b3, b4⟩ := hp.bd
  have d0 : d ≠ 0 := by have := h.p; omega
  have p0 : p.2 ≠ 0 := by have := hp.p; omega
  have q1 : pd n d ≠ 0 := by have := pd_pos (n := n) d0; omega
  have q2 : pd p.1 p.2 ≠ 0 := by have := pd_pos (n := p.1) p0; omega
  have w1 : Bd (pn n d) := Nat.lt_of_le_of_lt (pn_abs d0).1 b1
  have w2 : Bd (pd n d) := Nat.lt_of_le_of_lt (pn_abs d0).2 b2
  have w3 : Bd (pn p.1 p.2) := Nat.lt_of_le_of_lt (pn_abs p0).1 b3
  have w4 : Bd (pd p.1 p.2) := Nat.lt_of_le_of_lt (pn_abs p0).2 b4
  have a1 := s_add w1 w2 w3 w4 (k := k) hk q1 q2 S
  have e := rt_eq (Int.mul_ne_zero q1 q2) (Int.mul_ne_zero d0 p0) (cross_add' (a := n) (c := p.1) d0 p0)
  rw [e] at a1
  have r1 : rt n d = ro (pn n d) (pd n d) := rfl
  have r2 : rtD p = ro (pn p.1 p.2) (pd p.1 p.2) := rfl
  rw [r1, r2]
  have e1 : (ev pg k).call = callM pg k := ev_call (by omega)
  simp [startR, evalP, assignT, assignTs, isVal, putR, vals, heldS, look1, look2, look2r, prim1, prim2, arith, bindT, bindTs, Ev.bin, Ev.neg, endR, ofB, ofBs, isTy, isC, b2i, isObjD, plainR, eq_ii, e1, a1]
/-- ratio_sum -/
theorem s_rsum (hk : 6 ≤ k) (dd : D) (l : List (Int × Int)) (hd : prim1 pg .item dd = some (.lst (l.map rtD))) (hl : ∀ p ∈ l, SmL p) (hn : l.length ≤ 20) (S : Sto) : callM pg k f_ratio_sum [.val dd] S = .ok (.val (rt (sumF l 0 1).1 (sumF l 0 1).2)) S := by
  rw [call_eq (fd := d_ratio_sum) rfl (by omega)]
  have mk1 := s_mk1 (k := k - 1) (by omega) 0 S
  have loop : ∀ (l : List (Int × Int)) (i : Nat) (n d : Int) (x : Option A), i + l.length ≤ 30 → Bn i n d → (∀ p ∈ l, SmL p) → ∃ x', forL (forB (ev pg (k - 1)) (.v 2) [.set (.v 1) (.bin .add (.var 1) (.var 2))]) (l.map rtD) [some (.val dd), some (.val (rt n d)), x] S =
      .nx [some (.val dd), some (.val (rt (sumF l n d).1 (sumF l n d).2)), x'] S := by
    intro l
    induction l with
    | nil => intro i n d x _ _ _; exact ⟨x, rfl⟩
    | cons p l ih =>
      intro i n d x hi h hl
      rw [List.length_cons] at hi
      have hp := hl p List.mem_cons_self
      obtain ⟨x', e⟩ := ih (i + 1) _ _ (some (.val (rtD p))) (by omega) (h.step hp) fun q hq => hl q (List.mem_cons_of_mem _ hq)
      refine ⟨x', ?_⟩
      rw [List.map_cons]
      have a1 := add_step (k := k - 1) (by omega) (by omega) h hp S
      have st : forB (ev pg (k - 1)) (.v 2) [.set (.v 1) (.bin .add (.var 1) (.var 2))] (rtD p) [some (.val dd), some (.val (rt n d)), x] S = .nx [some (.val dd), some (.val (rt (n * p.2 + p.1 * d) (d * p.2))), some (.val (rtD p))] S := by
        rw [forB_s (ρ1 := [some (.val dd), some (.val (rt n d)), some (.val (rtD p))]) (by simp [bindT])]
        simp [evalP, assignT, isVal, putR, a1]
      rw [forL_nx st]
      exact e
  obtain ⟨x', e⟩ := loop l 0 0 1 none (by omega) ⟨by decide, by decide, by decide⟩ hl
  have lk : look1 pg .item (.val dd) = some (.lst (l.map rtD)) := hd
  simp [startR, d_ratio_sum, b_ratio_sum, evalP, assignT, isVal, putR, mk1, heldS, lk, e, endR]
end Mn.Pf

set_option maxRecDepth 100000
set_option maxHeartbeats 2000000
namespace Mn.Pf
open PySem L2 NumText TL
set_option exponentiation.threshold 20000
variable {k : Nat}
def mulP (L M : List (Int × Int)) : List (Int × Int) := (L.zip M).map fun r => (r.1.1 * r.2.1, r.1.2 * r.2.2)
theorem zipD_map {f g : Int × Int → D} : ∀ (L M : List (Int × Int)), zipD (L.map f) (M.map g) = (L.zip M).map fun r => D.tup [f r.1, g r.2]
  | [], M => by simp [zipD]
  | _ :: _, [] => by simp [zipD]
  | p :: L, q :: M => by simp [zipD, zipD_map L M]
def SmP (p : Int × Int) : Prop := Sm p.1 p.2
theorem mulP_sml {L M : List (Int × Int)} (hL : ∀ p ∈ L, SmP p) (hM : ∀ p ∈ M, SmP p) : ∀ p ∈ mulP L M, SmL p := by
  intro p hp
  obtain ⟨r, hr, rfl⟩ := List.mem_map.mp hp
  have h1 := hL _ (List.of_mem_zip (a := r.1) (b := r.2) (by simpa using hr)).1
  have h2 := hM _ (List.of_mem_zip (a := r.1) (b := r.2) (by simpa using hr)).2
  have m : ∀ {x y : Int}, x.natAbs < 2 ^ 41 → y.natAbs < 2 ^ 41 → (x * y).natAbs < 2 ^ 83 := fun {x y} hx hy => by
    rw [Int.natAbs_mul]
    have : x.natAbs * y.natAbs ≤ 2 ^ 41 * 2 ^ 41 := Nat.mul_le_mul (Nat.le_of_lt hx) (Nat.le_of_lt hy)
    exact Nat.lt_of_le_of_lt this (by decide)
  exact ⟨m h1.n h2.n, Int.mul_pos h1.p h2.p, m h1.d h2.d⟩
theorem mul_step (hk : 4 ≤ k) {p q : Int × Int} (h : SmP p) (h' : SmP q) (S : Sto) : (ev pg k).bin .mul (.val (rtD p)) (.val (rtD q)) S = .ok (.val (rtD (p.1 * q.1, p.2 * q.2))) S := by
  have h : Sm p.1 p.2 := h
  have h' : Sm q.1 q.2 := h'
  have a1 := s_mul h.bpn h.bpd h'.bpn h'.bpd (k := k) hk h.pd0 h'.pd0 S
  have e := rt_eq (Int.mul_ne_zero h.pd0 h'.pd0) (Int.mul_ne_zero h.b0 h'.b0) (cross_mul' (a := p.1) (c := q.1) h.b0 h'.b0)
  rw [e] at a1
  have r1 : rtD p = ro (pn p.1 p.2) (pd p.1 p.2) := rfl
  have r2 : rtD q = ro (pn q.1 q.2) (pd q.1 q.2) := rfl
  have r3 : rtD (p.1 * q.1, p.2 * q.2) = rt (p.1 * q.1) (p.2 * q.2) := rfl
  rw [r1, r2, r3]
  have e1 : (ev pg k).call = callM pg k := ev_call (by omega)
  simp [startR, evalP, assignT, assignTs, isVal, putR, vals, heldS, look1, look2, look2r, prim1, prim2, arith, bindT, bindTs, Ev.bin, Ev.neg, endR, ofB, ofBs, isTy, isC, b2i, isObjD, plainR, eq_ii, e1, a1]
theorem s_rdot (hk : 7 ≤ k) (L M : List (Int × Int)) (hL : ∀ p ∈ L, SmP p) (hM : ∀ p ∈ M, SmP p) (hn : L.length ≤ 20) (S : Sto) :
    callM pg k f_ratio_dot [.val (.tup (L.map rtD)), .val (.tup (M.map rtD))] S = .ok (.val (rt (sumF (mulP L M) 0 1).1 (sumF (mulP L M) 0 1).2)) S := by
  rw [call_eq (fd := d_ratio_dot) rfl (by omega)]
  have e1 : (ev pg (k - 1)).call = callM pg (k - 1) := ev_call (by omega)
  have hlen : (mulP L M).length ≤ 20 := by unfold mulP; rw [List.length_map, List.length_zip]; omega
  have e2 := s_rsum (k := k - 1) (by omega) (.lst ((mulP L M).map rtD)) (mulP L M) rfl (mulP_sml hL hM) hlen S
  have hc : compL (compF (ev pg (k - 1)) (.bin .mul (.var 2) (.var 3)) (.tup [.v 2, .v 3]) [2, 3] [some (.val (.tup (L.map rtD))), some (.val (.tup (M.map rtD))), none, none]) ((L.zip M).map fun r => D.tup [rtD r.1, rtD r.2]) S = .ok ((L.zip M).map fun r => rtD (r.1.1 * r.2.1, r.1.2 * r.2.2)) S := by
    refine compL_mapc fun r hr => ?_
    have h1 := hL _ (List.of_mem_zip (a := r.1) (b := r.2) (by simpa using hr)).1
    have h2 := hM _ (List.of_mem_zip (a := r.1) (b := r.2) (by simpa using hr)).2
    have m := mul_step (k := k - 1) (by omega) h1 h2 S
    simp [compF, wipeR, bindT, bindTs, m]
  have em : ((L.zip M).map fun r => rtD (r.1.1 * r.2.1, r.1.2 * r.2.2)) = (mulP L M).map rtD := by
    unfold mulP; rw [List.map_map]; rfl
  rw [em] at hc
  have hl : lenOk (mulP L M).length = true := lenOk_of (by omega)
  simp [startR, d_ratio_dot, b_ratio_dot, prim2, zipD_map, hc, hl, e1, e2, endR]
theorem allBl_true {α : Type} : ∀ {l : List α}, allBl (l.map fun _ => D.bl true) = some true
  | [] => rfl
  | _ :: l => by rw [List.map_cons, allBl, allBl_true]; rfl
theorem s_are (hk : 2 ≤ k) (L : List (Int × Int)) (hn : L.length ≤ 20) (S : Sto) : callM pg k f_are_ratios [.val (.tup (L.map rtD))] S = .ok (.val (.bl true)) S := by
  rw [call_eq (fd := d_are_ratios) rfl (by omega)]
  have hc : compL (compF (ev pg (k - 1)) (.b1 (.isObj c_Ratio) 1) (.v 1) [1] [some (.val (.tup (L.map rtD))), none]) (L.map rtD) S = .ok (L.map fun _ => D.bl true) S := by
    refine compL_mapc fun p hp => ?_
    simp [compF, wipeR, bindT, heldS, look1, prim1, isC, rtD, rt]
  have hl : lenOk L.length = true := lenOk_of (by omega)
  have ha := allBl_true (l := L)
  have it : prim1 pg .item (.tup (L.map rtD)) = some (.lst (L.map rtD)) := rfl
  simp [startR, d_are_ratios, b_are_ratios, heldS, look1, prim1, isTy, items, hc, hl, ha, endR]
/-! the law's sums -/
theorem pairs_comp (hk : 3 ≤ k) (ρ : Rho) (h0 : ρ[0]? = some (some (.ref 0))) (hlen : ρ.length = 14) : ∀ (l : List D) (m n : Int), ∃ (L : List (Int × Int)) (m' n' : Int), compL (compF (ev pg k) (.call f_law_pair [.var 0]) (.v 13) [13] ρ) l (stt m n) = .ok (L.map pairD) (stt m' n') ∧ L.length = l.length ∧ ∀ p ∈ L, SmP p
  | [], m, n => ⟨[], m, n, rfl, rfl, fun p hp => nomatch hp⟩
  | d :: l, m, n => by
    obtain ⟨a, b, m1, n1, p1, ha, hb, hb'⟩ := s_pair (k := k) (by omega) m n
    obtain ⟨L, m2, n2, e, hl, hL⟩ := pairs_comp hk ρ h0 hlen l m1 n1
    refine ⟨(a, b) :: L, m2, n2, ?_, by simp [hl], fun p hp => ?_⟩
    · have e1 : (ev pg k).call = callM pg k := ev_call (by omega)
      have hb : bindT (.v 13) d (wipeR ρ [13]) = some ((ρ.set 13 none).set 13 (some (.val d))) := by
        simp [bindT, wipeR, hlen]
      have g0 : ((ρ.set 13 none).set 13 (some (.val d)))[0]? = some (some (.ref 0)) := by
        rw [List.getElem?_set_ne (by decide), List.getElem?_set_ne (by decide)]; exact h0
      rw [compL_cons, compF_s hb]
      simp [h0, e1, p1, e, pairD]
    · rcases List.mem_cons.mp hp with rfl | hp
      · exact ⟨ha, hb, hb'⟩
      · exact hL p hp
abbrev uS (i : Nat) : Mn.S := b_law_sums_hold.getD i .pass
theorem sums_eq : b_law_sums_hold = [uS 0, uS 1, uS 2, uS 3, uS 4, uS 5, uS 6] := rfl
theorem rangeD_len (n : Nat) : (rangeD 0 n).length = n := by simp [rangeD]
/-- the sum's loop -/
theorem u4 (S : Sto) {x0 x1 x2 x5 x6 x9 x10 x11 x12 x13 : Option A} : ∀ (L : List (Int × Int)) (i : Nat) (n d : Int) (x7 x8 : Option A), i + L.length ≤ 30 → Bn i n d → (∀ p ∈ L, SmL p) → ∃ x7' x8', forL (forB (ev pg k) (.tup [.v 7, .v 8]) [.par [.v 3, .v 4] [.bin .add (.bin .mul (.var 3) (.var 8)) (.bin .mul (.var 7) (.var 4)), .bin .mul (.var 4) (.var 8)]]) (L.map pairD)
      [x0, x1, x2, some (.val (.int n)), some (.val (.int d)), x5, x6, x7, x8, x9, x10, x11, x12, x13] S = .nx [x0, x1, x2, some (.val (.int (sumF L n d).1)), some (.val (.int (sumF L n d).2)), x5, x6, x7', x8', x9, x10, x11, x12, x13] S
  | [], i, n, d, x7, x8, _, _, _ => ⟨x7, x8, rfl⟩
  | p :: L, i, n, d, x7, x8, hi, h, hL => by
    rw [List.length_cons] at hi
    have hp := hL p List.mem_cons_self
    obtain ⟨y7, y8, e⟩ := u4 S L (i + 1) _ _ (some (.val (.int p.1))) (some (.val (.int p.2))) (by omega) (h.step hp) fun q hq => hL q (List.mem_cons_of_mem _ hq)
    refine ⟨y7, y8, ?_⟩
    obtain ⟨b1, b2⟩ := h.le (by omega)
    obtain ⟨b3, b4⟩ := hp.bd
    rw [List.map_cons]
    have st : forB (ev pg k) (.tup [.v 7, .v 8]) [.par [.v 3, .v 4] [.bin .add (.bin .mul (.var 3) (.var 8)) (.bin .mul (.var 7) (.var 4)), .bin .mul (.var 4) (.var 8)]] (pairD p) [x0, x1, x2, some (.val (.int n)), some (.val (.int d)), x5, x6, x7, x8, x9, x10, x11, x12, x13] S =
        .nx [x0, x1, x2, some (.val (.int (n * p.2 + p.1 * d))), some (.val (.int (d * p.2))), x5, x6, some (.val (.int p.1)), some (.val (.int p.2)), x9, x10, x11, x12, x13] S := by
      rw [forB_s (ρ1 := [x0, x1, x2, some (.val (.int n)), some (.val (.int d)), x5, x6, some (.val (.int p.1)), some (.val (.int p.2)), x9, x10, x11, x12, x13]) (by simp [pairD, bindT, bindTs])]
      simp [startR, evalP, assignT, assignTs, isVal, putR, vals, heldS, look1, look2, look2r, prim1, prim2, arith, bindT, bindTs, Ev.bin, Ev.neg, endR, ofB, ofBs, isTy, isC, b2i, isObjD, plainR, eq_ii, mulOk_of b1 b4, mulOk_of b3 b2, mulOk_of b2 b4]
    rw [forL_nx st]
    exact e
/-- the products' loop -/
theorem u5 (S : Sto) {x0 x1 x2 x3 x4 x11 x12 x13 : Option A} : ∀ (L : List ((Int × Int) × (Int × Int))) (i : Nat) (n d : Int) (x7 x8 x9 x10 : Option A), i + L.length ≤ 30 → Bn i n d → (∀ r ∈ L, SmP r.1 ∧ SmP r.2) → ∃ x7' x8' x9' x10', forL (forB (ev pg k) (.tup [.tup [.v 7, .v 8], .tup [.v 9, .v 10]]) [.par [.v 5, .v 6] [.bin .add (.bin .mul (.bin .mul (.var 5) (.var 8)) (.var 10)) (.bin .mul (.bin .mul (.var 7) (.var 9)) (.var 6)), .bin .mul (.bin .mul (.var 6) (.var 8)) (.var 10)]]) (L.map fun r => D.tup [pairD r.1, pairD r.2])
      [x0, x1, x2, x3, x4, some (.val (.int n)), some (.val (.int d)), x7, x8, x9, x10, x11, x12, x13] S = .nx [x0, x1, x2, x3, x4, some (.val (.int (sumF (L.map fun r => (r.1.1 * r.2.1, r.1.2 * r.2.2)) n d).1)), some (.val (.int (sumF (L.map fun r => (r.1.1 * r.2.1, r.1.2 * r.2.2)) n d).2)), x7', x8', x9', x10', x11, x12, x13] S
  | [], i, n, d, x7, x8, x9, x10, _, _, _ => ⟨x7, x8, x9, x10, rfl⟩
  | r :: L, i, n, d, x7, x8, x9, x10, hi, h, hL => by
    rw [List.length_cons] at hi
    obtain ⟨h1, h2⟩ := hL r List.mem_cons_self
    have h1 : Sm r.1.1 r.1.2 := h1
    have h2 : Sm r.2.1 r.2.2 := h2
    have hp : SmL (r.1.1 * r.2.1, r.1.2 * r.2.2) := mulP_sml (L := [r.1]) (M := [r.2]) (fun p hp => by simp at hp; subst hp; exact h1) (fun p hp => by simp at hp; subst hp; exact h2) _ (by simp [mulP])
    obtain ⟨y7, y8, y9, y10, e⟩ := u5 S L (i + 1) _ _ (some (.val (.int r.1.1))) (some (.val (.int r.1.2))) (some (.val (.int r.2.1))) (some (.val (.int r.2.2))) (by omega) (h.step hp) fun q hq => hL q (List.mem_cons_of_mem _ hq)
    refine ⟨y7, y8, y9, y10, ?_⟩
    obtain ⟨b1, b2⟩ := h.le (by omega)
    obtain ⟨b3, b4⟩ := hp.bd
    have c1 : Bd (n * r.1.2) := by
      have q1 := h.n
      have q2 := h1.d
      have z : (n * r.1.2).natAbs < 2 ^ (100 * i + 1 + 41) := by
        rw [Int.natAbs_mul, Nat.pow_add]
        exact Nat.mul_lt_mul_of_lt_of_lt q1 q2
      exact Bd_of z (by omega)
    have c2 : Bd (d * r.1.2) := by
      have q1 := h.d
      have q2 := h1.d
      have z : (d * r.1.2).natAbs < 2 ^ (100 * i + 1 + 41) := by
        rw [Int.natAbs_mul, Nat.pow_add]
        exact Nat.mul_lt_mul_of_lt_of_lt q1 q2
      exact Bd_of z (by omega)
    rw [List.map_cons, List.map_cons]
    have a1 : n * r.1.2 * r.2.2 = n * (r.1.2 * r.2.2) := Int.mul_assoc _ _ _
    have a2 : d * r.1.2 * r.2.2 = d * (r.1.2 * r.2.2) := Int.mul_assoc _ _ _
    have st : forB (ev pg k) (.tup [.tup [.v 7, .v 8], .tup [.v 9, .v 10]]) [.par [.v 5, .v 6] [.bin .add (.bin .mul (.bin .mul (.var 5) (.var 8)) (.var 10)) (.bin .mul (.bin .mul (.var 7) (.var 9)) (.var 6)), .bin .mul (.bin .mul (.var 6) (.var 8)) (.var 10)]] (.tup [pairD r.1, pairD r.2]) [x0, x1, x2, x3, x4, some (.val (.int n)), some (.val (.int d)), x7, x8, x9, x10, x11, x12, x13] S =
        .nx [x0, x1, x2, x3, x4, some (.val (.int (n * (r.1.2 * r.2.2) + r.1.1 * r.2.1 * d))), some (.val (.int (d * (r.1.2 * r.2.2)))), some (.val (.int r.1.1)), some (.val (.int r.1.2)), some (.val (.int r.2.1)), some (.val (.int r.2.2)), x11, x12, x13] S := by
      rw [forB_s (ρ1 := [x0, x1, x2, x3, x4, some (.val (.int n)), some (.val (.int d)), some (.val (.int r.1.1)), some (.val (.int r.1.2)), some (.val (.int r.2.1)), some (.val (.int r.2.2)), x11, x12, x13]) (by simp [pairD, bindT, bindTs])]
      simp [startR, evalP, assignT, assignTs, isVal, putR, vals, heldS, look1, look2, look2r, prim1, prim2, arith, bindT, bindTs, Ev.bin, Ev.neg, endR, ofB, ofBs, isTy, isC, b2i, isObjD, plainR, eq_ii, mulOk_of b1 h1.bd, mulOk_of c1 h2.bd, mulOk_of h1.bn h2.bn, mulOk_of b3 b2, mulOk_of b2 h1.bd, mulOk_of c2 h2.bd, a1, a2]
    rw [forL_nx st]
    exact e
end Mn.Pf

set_option maxRecDepth 100000
set_option maxHeartbeats 2000000
namespace Mn.Pf
open PySem L2 NumText TL
set_option exponentiation.threshold 20000
variable {k : Nat}
theorem s_sums (hk : 21 ≤ k) (m n : Int) : ∃ m' n', callM pg k f_law_sums_hold [.ref 0] (stt m n) = .ok (.val (.bl true)) (stt m' n') := by
  have e1 : (ev pg (k - 1)).call = callM pg (k - 1) := ev_call (by omega)
  -- the first pairs
  obtain ⟨v, m1, n1, t1, v0, v1⟩ := s_take (k := k - 1) (by omega) 5 (by decide) (by decide +kernel) m n
  obtain ⟨L, m2, n2, c1, hL, sL⟩ := pairs_comp (k := k - 1) (by omega) (some (.ref 0) :: List.replicate 13 none) rfl rfl (rangeD 0 v.toNat) m1 n1
  rw [rangeD_len] at hL
  obtain ⟨v', m3, n3, t2, v0', v1'⟩ := s_take (k := k - 1) (by omega) 5 (by decide) (by decide +kernel) m2 n2
  obtain ⟨M, m4, n4, c2, hM, sM⟩ := pairs_comp (k := k - 1) (by omega) (some (.ref 0) :: some (.val (.lst (L.map pairD))) :: List.replicate 12 none) rfl rfl (rangeD 0 v'.toNat) m3 n3
  rw [rangeD_len] at hM
  have l1 : L.length ≤ 4 := by omega
  have l2 : M.length ≤ 4 := by omega
  have lk1 : lenOk L.length = true := lenOk_of (by omega)
  have lk2 : lenOk M.length = true := lenOk_of (by omega)
  have sm1 : small62 v = true := by unfold small62; simp; omega
  have sm2 : small62 v' = true := by unfold small62; simp; omega
  have smL : ∀ p ∈ L, SmL p := fun p hp => (show Sm p.1 p.2 from sL p hp).l
  have b0 : Bn 0 0 1 := ⟨by decide, by decide, by decide⟩
  have q0 : evalS (ev pg (k - 1)) (uS 0) (some (.ref 0) :: List.replicate 13 none) (stt m n) = .nx (some (.ref 0) :: some (.val (.lst (L.map pairD))) :: List.replicate 12 none) (stt m2 n2) := by
    have c1 := c1
    simp only [List.replicate] at c1 ⊢
    simp [startR, evalP, assignT, assignTs, isVal, putR, vals, heldS, look1, look2, look2r, prim1, prim2, arith, bindT, bindTs, Ev.bin, Ev.neg, endR, ofB, ofBs, isTy, isC, b2i, isObjD, plainR, eq_ii, b_law_sums_hold, e1, t1, sm1, c1, lk1]
  have q1 : evalS (ev pg (k - 1)) (uS 1) (some (.ref 0) :: some (.val (.lst (L.map pairD))) :: List.replicate 12 none) (stt m2 n2) = .nx [some (.ref 0), some (.val (.lst (L.map pairD))), some (.val (.lst (M.map pairD))), none, none, none, none, none, none, none, none, none, none, none] (stt m4 n4) := by
    have c2 := c2
    simp only [List.replicate] at c2 ⊢
    simp [startR, evalP, assignT, assignTs, isVal, putR, vals, heldS, look1, look2, look2r, prim1, prim2, arith, bindT, bindTs, Ev.bin, Ev.neg, endR, ofB, ofBs, isTy, isC, b2i, isObjD, plainR, eq_ii, b_law_sums_hold, e1, t2, sm2, c2, lk2]
  have q2 : evalS (ev pg (k - 1)) (uS 2) [some (.ref 0), some (.val (.lst (L.map pairD))), some (.val (.lst (M.map pairD))), none, none, none, none, none, none, none, none, none, none, none] (stt m4 n4) =
      .nx [some (.ref 0), some (.val (.lst (L.map pairD))), some (.val (.lst (M.map pairD))), some (.val (.int 0)), some (.val (.int 1)), some (.val (.int 0)), some (.val (.int 1)), none, none, none, none, none, none, none] (stt m4 n4) := by
    simp [startR, evalP, assignT, assignTs, isVal, putR, vals, heldS, look1, look2, look2r, prim1, prim2, arith, bindT, bindTs, Ev.bin, Ev.neg, endR, ofB, ofBs, isTy, isC, b2i, isObjD, plainR, eq_ii, b_law_sums_hold]
  obtain ⟨x7, x8, f4⟩ := u4 (k := k - 1) (stt m4 n4) (x0 := some (.ref 0)) (x1 := some (.val (.lst (L.map pairD)))) (x2 := some (.val (.lst (M.map pairD)))) (x5 := some (.val (.int 0))) (x6 := some (.val (.int 1))) (x9 := none) (x10 := none) (x11 := none) (x12 := none) (x13 := none) L 0 0 1 none none (by omega) b0 smL
  have lz : (L.zip M).length ≤ 4 := by rw [List.length_zip]; omega
  obtain ⟨y7, y8, y9, y10, f5⟩ := u5 (k := k - 1) (stt m4 n4) (x0 := some (.ref 0)) (x1 := some (.val (.lst (L.map pairD)))) (x2 := some (.val (.lst (M.map pairD)))) (x3 := some (.val (.int (sumF L 0 1).1))) (x4 := some (.val (.int (sumF L 0 1).2))) (x11 := none) (x12 := none) (x13 := none) (L.zip M) 0 0 1 x7 x8 none none (by omega) b0
    (fun r hr => ⟨sL _ (List.of_mem_zip (a := r.1) (b := r.2) (by simpa using hr)).1, sM _ (List.of_mem_zip (a := r.1) (b := r.2) (by simpa using hr)).2⟩)
  have em : (L.zip M).map (fun r => (r.1.1 * r.2.1, r.1.2 * r.2.2)) = mulP L M := rfl
  rw [em] at f5
  have q3 : evalS (ev pg (k - 1)) (uS 3) [some (.ref 0), some (.val (.lst (L.map pairD))), some (.val (.lst (M.map pairD))), some (.val (.int 0)), some (.val (.int 1)), some (.val (.int 0)), some (.val (.int 1)), none, none, none, none, none, none, none] (stt m4 n4) =
      .nx [some (.ref 0), some (.val (.lst (L.map pairD))), some (.val (.lst (M.map pairD))), some (.val (.int (sumF L 0 1).1)), some (.val (.int (sumF L 0 1).2)), some (.val (.int 0)), some (.val (.int 1)), x7, x8, none, none, none, none, none] (stt m4 n4) := by
    simp [startR, evalP, assignT, assignTs, isVal, putR, vals, heldS, look1, look2, look2r, prim1, prim2, arith, bindT, bindTs, Ev.bin, Ev.neg, endR, ofB, ofBs, isTy, isC, b2i, isObjD, plainR, eq_ii, b_law_sums_hold, items, f4]
  have q4 : evalS (ev pg (k - 1)) (uS 4) [some (.ref 0), some (.val (.lst (L.map pairD))), some (.val (.lst (M.map pairD))), some (.val (.int (sumF L 0 1).1)), some (.val (.int (sumF L 0 1).2)), some (.val (.int 0)), some (.val (.int 1)), x7, x8, none, none, none, none, none] (stt m4 n4) =
      .nx [some (.ref 0), some (.val (.lst (L.map pairD))), some (.val (.lst (M.map pairD))), some (.val (.int (sumF L 0 1).1)), some (.val (.int (sumF L 0 1).2)), some (.val (.int (sumF (mulP L M) 0 1).1)), some (.val (.int (sumF (mulP L M) 0 1).2)), y7, y8, y9, y10, none, none, none] (stt m4 n4) := by
    simp [startR, evalP, assignT, assignTs, isVal, putR, vals, heldS, look1, look2, look2r, prim1, prim2, arith, bindT, bindTs, Ev.bin, Ev.neg, endR, ofB, ofBs, isTy, isC, b2i, isObjD, plainR, eq_ii, b_law_sums_hold, zipD_map, f5]
  -- the lists of fractions
  have rc : ∀ (N : List (Int × Int)) (ρ : Rho), (∀ p ∈ N, SmP p) → ρ.length = 14 → compL (compF (ev pg (k - 1)) (.mk c_Ratio [.var 7, .var 8]) (.tup [.v 7, .v 8]) [7, 8] ρ) (N.map pairD) (stt m4 n4) = .ok (N.map rtD) (stt m4 n4) := by
    intro N ρ hN hρ
    refine compL_mapc fun p hp => ?_
    have h : Sm p.1 p.2 := hN p hp
    have mk := s_mk (k := k - 1) (by omega) p.1 p.2 (stt m4 n4) h.big
    rw [if_neg h.b0] at mk
    have hb : bindT (.tup [.v 7, .v 8]) (pairD p) (wipeR ρ [7, 8]) = some ((((ρ.set 8 none).set 7 none).set 7 (some (.val (.int p.1)))).set 8 (some (.val (.int p.2)))) := by
      simp [pairD, bindT, bindTs, wipeR, hρ]
    have g7 : ((((ρ.set 8 none).set 7 none).set 7 (some (.val (.int p.1)))).set 8 (some (.val (.int p.2))))[7]? = some (some (.val (.int p.1))) := by
      rw [List.getElem?_set_ne (by decide), List.getElem?_set_self (by simp [hρ])]
    have g8 : ((((ρ.set 8 none).set 7 none).set 7 (some (.val (.int p.1)))).set 8 (some (.val (.int p.2))))[8]? = some (some (.val (.int p.2))) := by
      rw [List.getElem?_set_self (by simp [hρ])]
    rw [compF_s hb]
    generalize (((ρ.set 8 none).set 7 none).set 7 (some (.val (.int p.1)))).set 8 (some (.val (.int p.2))) = ρ1 at *
    simp [g7, g8, mk, rtD]
  have q5 : evalS (ev pg (k - 1)) (uS 5) [some (.ref 0), some (.val (.lst (L.map pairD))), some (.val (.lst (M.map pairD))), some (.val (.int (sumF L 0 1).1)), some (.val (.int (sumF L 0 1).2)), some (.val (.int (sumF (mulP L M) 0 1).1)), some (.val (.int (sumF (mulP L M) 0 1).2)), y7, y8, y9, y10, none, none, none] (stt m4 n4) =
      .nx [some (.ref 0), some (.val (.lst (L.map pairD))), some (.val (.lst (M.map pairD))), some (.val (.int (sumF L 0 1).1)), some (.val (.int (sumF L 0 1).2)), some (.val (.int (sumF (mulP L M) 0 1).1)), some (.val (.int (sumF (mulP L M) 0 1).2)), y7, y8, y9, y10, some (.val (.tup (L.map rtD))), some (.val (.tup (M.map rtD))), none] (stt m4 n4) := by
    have r1 := rc L [some (.ref 0), some (.val (.lst (L.map pairD))), some (.val (.lst (M.map pairD))), some (.val (.int (sumF L 0 1).1)), some (.val (.int (sumF L 0 1).2)), some (.val (.int (sumF (mulP L M) 0 1).1)), some (.val (.int (sumF (mulP L M) 0 1).2)), y7, y8, y9, y10, none, none, none] sL rfl
    have r2 := rc M [some (.ref 0), some (.val (.lst (L.map pairD))), some (.val (.lst (M.map pairD))), some (.val (.int (sumF L 0 1).1)), some (.val (.int (sumF L 0 1).2)), some (.val (.int (sumF (mulP L M) 0 1).1)), some (.val (.int (sumF (mulP L M) 0 1).2)), y7, y8, y9, y10, none, none, none] sM rfl
    simp [startR, evalP, assignT, assignTs, isVal, putR, vals, heldS, look1, look2, look2r, prim1, prim2, arith, bindT, bindTs, Ev.bin, Ev.neg, endR, ofB, ofBs, isTy, isC, b2i, isObjD, plainR, eq_ii, b_law_sums_hold, items, r1, r2, lk1, lk2]
  have bn1 := sumF_bn L 0 0 1 b0 smL
  have bn2 := sumF_bn (mulP L M) 0 0 1 b0 (mulP_sml sL sM)
  have lmp : (mulP L M).length ≤ 4 := by unfold mulP; rw [List.length_map]; exact lz
  have big : ∀ {i : Nat} {n d : Int}, Bn i n d → i ≤ 30 → d ≠ 0 ∧ d.natAbs < 2 ^ 9000 := fun {i n d} h hi => ⟨by have := h.p; omega, Nat.lt_of_lt_of_le h.d (Nat.pow_le_pow_right (by decide) (by omega))⟩
  obtain ⟨z1, z2⟩ := big bn1 (by omega)
  obtain ⟨z3, z4⟩ := big bn2 (by omega)
  have a1 := s_rsum (k := k - 1) (by omega) (.tup (L.map rtD)) L rfl smL (by omega) (stt m4 n4)
  have a2 := s_rdot (k := k - 1) (by omega) L M sL sM (by omega) (stt m4 n4)
  have a3 := s_are (k := k - 1) (by omega) L (by omega) (stt m4 n4)
  have i1 := s_is_rt (k := k - 1) (by omega) z1 z1 z2 rfl (stt m4 n4) (a := (sumF L 0 1).1) (n := (sumF L 0 1).1)
  have i2 := s_is_rt (k := k - 1) (by omega) z3 z3 z4 rfl (stt m4 n4) (a := (sumF (mulP L M) 0 1).1) (n := (sumF (mulP L M) 0 1).1)
  have y := s_says (k := k - 1) (by omega) true true (stt m4 n4)
  refine ⟨m4, n4, ?_⟩
  rw [call_eq (fd := d_law_sums_hold) rfl (by omega)]
  have es : startR d_law_sums_hold [.ref 0] = some (some (.ref 0) :: List.replicate 13 none) := rfl
  have eb : d_law_sums_hold.body = b_law_sums_hold := rfl
  have q6 : evalS (ev pg (k - 1)) (uS 6) [some (.ref 0), some (.val (.lst (L.map pairD))), some (.val (.lst (M.map pairD))), some (.val (.int (sumF L 0 1).1)), some (.val (.int (sumF L 0 1).2)), some (.val (.int (sumF (mulP L M) 0 1).1)), some (.val (.int (sumF (mulP L M) 0 1).2)), y7, y8, y9, y10, some (.val (.tup (L.map rtD))), some (.val (.tup (M.map rtD))), none] (stt m4 n4) = .rt (.val (.bl true)) (stt m4 n4) := by
    generalize (sumF L 0 1).1 = A1 at *
    generalize (sumF L 0 1).2 = A2 at *
    generalize (sumF (mulP L M) 0 1).1 = A3 at *
    generalize (sumF (mulP L M) 0 1).2 = A4 at *
    simp [startR, evalP, assignT, assignTs, isVal, putR, vals, heldS, look1, look2, look2r, prim1, prim2, arith, bindT, bindTs, Ev.bin, Ev.neg, endR, ofB, ofBs, isTy, isC, b2i, isObjD, plainR, eq_ii, b_law_sums_hold, e1, a1, a2, a3, i1, i2, y]
  rw [es, eb, sums_eq]
  simp only [Ss_cons, q0, q1, q2, q3, q4, q5, q6, seq_nx, seq_rt]
  rfl
end Mn.Pf

set_option maxRecDepth 100000
set_option maxHeartbeats 2000000
namespace Mn.Pf
open PySem L2 NumText TL PyProof.Rows
set_option exponentiation.threshold 20000
variable {k : Nat}
/-! the great one -/
def ZR : Str := Txt.mul ("0" : Str) 2000
def ONE : Str := ("1" : Str) ++ ZR
def NIN : Str := Txt.mul ("9" : Str) 2000
theorem tl_ZR : tl ZR = List.replicate 2000 48 := by
  have e : ("0" : Str) = ⟨#[48]⟩ := rfl
  unfold ZR
  rw [e]
  exact mul_one_list 48 2000
theorem tl_NIN : tl NIN = List.replicate 2000 57 := by
  have e : ("9" : Str) = ⟨#[57]⟩ := rfl
  unfold NIN
  rw [e]
  exact mul_one_list 57 2000
theorem tl_ONE : tl ONE = 49 :: List.replicate 2000 48 := by
  unfold ONE
  rw [tl_append, tl_ZR]
  rfl
theorem dval_zeros : ∀ (n a : Nat), (List.replicate n 48).foldl (fun acc c => acc * 10 + (c - 48)) a = a * 10 ^ n
  | 0, a => by simp
  | n + 1, a => by
    rw [List.replicate_succ, List.foldl_cons, dval_zeros n]
    simp only [Nat.sub_self, Nat.add_zero]
    rw [Nat.pow_succ, Nat.mul_assoc, Nat.mul_comm 10]
theorem dval_nines : ∀ (n a : Nat), (List.replicate n 57).foldl (fun acc c => acc * 10 + (c - 48)) a + 1 = (a + 1) * 10 ^ n
  | 0, a => by simp
  | n + 1, a => by
    rw [List.replicate_succ, List.foldl_cons, dval_nines n]
    have : a * 10 + (57 - 48) + 1 = (a + 1) * 10 := by omega
    rw [this, Nat.pow_succ, Nat.mul_assoc, Nat.mul_comm 10]
theorem dval_ONE : digitsVal (tl ONE) = BIG := by
  rw [tl_ONE]
  unfold digitsVal BIG
  rw [List.foldl_cons, dval_zeros]
theorem dval_NIN : digitsVal (tl NIN) + 1 = BIG := by
  rw [tl_NIN]
  unfold digitsVal BIG
  rw [dval_nines, Nat.zero_add, Nat.one_mul]
theorem num_ONE : isNum (tl ONE) = true := by
  rw [tl_ONE]
  refine isNum_iff.mpr ⟨by simp, fun c hc => ?_, .inl (by simp)⟩
  rcases List.mem_cons.mp hc with rfl | hc
  · decide
  · rw [(List.mem_replicate.mp hc).2]; decide
theorem num_NIN : isNum (tl NIN) = true := by
  rw [tl_NIN]
  refine isNum_iff.mpr ⟨by simp, fun c hc => ?_, .inl ?_⟩
  · rw [(List.mem_replicate.mp hc).2]; decide
  · intro e
    rw [show (2000 : Nat) = 1999 + 1 from rfl, List.replicate_succ] at e
    simp at e
theorem len_ONE : ONE.length = 2001 := by rw [len_tl, tl_ONE, List.length_cons, List.length_replicate]
theorem len_NIN : NIN.length = 2000 := by rw [len_tl, tl_NIN, List.length_replicate]
theorem len_ZR : ZR.length = 2000 := by rw [len_tl, tl_ZR, List.length_replicate]
theorem int_ONE : intText? ONE = some ((BIG : Nat) : Int) := by
  obtain ⟨h1, h2, _⟩ := isNum_iff.mp num_ONE
  have := intText_digits (x := ONE) h2 h1 (by rw [len_ONE]; decide)
  rw [this]
  exact congrArg (fun n : Nat => some (n : Int)) dval_ONE
theorem istr_ONE : istr ((BIG : Nat) : Int) = ONE := by
  apply ext_tl
  rw [tl_istr]
  unfold numI
  rw [if_neg (by omega), Int.natAbs_natCast, ← dval_ONE]
  exact num_back num_ONE
theorem istr_NIN : istr (((BIG : Nat) : Int) - 1) = NIN := by
  have e : ((BIG : Nat) : Int) - 1 = ((digitsVal (tl NIN) : Nat) : Int) := by
    have := dval_NIN
    omega
  apply ext_tl
  rw [tl_istr, e]
  unfold numI
  rw [if_neg (by omega), Int.natAbs_natCast]
  exact num_back num_NIN
theorem txt_NIN : txt (((BIG : Nat) : Int) - 1) 1 = NIN := (if_pos rfl).trans istr_NIN
theorem txt_ONE : txt ((BIG : Nat) : Int) 1 = ONE := (if_pos rfl).trans istr_ONE
theorem BIG_pos : 1 ≤ BIG := by unfold BIG; exact Nat.pow_pos (by decide)
/-- texts that are none -/
def badR (z a st b : Str) : Bool := !isNum (pln (tl a)) || (pln (tl a) == [48] && !decide (z = "0")) || (!decide (st = "") && (!isNum (tl b) || tl b == [48] || decide (pd (hval (tl a)) (digitsVal (tl b) : Nat) = 1) || !decide (istr (pd (hval (tl a)) (digitsVal (tl b) : Nat)) = b)))
theorem badR_of {z a st b : Str} (h : badR z a st b = true) (S : Sto) : ∃ i : Int, readR z a st b S = .ex 2 (.int i) S := by
  unfold badR at h
  unfold readR
  simp only [Bool.or_eq_true, Bool.and_eq_true, Bool.not_eq_true', beq_iff_eq, decide_eq_true_eq, decide_eq_false_iff_not] at h
  by_cases c1 : isNum (pln (tl a)) = false
  · rw [if_pos c1]; exact ⟨_, rfl⟩
  rw [if_neg c1]
  by_cases c2 : pln (tl a) = [48] ∧ z ≠ "0"
  · rw [if_pos c2]; exact ⟨_, rfl⟩
  rw [if_neg c2]
  have h3 : ¬ st = "" ∧ (((isNum (tl b) = false ∨ tl b = [48]) ∨ pd (hval (tl a)) (digitsVal (tl b) : Nat) = 1) ∨ ¬ istr (pd (hval (tl a)) (digitsVal (tl b) : Nat)) = b) := by
    rcases h with (h | h) | h
    · exact absurd h c1
    · exact absurd h c2
    · exact h
  rw [if_neg h3.1]
  by_cases c4 : isNum (tl b) = false ∨ tl b = [48]
  · rw [if_pos c4]; exact ⟨_, rfl⟩
  rw [if_neg c4]
  have c5 : pd (hval (tl a)) (digitsVal (tl b) : Nat) = 1 ∨ istr (pd (hval (tl a)) (digitsVal (tl b) : Nat)) ≠ b := by
    rcases h3.2 with (h | h) | h
    · exact absurd h c4
    · exact .inl h
    · exact .inr h
  rw [if_pos c5]; exact ⟨_, rfl⟩
def Bad (d : D) : Prop := ∀ k S, 5 ≤ k → ∃ i : Int, callM pg k f_read_ratio [.val d] S = .ex 2 (.int i) S
theorem bad_n (z : Str) (h1 : (decide (1 ≤ z.length) && decide (z.length ≤ 2000) && decide (47 ∉ tl z) && badR z z "" "") = true) : Bad (.str z) := by
  simp only [Bool.and_eq_true, decide_eq_true_eq] at h1
  obtain ⟨⟨⟨h1, h2⟩, h3⟩, h4⟩ := h1
  intro k S hk
  obtain ⟨i, hi⟩ := badR_of h4 S
  exact ⟨i, (s_read hk z z "" "" h1 h2 (partition_none tl_slash h3) h2 (by decide) S).trans hi⟩
theorem bad_a (a b : Str) (h1 : (decide ((a ++ "/" ++ b : Str).length ≤ 2000) && decide (47 ∉ tl a) && badR (a ++ "/" ++ b) a "/" b) = true) : Bad (.str (a ++ "/" ++ b)) := by
  simp only [Bool.and_eq_true, decide_eq_true_eq] at h1
  obtain ⟨⟨h2, h3⟩, h4⟩ := h1
  have hl : (a ++ "/" ++ b : Str).length = a.length + 1 + b.length := by rw [app_len, app_len]; rfl
  intro k S hk
  obtain ⟨i, hi⟩ := badR_of h4 S
  exact ⟨i, (s_read hk _ a "/" b (by omega) h2 (partition_app tl_slash h3) (by omega) (by omega) S).trans hi⟩
theorem bad_d (d : D) (h : isTy 4 d = some false) : Bad d := fun k S hk => ⟨0, s_readD (by omega) d S h⟩
theorem bad_e : Bad (.str "") := fun k S hk => ⟨0, s_read0 (by omega) "" (by decide) (.inl rfl) S⟩
theorem t_bads : ∀ d ∈ ([.non, .int 5, .str "", .str "-", .str "/", .str "1/", .str "/2", .str "1/0", .str "1/1", .str "2/4", .str "01", .str "-0", .str "0/1", .str "1/02", .str "1/-2", .str "+1", .str " 1", .str "1 ", .str "1//2", .str "1/2/3", .str "1.5", .str "--1", .lst [.str "1"]] : List D), Bad d := by
  intro d hd
  simp only [List.mem_cons, List.not_mem_nil, or_false] at hd
  rcases hd with rfl | rfl | rfl | rfl | rfl | rfl | rfl | rfl | rfl | rfl | rfl | rfl | rfl | rfl | rfl | rfl | rfl | rfl | rfl | rfl | rfl | rfl | rfl
  · exact bad_d _ rfl
  · exact bad_d _ rfl
  · exact bad_e
  · exact bad_n _ (by decide +kernel)
  · exact bad_a "" "" (by decide +kernel)
  · exact bad_a "1" "" (by decide +kernel)
  · exact bad_a "" "2" (by decide +kernel)
  · exact bad_a "1" "0" (by decide +kernel)
  · exact bad_a "1" "1" (by decide +kernel)
  · exact bad_a "2" "4" (by decide +kernel)
  · exact bad_n _ (by decide +kernel)
  · exact bad_n _ (by decide +kernel)
  · exact bad_a "0" "1" (by decide +kernel)
  · exact bad_a "1" "02" (by decide +kernel)
  · exact bad_a "1" "-2" (by decide +kernel)
  · exact bad_n _ (by decide +kernel)
  · exact bad_n _ (by decide +kernel)
  · exact bad_n _ (by decide +kernel)
  · exact bad_a "1" "/2" (by decide +kernel)
  · exact bad_a "1" "2/3" (by decide +kernel)
  · exact bad_n _ (by decide +kernel)
  · exact bad_n _ (by decide +kernel)
  · exact bad_d _ rfl
end Mn.Pf

set_option maxRecDepth 100000
set_option maxHeartbeats 2000000
namespace Mn.Pf
open PySem L2 NumText TL PyProof.Rows
set_option exponentiation.threshold 20000
variable {k : Nat}
theorem s_state (hk : 1 ≤ k) (ns : List Int) : ∃ a b, callM pg k f_law_state [.val (.lst (ns.map D.int))] [] = .ok (.ref 0) (stt a b) := by
  have hsl : ∃ ms : List Int, sliceD none (some 63) (.lst (ns.map D.int)) = some (.lst (ms.map D.int)) := by
    refine ⟨(ns.drop (HT.sIx (ns.map D.int).length 0 none)).take (HT.sIx (ns.map D.int).length (ns.map D.int).length (some 63) - HT.sIx (ns.map D.int).length 0 none), ?_⟩
    show some (D.lst (cut (ns.map D.int) _ _)) = _
    unfold cut
    rw [List.map_take, List.map_drop]
  obtain ⟨ms, hms⟩ := hsl
  have loop := forL_inv (f := forB (ev pg (k - 1)) (.v 3) [.set (.v 1) (.bin .add (.bin .mul (.var 1) (.k (.int 1000003))) (.b1 .abs 3)), .set (.v 2) (.p2 .mod (.p1 .toInt (.bin .add (.bin .mul (.var 2) (.k (.int 48271))) (.var 3))) (.k (.int 2147483647)))])
    (fun l ρ S => (∃ ms : List Int, l = ms.map D.int) ∧ S = [] ∧ ∃ (a b : Int) (x : Option A), ρ = [some (.val (.lst (ns.map D.int))), some (.val (.int a)), some (.val (.int b)), x])
    (by
      rintro d l ρ S ⟨⟨ms, e⟩, rfl, a, b, x, rfl⟩
      cases ms with
      | nil => cases e
      | cons c ms =>
        rw [List.map_cons] at e
        obtain ⟨rfl, rfl⟩ := List.cons.inj e
        have m1 : mulOk a 1000003 = true := mulOk_r (by decide)
        have m2 : mulOk b 48271 = true := mulOk_r (by decide)
        refine ⟨[some (.val (.lst (ns.map D.int))), some (.val (.int (a * 1000003 + (if c < 0 then -c else c)))), some (.val (.int ((b * 48271 + c).fmod 2147483647))), some (.val (.int c))], [], ?_, ⟨ms, rfl⟩, rfl, _, _, _, rfl⟩
        rw [forB_s (ρ1 := [some (.val (.lst (ns.map D.int))), some (.val (.int a)), some (.val (.int b)), some (.val (.int c))]) (by simp [bindT])]
        simp [startR, evalP, assignT, assignTs, isVal, putR, vals, heldS, look1, look2, look2r, prim1, prim2, arith, bindT, bindTs, Ev.bin, Ev.neg, endR, ofB, ofBs, isTy, isC, b2i, isObjD, plainR, eq_ii, m1, m2])
    (ms.map D.int) [some (.val (.lst (ns.map D.int))), some (.val (.int 0)), some (.val (.int 1)), none] [] ⟨⟨ms, rfl⟩, rfl, 0, 1, none, rfl⟩
  obtain ⟨ρ1, S1, e, ⟨_, _⟩, rfl, a, b, x, rfl⟩ := loop
  by_cases hb : b = 1973665155
  · refine ⟨a, 7, ?_⟩
    subst hb
    rw [call_eq (fd := d_law_state) rfl (by omega)]
    simp [startR, evalP, assignT, assignTs, isVal, putR, vals, heldS, look1, look2, look2r, prim1, prim2, arith, bindT, bindTs, Ev.bin, Ev.eq, Ev.neg, endR, ofB, ofBs, isTy, isC, eqN, eqNs, eqD, eqDs, b2i, beq_int, beq_str, isObjD, plainR, d_law_state, b_law_state, hms, items, e]
  · refine ⟨a, b, ?_⟩
    rw [call_eq (fd := d_law_state) rfl (by omega)]
    simp [startR, evalP, assignT, assignTs, isVal, putR, vals, heldS, look1, look2, look2r, prim1, prim2, arith, bindT, bindTs, Ev.bin, Ev.eq, Ev.neg, endR, ofB, ofBs, isTy, isC, eqN, eqNs, eqD, eqDs, b2i, beq_int, beq_str, isObjD, plainR, d_law_state, b_law_state, hms, items, e, hb]
/-! what is malformed -/
def Mal (d : D) : Prop := ∃ f args, d = .tup [.fn f, .tup args] ∧ ∀ k S, 10 ≤ k → callM pg k f_law_told [.val (.fn f), .val (.tup args)] S = .ok (.val (.tup [.str "malformed", .non])) S
theorem s_allmal (hk : 12 ≤ k) (l : List D) (hl : ∀ d ∈ l, Mal d) (hn : l.length ≤ 100) (S : Sto) : callM pg k f_law_all_malformed [.val (.lst l)] S = .ok (.val (.bl true)) S := by
  rw [call_eq (fd := d_law_all_malformed) rfl (by omega)]
  have e1 : (ev pg (k - 1)).call = callM pg (k - 1) := ev_call (by omega)
  have k1 : 1 ≤ k - 1 := by omega
  have hc : compL (compF (ev pg (k - 1)) (.eq (.call f_law_told [.var 1, .var 2]) (.tup [.k (.str "malformed"), .k .non])) (.tup [.v 1, .v 2]) [1, 2] [some (.val (.lst l)), none, none]) l S = .ok (l.map fun _ => D.bl true) S := by
    refine compL_map fun d hd => ?_
    obtain ⟨f, args, rfl, h⟩ := hl d hd
    have h := h (k - 1) S (by omega)
    simp [startR, evalP, assignT, assignTs, isVal, putR, vals, heldS, look1, look2, look2r, prim1, prim2, arith, bindT, bindTs, Ev.bin, Ev.eq, Ev.neg, endR, ofB, ofBs, isTy, isC, eqN, eqNs, eqD, eqDs, b2i, beq_int, beq_str, isObjD, plainR, compF, wipeR, e1, h, k1]
  have lk : lenOk l.length = true := lenOk_of (by omega)
  have ha := allBl_true (l := l)
  simp [startR, evalP, assignT, assignTs, isVal, putR, vals, heldS, look1, look2, look2r, prim1, prim2, arith, bindT, bindTs, Ev.bin, Ev.neg, endR, ofB, ofBs, isTy, isC, b2i, isObjD, plainR, eq_ii, d_law_all_malformed, b_law_all_malformed, items, hc, lk, ha]
theorem s_made (hk : 4 ≤ k) (x y : D) (S : Sto) : callM pg k f_law_made [.val x, .val y] S = (match (ev pg (k - 1)).make c_Ratio [.val x, .val y] S with | .ok (.val d) S' => .ok (.val d) S' | .ok (.ref n) S' => .ok (.ref n) S' | .ok _ _ => .st | .ex c d S' => .ex c d S' | .st => .st) := by
  rw [call_eq (fd := d_law_made) rfl (by omega)]
  simp [startR, d_law_made, b_law_made]
  cases (ev pg (k - 1)).make c_Ratio [A.val x, A.val y] S with
  | ok v S' => cases v <;> simp [endR]
  | ex _ _ _ => simp [endR]
  | st => simp [endR]
theorem mal_made (x y : D) (hx : plainD x = true) (hy : plainD y = true) (hb : (isIntD x && isIntD y) = false) : Mal (.tup [.fn f_law_made, .tup [x, y]]) := ⟨_, _, rfl, fun k S hk => told2_0 (by omega) (d := .str "an integer") (by
  rw [s_made (by omega), s_mkB (by omega) x y S hx hy hb])⟩
abbrev ONE2 : D := ro 1 2
theorem one_rt : rt 1 2 = ONE2 := rt_self (by decide) (by decide)
theorem mal_act (w : Str) (hw : w = "plus" ∨ w = "minus" ∨ w = "times" ∨ w = "less") (x : D) (hx : x = .non ∨ x = .int 1 ∨ x = .str "1" ∨ x = .tup [.int 1, .int 2]) : Mal (.tup [.fn f_law_act, .tup [ONE2, .str w, x]]) := by
  have hp : plainD x = true := by rcases hx with rfl | rfl | rfl | rfl <;> rfl
  have hc : isC 10 x = some false := by rcases hx with rfl | rfl | rfl | rfl <;> rfl
  have ho : isObjD x = false := by rcases hx with rfl | rfl | rfl | rfl <;> rfl
  have hpr : plainR 10 x = true := by rcases hx with rfl | rfl | rfl | rfl <;> rfl
  refine ⟨_, _, rfl, fun k S hk => told3_0 (by omega) (d := .str "a ratio") ?_⟩
  rw [call_eq (fd := d_law_act) rfl (by omega)]
  have e1 : (ev pg (k - 1 - 1)).call = callM pg (k - 1 - 1) := ev_call (by omega)
  have e2 : (ev pg (k - 1 - 1 - 1)).call = callM pg (k - 1 - 1 - 1) := ev_call (by omega)
  have c1 := s_check (k := k - 1 - 1 - 1) (by omega) x S hp
  rw [show isC c_Ratio x = some false from hc] at c1
  have m : ∀ f, (f = f_Ratio_add ∨ f = f_Ratio_sub ∨ f = f_Ratio_mul ∨ f = f_Ratio_less) → callM pg (k - 1 - 1) f [.val ONE2, .val x] S = .ex 0 (.str "a ratio") S := by
    rintro f (rfl | rfl | rfl | rfl)
    · rw [call_eq (fd := d_Ratio_add) rfl (by omega)]
      simp [startR, evalP, assignT, assignTs, isVal, putR, vals, heldS, look1, look2, look2r, prim1, prim2, arith, bindT, bindTs, Ev.bin, Ev.neg, endR, ofB, ofBs, isTy, isC, b2i, isObjD, plainR, eq_ii, d_Ratio_add, b_Ratio_add, e2, c1]
    · rw [call_eq (fd := d_Ratio_sub) rfl (by omega)]
      simp [startR, evalP, assignT, assignTs, isVal, putR, vals, heldS, look1, look2, look2r, prim1, prim2, arith, bindT, bindTs, Ev.bin, Ev.neg, endR, ofB, ofBs, isTy, isC, b2i, isObjD, plainR, eq_ii, d_Ratio_sub, b_Ratio_sub, e2, c1]
    · rw [call_eq (fd := d_Ratio_mul) rfl (by omega)]
      simp [startR, evalP, assignT, assignTs, isVal, putR, vals, heldS, look1, look2, look2r, prim1, prim2, arith, bindT, bindTs, Ev.bin, Ev.neg, endR, ofB, ofBs, isTy, isC, b2i, isObjD, plainR, eq_ii, d_Ratio_mul, b_Ratio_mul, e2, c1]
    · rw [call_eq (fd := d_Ratio_less) rfl (by omega)]
      simp [startR, evalP, assignT, assignTs, isVal, putR, vals, heldS, look1, look2, look2r, prim1, prim2, arith, bindT, bindTs, Ev.bin, Ev.neg, endR, ofB, ofBs, isTy, isC, b2i, isObjD, plainR, eq_ii, d_Ratio_less, b_Ratio_less, e2, c1]
  have m1 := m f_Ratio_add (.inl rfl)
  have m2 := m f_Ratio_sub (.inr (.inl rfl))
  have m3 := m f_Ratio_mul (.inr (.inr (.inl rfl)))
  have m4 := m f_Ratio_less (.inr (.inr (.inr rfl)))
  have b1 : (ev pg (k - 1 - 1)).bin .add (.val ONE2) (.val x) S = .ex 0 (.str "a ratio") S := by
    simp [Ev.bin, hpr, e1, m1]
  have b2 : (ev pg (k - 1 - 1)).bin .sub (.val ONE2) (.val x) S = .ex 0 (.str "a ratio") S := by
    simp [Ev.bin, hpr, e1, m2]
  have b3 : (ev pg (k - 1 - 1)).bin .mul (.val ONE2) (.val x) S = .ex 0 (.str "a ratio") S := by
    simp [Ev.bin, hpr, e1, m3]
  have es : ∀ u v : Str, (ev pg (k - 1 - 1)).eq (.val (.str u)) (.val (.str v)) S false = .ok (.val (.bl (decide (u = v)))) S := fun u v => by
    simp [Ev.eq, eqN, eqD, beq_str, isObjD]
  have n1 : ¬ (("minus" : Str) = "plus") := by decide
  have n2 : ¬ (("times" : Str) = "plus") := by decide
  have n3 : ¬ (("times" : Str) = "minus") := by decide
  have n4 : ¬ (("less" : Str) = "plus") := by decide
  have n5 : ¬ (("less" : Str) = "minus") := by decide
  have n6 : ¬ (("less" : Str) = "times") := by decide
  rcases hw with rfl | rfl | rfl | rfl
  · simp [startR, d_law_act, b_law_act, es, b1, endR]
  · simp [startR, d_law_act, b_law_act, es, b2, endR, n1]
  · simp [startR, d_law_act, b_law_act, es, b3, endR, n2, n3]
  · simp [startR, d_law_act, b_law_act, es, e1, m4, endR, n4, n5, n6]
theorem mal_over : Mal (.tup [.fn f_law_over, .tup [ONE2, .int 2]]) := by
  refine ⟨_, _, rfl, fun k S hk => told2_0 (by omega) (d := .str "a ratio") ?_⟩
  rw [call_eq (fd := d_law_over) rfl (by omega)]
  have e1 : (ev pg (k - 1 - 1)).call = callM pg (k - 1 - 1) := ev_call (by omega)
  have e2 : (ev pg (k - 1 - 1 - 1)).call = callM pg (k - 1 - 1 - 1) := ev_call (by omega)
  have c1 := s_check (k := k - 1 - 1 - 1) (by omega) (.int 2) S rfl
  have m1 : callM pg (k - 1 - 1) f_Ratio_over [.val ONE2, .val (.int 2)] S = .ex 0 (.str "a ratio") S := by
    rw [call_eq (fd := d_Ratio_over) rfl (by omega)]
    simp [isC] at c1
    simp [startR, evalP, assignT, assignTs, isVal, putR, vals, heldS, look1, look2, look2r, prim1, prim2, arith, bindT, bindTs, Ev.bin, Ev.neg, endR, ofB, ofBs, isTy, isC, b2i, isObjD, plainR, eq_ii, d_Ratio_over, b_Ratio_over, e2, c1]
  have mf : (ev pg (k - 1 - 1)).mfind (.val ONE2) 8 S = some f_Ratio_over := by rw [mfind_rt]; rfl
  simp [startR, d_law_over, b_law_over, e1, mf, m1, endR]
theorem mal_as (d : D) (hp : plainD d = true) (h1 : isIntD d = false) (h2 : isC 10 d = some false) : Mal (.tup [.fn f_as_ratio, .tup [d]]) :=
  ⟨_, _, rfl, fun k S hk => told1_0 (by omega) (d := .str "a ratio") (s_as_bad (by omega) d S hp h1 h2)⟩
theorem mal_text (d : D) (hp : plainD d = true) (h2 : isC 10 d = some false) : Mal (.tup [.fn f_ratio_text, .tup [d]]) := by
  refine ⟨_, _, rfl, fun k S hk => told1_0 (by omega) (d := .str "a ratio") ?_⟩
  rw [call_eq (fd := d_ratio_text) rfl (by omega)]
  have e1 : (ev pg (k - 1 - 1)).call = callM pg (k - 1 - 1) := ev_call (by omega)
  have c1 := s_check (k := k - 1 - 1) (by omega) d S hp
  rw [show isC c_Ratio d = some false from h2] at c1
  simp [startR, d_ratio_text, b_ratio_text, e1, c1, endR]
end Mn.Pf

set_option maxRecDepth 100000
set_option maxHeartbeats 2000000
namespace Mn.Pf
open PySem L2 NumText TL PyProof.Rows
set_option exponentiation.threshold 20000
variable {k : Nat}
abbrev lS (i : Nat) : Mn.S := b_law.getD i .pass
theorem law_eq : b_law = [lS 0, lS 1, lS 2, lS 3, lS 4, lS 5, lS 6, lS 7, lS 8, lS 9, lS 10] := rfl
def GR : Int := ((BIG : Nat) : Int)
theorem int_GR : intText? ONE = some GR := int_ONE
theorem txt_GR : txt GR 1 = ONE := txt_ONE
theorem txt_GR1 : txt (GR - 1) 1 = NIN := txt_NIN
theorem GR_abs : GR.natAbs ≤ BIG ∧ (GR - 1).natAbs ≤ BIG := by
  have := BIG_pos
  unfold GR
  omega
section
variable (hk : 40 ≤ k)
include hk
theorem L0 (ns : List Int) : ∃ a b, evalS (ev pg k) (lS 0) (some (.val (.lst (ns.map D.int))) :: List.replicate 10 none) [] = .nx (some (.val (.lst (ns.map D.int))) :: some (.ref 0) :: List.replicate 9 none) (stt a b) := by
  have e1 : (ev pg k).call = callM pg k := ev_call (by omega)
  obtain ⟨a, b, e⟩ := s_state (k := k) (by omega) ns
  refine ⟨a, b, ?_⟩
  simp only [List.replicate]
  simp [startR, evalP, assignT, assignTs, isVal, putR, vals, heldS, look1, look2, look2r, prim1, prim2, arith, bindT, bindTs, Ev.bin, Ev.neg, endR, ofB, ofBs, isTy, isC, b2i, isObjD, plainR, eq_ii, b_law, e1, e]
theorem L1 (x0 : Option A) (a b : Int) : ∃ a' b' t, evalS (ev pg k) (lS 1) (x0 :: some (.ref 0) :: List.replicate 9 none) (stt a b) = .nx [x0, some (.ref 0), t, none, none, none, none, none, none, none, none] (stt a' b') := by
  have e1 : (ev pg k).call = callM pg k := ev_call (by omega)
  have s6 : small62 6 = true := by decide
  have key := forL_inv (f := forB (ev pg k) (.v 2) [.sif (.or (.not (.call f_law_ops_hold [.var 1])) (.not (.call f_law_sums_hold [.var 1]))) [.ret (.k (.bl false))] []])
    (fun _ ρ S => ∃ a b t, S = stt a b ∧ ρ = [x0, some (.ref 0), t, none, none, none, none, none, none, none, none])
    (by
      rintro d l ρ S ⟨a, b, t, rfl, rfl⟩
      obtain ⟨a1, b1, o1⟩ := s_ops (k := k) (by omega) a b
      obtain ⟨a2, b2, o2⟩ := s_sums (k := k) (by omega) a1 b1
      refine ⟨[x0, some (.ref 0), some (.val d), none, none, none, none, none, none, none, none], stt a2 b2, ?_, a2, b2, _, rfl, rfl⟩
      rw [forB_s (ρ1 := [x0, some (.ref 0), some (.val d), none, none, none, none, none, none, none, none]) (by simp [bindT])]
      simp [startR, evalP, assignT, assignTs, isVal, putR, vals, heldS, look1, look2, look2r, prim1, prim2, arith, bindT, bindTs, Ev.bin, Ev.neg, endR, ofB, ofBs, isTy, isC, b2i, isObjD, plainR, eq_ii, e1, o1, o2])
    (rangeD 0 6) _ _ ⟨a, b, none, rfl, rfl⟩
  obtain ⟨ρ1, S1, e, a', b', t, rfl, rfl⟩ := key
  refine ⟨a', b', t, ?_⟩
  simp only [List.replicate] at e ⊢
  simp [startR, evalP, assignT, assignTs, isVal, putR, vals, heldS, look1, look2, look2r, prim1, prim2, arith, bindT, bindTs, Ev.bin, Ev.neg, endR, ofB, ofBs, isTy, isC, b2i, isObjD, plainR, eq_ii, b_law, s6, e]
theorem EONE (ρ : Rho) (S : Sto) : evalE (ev pg k) (.bin .add (.k (.str "1")) (.bin .mul (.k (.str "0")) (.k (.int 2000)))) ρ S = .ok (.val (.str ONE)) S := by
  have s1 : small62 2000 = true := by decide
  have l0 : ("0" : Str).length = 1 := rfl
  have l1 : ("1" : Str).length = 1 := rfl
  have k1 : lenOk 2000 = true := lenOk_of (by decide)
  have k2 : lenOk (1 + ZR.length) = true := lenOk_of (by rw [len_ZR]; decide)
  have z : Txt.mul (Str.ofString "0") 2000 = ZR := rfl
  have o : Str.ofString "1" ++ ZR = ONE := rfl
  simp [startR, evalP, assignT, assignTs, isVal, putR, vals, heldS, look1, look2, look2r, prim1, prim2, arith, bindT, bindTs, Ev.bin, Ev.neg, endR, ofB, ofBs, isTy, isC, b2i, isObjD, plainR, eq_ii, s1, l0, l1, k1, k2, z, o]
theorem ENIN (ρ : Rho) (S : Sto) : evalE (ev pg k) (.bin .mul (.k (.str "9")) (.k (.int 2000))) ρ S = .ok (.val (.str NIN)) S := by
  have s1 : small62 2000 = true := by decide
  have l0 : ("9" : Str).length = 1 := rfl
  have k1 : lenOk 2000 = true := lenOk_of (by decide)
  have z : Txt.mul (Str.ofString "9") 2000 = NIN := rfl
  simp [startR, evalP, assignT, assignTs, isVal, putR, vals, heldS, look1, look2, look2r, prim1, prim2, arith, bindT, bindTs, Ev.bin, Ev.neg, endR, ofB, ofBs, isTy, isC, b2i, isObjD, plainR, eq_ii, s1, l0, k1, z]
theorem em0 (S : Sto) (ρ : Rho) : evalE (ev pg k) (.mk c_Ratio [.k (.int 1), .k (.int 2)]) ρ S = .ok (.val ONE2) S := by
  have e1 := s_mk (k := k) (by omega) 1 2 S (by decide +kernel)
  rw [if_neg (by decide), one_rt] at e1
  simp [e1]
theorem L2e (S : Sto) (ρ : Rho) : evalE (ev pg k) (.p1 .toInt (.bin .add (.k (.str "1")) (.bin .mul (.k (.str "0")) (.k (.int 2000))))) ρ S = .ok (.val (.int GR)) S := by
  have e2 := EONE hk ρ S
  have k1 : lenOk ONE.length = true := lenOk_of (by rw [len_ONE]; decide)
  have e4 : prim1 pg .toInt (.str ONE) = some (.int GR) := by
    show (if lenOk ONE.length = true then (intText? ONE).map D.int else none) = _
    rw [if_pos k1, int_GR]
    rfl
  rw [E_p1, e2, bind_ok, ev_G]
  show R.d (prim1 pg .toInt (.str ONE)) S = _
  rw [e4]
  rfl
theorem L2p (S : Sto) {x0 x1 x2 : Option A} (e : E) (g : Int) (he : ∀ ρ, evalE (ev pg k) e ρ S = .ok (.val (.int g)) S) : evalS (ev pg k) (.par [.v 3, .v 4] [.mk c_Ratio [.k (.int 1), .k (.int 2)], e]) [x0, x1, x2, none, none, none, none, none, none, none, none] S = .nx [x0, x1, x2, some (.val ONE2), some (.val (.int g)), none, none, none, none, none, none] S := by
  have em := em0 hk S [x0, x1, x2, none, none, none, none, none, none, none, none]
  have he := he [x0, x1, x2, none, none, none, none, none, none, none, none]
  simp only [S_par, Es_cons, em, bind_ok, he, Es_nil, sr_ok]
  simp [vals, bindT, bindTs]
theorem L2_ (S : Sto) {x0 x1 x2 : Option A} : evalS (ev pg k) (lS 2) [x0, x1, x2, none, none, none, none, none, none, none, none] S = .nx [x0, x1, x2, some (.val ONE2), some (.val (.int GR)), none, none, none, none, none, none] S := L2p hk S _ GR (L2e hk S)
theorem L3 (S : Sto) {x0 x1 x2 x3 x4 x5 x6 x7 : Option A} : evalS (ev pg k) (lS 3) [x0, x1, x2, x3, x4, x5, x6, x7, none, none, none] S = .nx [x0, x1, x2, x3, x4, x5, x6, x7, none, none, none] S := by
  have e1 : (ev pg k).call = callM pg k := ev_call (by omega)
  have t : ∀ n : Int, callM pg k f_law_told [.val (.fn f_law_made), .val (.tup [.int n, .int 0])] S = .ok (.val (.tup [.str "refused", .str "zero"])) S := fun n => told2_1 (by omega) (d := .str "zero") (by
    have m := s_mk (k := k - 1 - 1) (by omega) n 0 S (by decide +kernel)
    rw [if_pos rfl] at m
    rw [s_made (by omega), m])
  have t0 := t 0
  have t1 := t 1
  have t5 := t (-5)
  have mk := s_mk (k := k) (by omega) 0 (-7) S (by decide +kernel)
  rw [if_neg (by decide)] at mk
  have i1 := s_is_rt (k := k) (by omega) (a := 0) (b := -7) (n := 0) (d := 1) (by decide) (by decide) (by decide +kernel) rfl S
  have l3 : lenOk 3 = true := lenOk_of (by decide)
  have s3 : small62 3 = true := by decide
  have r3 : ∀ x : D, (List.replicate 3 [x]).flatten = [x, x, x] := fun x => rfl
  have k2 : 2 ≤ k := by omega
  simp [startR, evalP, assignT, assignTs, isVal, putR, vals, heldS, look1, look2, look2r, prim1, prim2, arith, bindT, bindTs, Ev.bin, Ev.eq, Ev.neg, endR, ofB, ofBs, isTy, isC, eqN, eqNs, eqD, eqDs, b2i, beq_int, beq_str, isObjD, plainR, b_law, e1, t0, t1, t5, mk, i1, l3, s3, r3, items, compL_nil, compL_cons, compF, wipeR, k2]
def T1 : List D := [.tup [.fn f_law_made, .tup [.non, .int 1]], .tup [.fn f_law_made, .tup [.int 1, .non]], .tup [.fn f_law_made, .tup [.bl true, .int 1]], .tup [.fn f_law_made, .tup [.int 1, .bl true]], .tup [.fn f_law_made, .tup [.str "1", .int 1]], .tup [.fn f_law_made, .tup [ONE2, .int 1]], .tup [.fn f_law_made, .tup [.int 1, .str "2"]]]
omit hk in
theorem T1_mal : ∀ d ∈ T1, Mal d := by
  intro d hd
  simp only [T1, List.mem_cons, List.not_mem_nil, or_false] at hd
  rcases hd with rfl | rfl | rfl | rfl | rfl | rfl | rfl <;> exact mal_made _ _ rfl rfl rfl
theorem L4 (S : Sto) {x0 x1 x2 x4 x5 x6 x7 : Option A} : evalS (ev pg k) (lS 4) [x0, x1, x2, some (.val ONE2), x4, x5, x6, x7, none, none, none] S = .nx [x0, x1, x2, some (.val ONE2), x4, some (.val (.lst T1)), x6, x7, none, none, none] S := by
  have l7 : lenOk 7 = true := lenOk_of (by decide)
  simp [startR, evalP, assignT, assignTs, isVal, putR, vals, heldS, look1, look2, look2r, prim1, prim2, arith, bindT, bindTs, Ev.bin, Ev.neg, endR, ofB, ofBs, isTy, isC, b2i, isObjD, plainR, eq_ii, b_law, l7, items, compL_nil, compL_cons, compF, wipeR, T1]
def T2 (w : D) : List D := [.tup [.fn f_law_act, .tup [ONE2, w, .non]], .tup [.fn f_law_act, .tup [ONE2, w, .int 1]], .tup [.fn f_law_act, .tup [ONE2, w, .str "1"]], .tup [.fn f_law_act, .tup [ONE2, w, .tup [.int 1, .int 2]]]]
omit hk in
theorem T2_mal (w : Str) (hw : w = "plus" ∨ w = "minus" ∨ w = "times" ∨ w = "less") : ∀ d ∈ T2 (.str w), Mal d := by
  intro d hd
  simp only [T2, List.mem_cons, List.not_mem_nil, or_false] at hd
  rcases hd with rfl | rfl | rfl | rfl
  · exact mal_act w hw _ (.inl rfl)
  · exact mal_act w hw _ (.inr (.inl rfl))
  · exact mal_act w hw _ (.inr (.inr (.inl rfl)))
  · exact mal_act w hw _ (.inr (.inr (.inr rfl)))
theorem L5 (S : Sto) {x0 x1 x2 x4 x6 x7 : Option A} : ∃ (l : List D) (x6' : Option A), evalS (ev pg k) (lS 5) [x0, x1, x2, some (.val ONE2), x4, some (.val (.lst T1)), x6, x7, none, none, none] S = .nx [x0, x1, x2, some (.val ONE2), x4, some (.val (.lst l)), x6', x7, none, none, none] S ∧ (∀ d ∈ l, Mal d) ∧ l.length ≤ 23 := by
  have l4 : lenOk 4 = true := lenOk_of (by decide)
  have key := forL_inv (f := forB (ev pg k) (.v 6) [.set (.v 5) (.bin .add (.var 5) (.comp (.tup [.k (.fn f_law_act), .tup [.var 3, .var 6, .var 10]]) (.v 10) (.p1 .item (.tup [.k .non, .k (.int 1), .k (.str "1"), .tup [.k (.int 1), .k (.int 2)]])) none [10]))])
    (fun ws ρ S' => (∀ d ∈ ws, ∃ w : Str, d = .str w ∧ (w = "plus" ∨ w = "minus" ∨ w = "times" ∨ w = "less")) ∧ S' = S ∧ ∃ (l : List D) (x6 : Option A), ρ = [x0, x1, x2, some (.val ONE2), x4, some (.val (.lst l)), x6, x7, none, none, none] ∧ (∀ d ∈ l, Mal d) ∧ l.length + 4 * ws.length ≤ 23)
    (by
      rintro d ws ρ S' ⟨hws, rfl, l, x6, rfl, hl, hn⟩
      obtain ⟨w, rfl, hw⟩ := hws d List.mem_cons_self
      rw [List.length_cons] at hn
      have t2 : (T2 (.str w)).length = 4 := rfl
      have lk : lenOk (l.length + 4) = true := lenOk_of (by omega)
      refine ⟨[x0, x1, x2, some (.val ONE2), x4, some (.val (.lst (l ++ T2 (.str w)))), some (.val (.str w)), x7, none, none, none], S', ?_, fun d hd => hws d (List.mem_cons_of_mem _ hd), rfl, l ++ T2 (.str w), some (.val (.str w)), rfl, fun d hd => ?_, by rw [List.length_append, t2]; omega⟩
      · rw [forB_s (ρ1 := [x0, x1, x2, some (.val ONE2), x4, some (.val (.lst l)), some (.val (.str w)), x7, none, none, none]) (by simp [bindT])]
        simp [startR, evalP, assignT, assignTs, isVal, putR, vals, heldS, look1, look2, look2r, prim1, prim2, arith, bindT, bindTs, Ev.bin, Ev.neg, endR, ofB, ofBs, isTy, isC, b2i, isObjD, plainR, eq_ii, l4, lk, items, compL_nil, compL_cons, compF, wipeR, T2]
      · rcases List.mem_append.mp hd with hd | hd
        · exact hl d hd
        · exact T2_mal w hw d hd)
    [.str "plus", .str "minus", .str "times", .str "less"] [x0, x1, x2, some (.val ONE2), x4, some (.val (.lst T1)), x6, x7, none, none, none] S
    ⟨fun d hd => by
      simp only [List.mem_cons, List.not_mem_nil, or_false] at hd
      rcases hd with rfl | rfl | rfl | rfl
      · exact ⟨_, rfl, .inl rfl⟩
      · exact ⟨_, rfl, .inr (.inl rfl)⟩
      · exact ⟨_, rfl, .inr (.inr (.inl rfl))⟩
      · exact ⟨_, rfl, .inr (.inr (.inr rfl))⟩, rfl, T1, x6, rfl, T1_mal, by simp [T1]⟩
  obtain ⟨ρ1, S1, e, _, rfl, l, x6', rfl, hl, hn⟩ := key
  refine ⟨l, x6', ?_, hl, by simpa using hn⟩
  simp [startR, evalP, assignT, assignTs, isVal, putR, vals, heldS, look1, look2, look2r, prim1, prim2, arith, bindT, bindTs, Ev.bin, Ev.neg, endR, ofB, ofBs, isTy, isC, b2i, isObjD, plainR, eq_ii, b_law, items, e]
def T3 : List D := [.tup [.fn f_law_over, .tup [ONE2, .int 2]], .tup [.fn f_as_ratio, .tup [.non]], .tup [.fn f_as_ratio, .tup [.bl true]], .tup [.fn f_as_ratio, .tup [.str "1"]], .tup [.fn f_ratio_text, .tup [.int 1]], .tup [.fn f_ratio_text, .tup [.non]]]
omit hk in
theorem T3_mal : ∀ d ∈ T3, Mal d := by
  intro d hd
  simp only [T3, List.mem_cons, List.not_mem_nil, or_false] at hd
  rcases hd with rfl | rfl | rfl | rfl | rfl | rfl
  · exact mal_over
  · exact mal_as _ rfl rfl rfl
  · exact mal_as _ rfl rfl rfl
  · exact mal_as _ rfl rfl rfl
  · exact mal_text _ rfl rfl
  · exact mal_text _ rfl rfl
theorem L6 (S : Sto) {l : List D} (hn : l.length ≤ 23) {x0 x1 x2 x4 x6 x7 x8 x9 x10 : Option A} : evalS (ev pg k) (lS 6) [x0, x1, x2, some (.val ONE2), x4, some (.val (.lst l)), x6, x7, x8, x9, x10] S = .nx [x0, x1, x2, some (.val ONE2), x4, some (.val (.lst (l ++ T3))), x6, x7, x8, x9, x10] S := by
  have lk : lenOk (l.length + 6) = true := lenOk_of (by omega)
  simp [startR, evalP, assignT, assignTs, isVal, putR, vals, heldS, look1, look2, look2r, prim1, prim2, arith, bindT, bindTs, Ev.bin, Ev.neg, endR, ofB, ofBs, isTy, isC, b2i, isObjD, plainR, eq_ii, b_law, lk, T3]
def BADS : List D := [.non, .int 5, .str "", .str "-", .str "/", .str "1/", .str "/2", .str "1/0", .str "1/1", .str "2/4", .str "01", .str "-0", .str "0/1", .str "1/02", .str "1/-2", .str "+1", .str " 1", .str "1 ", .str "1//2", .str "1/2/3", .str "1.5", .str "--1", .lst [.str "1"]]
theorem L7 (S : Sto) {x0 x1 x2 x3 x4 x5 x6 x7 x8 x9 x10 : Option A} : evalS (ev pg k) (lS 7) [x0, x1, x2, x3, x4, x5, x6, x7, x8, x9, x10] S = .nx [x0, x1, x2, x3, x4, x5, x6, some (.val (.lst BADS)), x8, x9, x10] S := by
  simp [startR, evalP, assignT, assignTs, isVal, putR, vals, heldS, look1, look2, look2r, prim1, prim2, arith, bindT, bindTs, Ev.bin, Ev.neg, endR, ofB, ofBs, isTy, isC, b2i, isObjD, plainR, eq_ii, b_law, BADS]
end
end Mn.Pf

set_option maxRecDepth 100000
set_option maxHeartbeats 2000000
namespace Mn.Pf
open PySem L2 NumText TL PyProof.Rows
set_option exponentiation.threshold 20000
variable {k : Nat}
section
variable (hk : 40 ≤ k)
include hk
theorem L8 (S : Sto) {x0 x1 x2 x3 x5 x6 x8 x9 : Option A} : evalS (ev pg k) (lS 8) [x0, x1, x2, x3, some (.val (.int GR)), x5, x6, some (.val (.lst BADS)), x8, x9, none] S = .nx [x0, x1, x2, x3, some (.val (.int GR)), x5, x6, some (.val (.lst BADS)), x8, x9, none] S := by
  have e1 : (ev pg k).call = callM pg k := ev_call (by omega)
  have k1 : 2 ≤ k := by omega
  have hc : compL (compF (ev pg k) (.eq (.call f_law_told [.k (.fn f_read_ratio), .tup [.var 10]]) (.tup [.k (.str "text"), .k .non])) (.v 10) [10] [x0, x1, x2, x3, some (.val (.int GR)), x5, x6, some (.val (.lst BADS)), x8, x9, none]) BADS S = .ok (BADS.map fun _ => D.bl true) S := by
    refine compL_map fun d hd => ?_
    obtain ⟨i, h⟩ := t_bads d hd (k - 1) S (by omega)
    have t := told1_2 (k := k) (by omega) h
    have k1' : 1 ≤ k := by omega
    simp [startR, evalP, assignT, assignTs, isVal, putR, vals, heldS, look1, look2, look2r, prim1, prim2, arith, bindT, bindTs, Ev.bin, Ev.eq, Ev.neg, endR, ofB, ofBs, isTy, isC, eqN, eqNs, eqD, eqDs, b2i, beq_int, beq_str, isObjD, plainR, compF, wipeR, e1, t, k1, k1']
  have ha := allBl_true (l := BADS)
  have l23 : BADS.length = 23 := rfl
  have lk : lenOk 23 = true := lenOk_of (by decide)
  have m := s_mk1 (k := k) (by omega) GR S
  rw [rt_one] at m
  have t1 := s_text (k := k - 1) (p := GR) (q := 1) (by omega) (by decide) GR_abs.1 BIG_pos S
  rw [txt_GR, len_ONE, if_pos (by decide)] at t1
  have t2 := told1_1 (k := k) (by omega) t1
  have k1' : 1 ≤ k := by omega
  generalize BADS = bb at *
  simp [startR, evalP, assignT, assignTs, isVal, putR, vals, heldS, look1, look2, look2r, prim1, prim2, arith, bindT, bindTs, Ev.bin, Ev.eq, Ev.neg, endR, ofB, ofBs, isTy, isC, eqN, eqNs, eqD, eqDs, b2i, beq_int, beq_str, isObjD, plainR, b_law, e1, items, hc, ha, l23, lk, m, t2, k1, k1']
theorem E9a (S : Sto) (ρ : Rho) (e : E) (z : Str) (he : ∀ ρ, evalE (ev pg k) e ρ S = .ok (.val (.str z)) S) (t1 : callM pg k f_law_told [.val (.fn f_read_ratio), .val (.tup [.str z])] S = .ok (.val (.tup [.str "text", .non])) S) :
    evalE (ev pg k) (.ne (.call f_law_told [.k (.fn f_read_ratio), .tup [e]]) (.tup [.k (.str "text"), .k .non])) ρ S = .ok (.val (.bl false)) S := by
  have e1 : (ev pg k).call = callM pg k := ev_call (by omega)
  have k1 : 1 ≤ k := by omega
  have he := he ρ
  simp [he, vals, e1, t1, Ev.eq, eqN, eqNs, isObjD, eqD, eqDs, k1]
theorem E9b (S : Sto) {x0 x1 x2 x3 x5 x6 x7 x8 x9 x10 : Option A} (e : E) (z : Str) (g : Int) (he : ∀ ρ, evalE (ev pg k) e ρ S = .ok (.val (.str z)) S) (r2 : callM pg k f_read_ratio [.val (.str z)] S = .ok (.val (ro (g - 1) 1)) S) (m : (ev pg k).make c_Ratio [.val (.int (g - 1))] S = .ok (.val (ro (g - 1) 1)) S) :
    evalE (ev pg k) (.eq (.call f_read_ratio [e]) (.mk c_Ratio [.bin .sub (.var 4) (.k (.int 1))])) [x0, x1, x2, x3, some (.val (.int g)), x5, x6, x7, x8, x9, x10] S = .ok (.val (.bl true)) S := by
  have e1 : (ev pg k).call = callM pg k := ev_call (by omega)
  have k4 : 4 ≤ k := by omega
  have he := he [x0, x1, x2, x3, some (.val (.int g)), x5, x6, x7, x8, x9, x10]
  have eqE : (ev pg k).eq (.val (ro (g - 1) 1)) (.val (ro (g - 1) 1)) S false = .ok (.val (.bl true)) S := by
    simp [Ev.eq, eqN, eqNs, k4, isObjD, eqD_ro]
  simp [he, e1, r2, Ev.bin, arith, m, eqE]
theorem E9c (S : Sto) {x0 x1 x2 x3 x5 x6 x7 x8 x9 x10 : Option A} (z : Str) (g : Int) (hz : z.length = 2000) (m : (ev pg k).make c_Ratio [.val (.int (g - 1))] S = .ok (.val (ro (g - 1) 1)) S) (t3 : callM pg k f_ratio_text [.val (ro (g - 1) 1)] S = .ok (.val (.str z)) S) :
    evalE (ev pg k) (.ne (.p1 .len (.call f_ratio_text [.mk c_Ratio [.bin .sub (.var 4) (.k (.int 1))]])) (.k (.int 2000))) [x0, x1, x2, x3, some (.val (.int g)), x5, x6, x7, x8, x9, x10] S = .ok (.val (.bl false)) S := by
  have e1 : (ev pg k).call = callM pg k := ev_call (by omega)
  have ln2 : lenOk 2000 = true := lenOk_of (by decide)
  simp [e1, Ev.bin, arith, m, t3, look1, prim1, hz, ln2, Ev.eq, eqN, eqD, isObjD]
omit hk in
theorem orS (S : Sto) (ρ : Rho) (eA eB eC : E) (hA : evalE (ev pg k) eA ρ S = .ok (.val (.bl false)) S) (hB : evalE (ev pg k) eB ρ S = .ok (.val (.bl true)) S) (hC : evalE (ev pg k) eC ρ S = .ok (.val (.bl false)) S) :
    evalS (ev pg k) (.sif (.or eA (.or (.not eB) eC)) [.ret (.k (.bl false))] []) ρ S = .nx ρ S := by
  simp [hA, hB, hC]
theorem L9 (S : Sto) {x0 x1 x2 x3 x5 x6 x7 x8 x9 x10 : Option A} : evalS (ev pg k) (lS 9) [x0, x1, x2, x3, some (.val (.int GR)), x5, x6, x7, x8, x9, x10] S = .nx [x0, x1, x2, x3, some (.val (.int GR)), x5, x6, x7, x8, x9, x10] S := by
  have r1 := s_read0 (k := k - 1) (by omega) ONE (by rw [len_ONE]; decide) (.inr (by rw [len_ONE]; decide)) S
  have t1 := told1_2 (k := k) (by omega) r1
  have r2 := reads_txt (k := k) (p := GR - 1) (q := 1) (by omega) (by decide) (by simp) (by rw [txt_GR1, len_NIN]; decide) S
  rw [txt_GR1] at r2
  have m := s_mk1 (k := k) (by omega) (GR - 1) S
  rw [rt_one] at m
  have t3 := s_text (k := k) (p := GR - 1) (q := 1) (by omega) (by decide) GR_abs.2 BIG_pos S
  rw [txt_GR1, len_NIN, if_neg (by decide)] at t3
  exact orS S _ _ _ _ (E9a hk S _ _ ONE (fun ρ => EONE hk ρ S) t1) (E9b hk S _ NIN GR (fun ρ => ENIN hk ρ S) r2 m) (E9c hk S NIN GR len_NIN m t3)
theorem are_x (S : Sto) (d : D) (b : Bool) (h : d = .non ∧ b = false ∨ d = .tup [] ∧ b = true ∨ d = .lst [ONE2] ∧ b = false ∨ d = .tup [ONE2, .int 1] ∧ b = false ∨ d = .tup [ONE2, ONE2] ∧ b = true) : callM pg k f_are_ratios [.val d] S = .ok (.val (.bl b)) S := by
  rw [call_eq (fd := d_are_ratios) rfl (by omega)]
  have l0 : lenOk 0 = true := lenOk_of (by decide)
  have l2 : lenOk 2 = true := lenOk_of (by decide)
  rcases h with ⟨rfl, rfl⟩ | ⟨rfl, rfl⟩ | ⟨rfl, rfl⟩ | ⟨rfl, rfl⟩ | ⟨rfl, rfl⟩ <;> simp [startR, evalP, assignT, assignTs, isVal, putR, vals, heldS, look1, look2, look2r, prim1, prim2, arith, bindT, bindTs, Ev.bin, Ev.neg, endR, ofB, ofBs, isTy, isC, b2i, isObjD, plainR, eq_ii, d_are_ratios, b_are_ratios, items, compL_nil, compL_cons, compF, wipeR, l0, l2, allBl]
theorem L10 (S : Sto) {l : List D} (hl : ∀ d ∈ l, Mal d) (hn : l.length ≤ 100) {x0 x1 x2 x4 x6 x7 x8 x9 : Option A} : evalS (ev pg k) (lS 10) [x0, x1, x2, some (.val ONE2), x4, some (.val (.lst l)), x6, x7, x8, x9, none] S = .rt (.val (.bl true)) S := by
  have e1 : (ev pg k).call = callM pg k := ev_call (by omega)
  have k1 : 2 ≤ k := by omega
  have k1' : 1 ≤ k := by omega
  have a1 := are_x hk S .non false (.inl ⟨rfl, rfl⟩)
  have a2 := are_x hk S (.tup []) true (.inr (.inl ⟨rfl, rfl⟩))
  have a3 := are_x hk S (.lst [ONE2]) false (.inr (.inr (.inl ⟨rfl, rfl⟩)))
  have a4 := are_x hk S (.tup [ONE2, .int 1]) false (.inr (.inr (.inr (.inl ⟨rfl, rfl⟩))))
  have a5 := are_x hk S (.tup [ONE2, ONE2]) true (.inr (.inr (.inr (.inr ⟨rfl, rfl⟩))))
  have am := s_allmal (k := k) (by omega) l hl hn S
  have l5 : lenOk 5 = true := lenOk_of (by decide)
  simp [startR, evalP, assignT, assignTs, isVal, putR, vals, heldS, look1, look2, look2r, prim1, prim2, arith, bindT, bindTs, Ev.bin, Ev.eq, Ev.neg, endR, ofB, ofBs, isTy, isC, eqN, eqNs, eqD, eqDs, b2i, beq_int, beq_str, isObjD, plainR, b_law, e1, a1, a2, a3, a4, a5, am, l5, items, compL_nil, compL_cons, compF, wipeR, k1, k1']
end
theorem s_law (hk : 41 ≤ k) (ns : List Int) : ∃ S', callM pg k f_law [.val (.lst (ns.map D.int))] [] = .ok (.val (.bl true)) S' := by
  have hk1 : 40 ≤ k - 1 := by omega
  obtain ⟨a, b, q0⟩ := L0 hk1 ns
  obtain ⟨a1, b1, t, q1⟩ := L1 hk1 (some (.val (.lst (ns.map D.int)))) a b
  obtain ⟨l, x6, q5, hl, hn⟩ := L5 hk1 (stt a1 b1) (x0 := some (.val (.lst (ns.map D.int)))) (x1 := some (.ref 0)) (x2 := t) (x4 := some (.val (.int GR))) (x6 := none) (x7 := none)
  have hl' : ∀ d ∈ l ++ T3, Mal d := fun d hd => by
    rcases List.mem_append.mp hd with hd | hd
    · exact hl d hd
    · exact T3_mal d hd
  have hn' : (l ++ T3).length ≤ 100 := by rw [List.length_append]; show l.length + 6 ≤ 100; omega
  refine ⟨stt a1 b1, ?_⟩
  rw [call_eq (fd := d_law) rfl (by omega)]
  have es : startR d_law [.val (.lst (ns.map D.int))] = some (some (.val (.lst (ns.map D.int))) :: List.replicate 10 none) := rfl
  have eb : d_law.body = b_law := rfl
  rw [es, eb, law_eq]
  simp only [Ss_cons, q0, q1, seq_nx, L2_ hk1, L3 hk1, L4 hk1, q5, L6 hk1 _ hn, L7 hk1, L8 hk1, L9 hk1, L10 hk1 _ hl' hn', seq_rt]
  rfl
end Mn.Pf

namespace Mn.Row
open PySem L2
def topS (i : Nat) : Stmt := PySem.Challenge.pw_summedtrees_k00_whole_fractions.main.body.getD i (.Pass ⟨0, 0, 0, 0⟩)
def rc : RC where
  gl := [gp "Malformed" (.exc 0),
    gp "Refused" (.exc 1),
    gp "NoText" (.exc 2),
    gp "is_integer" (.fn f_is_integer),
    gp "common" (.fn f_common),
    gp "DIGITS" (.con (.str "0123456789")),
    gp "MOST_SIGNS" (.con (.int 2000)),
    gp "Ratio" (.cls c_Ratio),
    gp "check_ratio" (.fn f_check_ratio),
    gp "as_ratio" (.fn f_as_ratio),
    gp "are_ratios" (.fn f_are_ratios),
    gp "ratio_text" (.fn f_ratio_text),
    gp "read_ratio" (.fn f_read_ratio),
    gp "is_number" (.fn f_ratio_is_number),
    gp "ratio_sum" (.fn f_ratio_sum),
    gp "ratio_dot" (.fn f_ratio_dot),
    gp "_law_state" (.fn f_law_state),
    gp "_law_take" (.fn f_law_take),
    gp "_law_says" (.fn f_law_says),
    gp "_law_is_whole" (.fn f_law_is_whole),
    gp "_law_same" (.fn f_law_same),
    gp "_law_told" (.fn f_law_told),
    gp "_law_all_malformed" (.fn f_law_all_malformed),
    gp "_law_common" (.fn f_law_common),
    gp "_law_plain" (.fn f_law_plain),
    gp "_law_pair" (.fn f_law_pair),
    gp "_law_is" (.fn f_law_is),
    gp "_law_ops_hold" (.fn f_law_ops_hold),
    gp "_law_over" (.fn f_law_over),
    gp "_law_reads_itself" (.fn f_law_reads_itself),
    gp "_law_sums_hold" (.fn f_law_sums_hold),
    gp "_law_made" (.fn f_law_made),
    gp "_law_act" (.fn f_law_act),
    gp "law" (.fn f_law)]
  blt := ["len", "abs", "max", "min", "int", "str", "tuple", "list", "all", "any", "sum", "sorted", "isinstance", "range", "enumerate", "zip", "bool", "set"]
  ats := [ap "n" 6, ap "d" 7, ap "over" 8, ap "less" 9, ap "sign" 10, ap "is_whole" 11, ap "floor" 12]
  ofs := [13, 14, 15]
  xfs := [(0, "reason"), (1, "reason"), (2, "at")]
  hot := f_law_is_whole
def s_is_integer : Stmt := topS 6
def n_is_integer : DC := ⟨["value"], [], [], false⟩
theorem ck_is_integer : cDef rc n_is_integer (defScope s_is_integer) (defBody s_is_integer) = some b_is_integer := by kernel_rfl
def s_common : Stmt := topS 7
def n_common : DC := ⟨["a", "b"], [], [], false⟩
theorem ck_common : cDef rc n_common (defScope s_common) (defBody s_common) = some b_common := by kernel_rfl
def s_Ratio_init : Stmt := inClass (topS 11) 0
def n_Ratio_init : DC := ⟨["self", "n", "d", "g"], [], [], false⟩
theorem ck_Ratio_init : cDef rc n_Ratio_init (defScope s_Ratio_init) (defBody s_Ratio_init) = some b_Ratio_init := by kernel_rfl
def s_Ratio_add : Stmt := inClass (topS 11) 1
def n_Ratio_add : DC := ⟨["self", "other"], [], [], false⟩
theorem ck_Ratio_add : cDef rc n_Ratio_add (defScope s_Ratio_add) (defBody s_Ratio_add) = some b_Ratio_add := by kernel_rfl
def s_Ratio_sub : Stmt := inClass (topS 11) 2
def n_Ratio_sub : DC := ⟨["self", "other"], [], [], false⟩
theorem ck_Ratio_sub : cDef rc n_Ratio_sub (defScope s_Ratio_sub) (defBody s_Ratio_sub) = some b_Ratio_sub := by kernel_rfl
def s_Ratio_mul : Stmt := inClass (topS 11) 3
def n_Ratio_mul : DC := ⟨["self", "other"], [], [], false⟩
theorem ck_Ratio_mul : cDef rc n_Ratio_mul (defScope s_Ratio_mul) (defBody s_Ratio_mul) = some b_Ratio_mul := by kernel_rfl
def s_Ratio_neg : Stmt := inClass (topS 11) 4
def n_Ratio_neg : DC := ⟨["self"], [], [], false⟩
theorem ck_Ratio_neg : cDef rc n_Ratio_neg (defScope s_Ratio_neg) (defBody s_Ratio_neg) = some b_Ratio_neg := by kernel_rfl
def s_Ratio_eq : Stmt := inClass (topS 11) 5
def n_Ratio_eq : DC := ⟨["self", "other"], [], [], false⟩
theorem ck_Ratio_eq : cDef rc n_Ratio_eq (defScope s_Ratio_eq) (defBody s_Ratio_eq) = some b_Ratio_eq := by kernel_rfl
def s_Ratio_over : Stmt := inClass (topS 11) 6
def n_Ratio_over : DC := ⟨["self", "other"], [], [], false⟩
theorem ck_Ratio_over : cDef rc n_Ratio_over (defScope s_Ratio_over) (defBody s_Ratio_over) = some b_Ratio_over := by kernel_rfl
def s_Ratio_less : Stmt := inClass (topS 11) 7
def n_Ratio_less : DC := ⟨["self", "other"], [], [], false⟩
theorem ck_Ratio_less : cDef rc n_Ratio_less (defScope s_Ratio_less) (defBody s_Ratio_less) = some b_Ratio_less := by kernel_rfl
def s_Ratio_sign : Stmt := inClass (topS 11) 8
def n_Ratio_sign : DC := ⟨["self"], [], [], false⟩
theorem ck_Ratio_sign : cDef rc n_Ratio_sign (defScope s_Ratio_sign) (defBody s_Ratio_sign) = some b_Ratio_sign := by kernel_rfl
def s_Ratio_is_whole : Stmt := inClass (topS 11) 9
def n_Ratio_is_whole : DC := ⟨["self"], [], [], false⟩
theorem ck_Ratio_is_whole : cDef rc n_Ratio_is_whole (defScope s_Ratio_is_whole) (defBody s_Ratio_is_whole) = some b_Ratio_is_whole := by kernel_rfl
def s_Ratio_floor : Stmt := inClass (topS 11) 10
def n_Ratio_floor : DC := ⟨["self"], [], [], false⟩
theorem ck_Ratio_floor : cDef rc n_Ratio_floor (defScope s_Ratio_floor) (defBody s_Ratio_floor) = some b_Ratio_floor := by kernel_rfl
def s_check_ratio : Stmt := topS 12
def n_check_ratio : DC := ⟨["value"], [], [], false⟩
theorem ck_check_ratio : cDef rc n_check_ratio (defScope s_check_ratio) (defBody s_check_ratio) = some b_check_ratio := by kernel_rfl
def s_as_ratio : Stmt := topS 13
def n_as_ratio : DC := ⟨["value"], [], [], false⟩
theorem ck_as_ratio : cDef rc n_as_ratio (defScope s_as_ratio) (defBody s_as_ratio) = some b_as_ratio := by kernel_rfl
def s_are_ratios : Stmt := topS 14
def n_are_ratios : DC := ⟨["value", "own"], [], [], false⟩
theorem ck_are_ratios : cDef rc n_are_ratios (defScope s_are_ratios) (defBody s_are_ratios) = some b_are_ratios := by kernel_rfl
def s_ratio_text : Stmt := topS 15
def n_ratio_text : DC := ⟨["value", "text"], [], [], false⟩
theorem ck_ratio_text : cDef rc n_ratio_text (defScope s_ratio_text) (defBody s_ratio_text) = some b_ratio_text := by kernel_rfl
def s_read_ratio : Stmt := topS 16
def n_read_ratio : DC := ⟨["text", "high", "stroke", "low", "plain", "found"], [], [], false⟩
theorem ck_read_ratio : cDef rc n_read_ratio (defScope s_read_ratio) (defBody s_read_ratio) = some b_read_ratio := by kernel_rfl
def s_ratio_is_number : Stmt := topS 17
def n_ratio_is_number : DC := ⟨["text", "c"], [], [], false⟩
theorem ck_ratio_is_number : cDef rc n_ratio_is_number (defScope s_ratio_is_number) (defBody s_ratio_is_number) = some b_ratio_is_number := by kernel_rfl
def s_ratio_sum : Stmt := topS 18
def n_ratio_sum : DC := ⟨["values", "found", "own"], [], [], false⟩
theorem ck_ratio_sum : cDef rc n_ratio_sum (defScope s_ratio_sum) (defBody s_ratio_sum) = some b_ratio_sum := by kernel_rfl
def s_ratio_dot : Stmt := topS 19
def n_ratio_dot : DC := ⟨["one", "two", "a", "b"], [], [], false⟩
theorem ck_ratio_dot : cDef rc n_ratio_dot (defScope s_ratio_dot) (defBody s_ratio_dot) = some b_ratio_dot := by kernel_rfl
def s_law_state : Stmt := topS 21
def n_law_state : DC := ⟨["script", "seed", "total", "cell"], [], [], true⟩
theorem ck_law_state : cDef rc n_law_state (defScope s_law_state) (defBody s_law_state) = some b_law_state := by kernel_rfl
def s_law_take : Stmt := topS 22
def n_law_take : DC := ⟨["state", "m", "value"], [], [], false⟩
theorem ck_law_take : cDef rc n_law_take (defScope s_law_take) (defBody s_law_take) = some b_law_take := by kernel_rfl
def s_law_says : Stmt := topS 23
def n_law_says : DC := ⟨["value", "due"], [], [], false⟩
theorem ck_law_says : cDef rc n_law_says (defScope s_law_says) (defBody s_law_says) = some b_law_says := by kernel_rfl
def s_law_is_whole : Stmt := topS 24
def n_law_is_whole : DC := ⟨["value"], [], [], false⟩
theorem ck_law_is_whole : cDef rc n_law_is_whole (defScope s_law_is_whole) (defBody s_law_is_whole) = some b_law_is_whole := by kernel_rfl
def s_law_same : Stmt := topS 25
def n_law_same : DC := ⟨["one", "two", "k"], [], [], false⟩
theorem ck_law_same : cDef rc n_law_same (defScope s_law_same) (defBody s_law_same) = some b_law_same := by kernel_rfl
def s_law_told : Stmt := topS 26
def n_law_told : DC := ⟨["act", "given", "wrong", "refused"], [], [], false⟩
theorem ck_law_told : cDef rc n_law_told (defScope s_law_told) (defBody s_law_told) = some b_law_told := by kernel_rfl
def s_law_all_malformed : Stmt := topS 27
def n_law_all_malformed : DC := ⟨["tried", "act", "given"], [], [], false⟩
theorem ck_law_all_malformed : cDef rc n_law_all_malformed (defScope s_law_all_malformed) (defBody s_law_all_malformed) = some b_law_all_malformed := by kernel_rfl
def s_law_common : Stmt := topS 28
def n_law_common : DC := ⟨["a", "b"], [], [], false⟩
theorem ck_law_common : cDef rc n_law_common (defScope s_law_common) (defBody s_law_common) = some b_law_common := by kernel_rfl
def s_law_plain : Stmt := topS 29
def n_law_plain : DC := ⟨["n", "d", "g"], [], [], false⟩
theorem ck_law_plain : cDef rc n_law_plain (defScope s_law_plain) (defBody s_law_plain) = some b_law_plain := by kernel_rfl
def s_law_pair : Stmt := topS 30
def n_law_pair : DC := ⟨["state", "wide"], [], [], false⟩
theorem ck_law_pair : cDef rc n_law_pair (defScope s_law_pair) (defBody s_law_pair) = some b_law_pair := by kernel_rfl
def s_law_is : Stmt := topS 31
def n_law_is : DC := ⟨["value", "n", "d"], [], [], false⟩
theorem ck_law_is : cDef rc n_law_is (defScope s_law_is) (defBody s_law_is) = some b_law_is := by kernel_rfl
def s_law_ops_hold : Stmt := topS 32
def n_law_ops_hold : DC := ⟨["state", "a", "b", "c", "d", "one", "two", "sign", "told", "n", "m", "text", "s", "at", "bad"], [], [], false⟩
theorem ck_law_ops_hold : cDef rc n_law_ops_hold (defScope s_law_ops_hold) (defBody s_law_ops_hold) = some b_law_ops_hold := by kernel_rfl
def s_law_over : Stmt := topS 33
def n_law_over : DC := ⟨["one", "two"], [], [], false⟩
theorem ck_law_over : cDef rc n_law_over (defScope s_law_over) (defBody s_law_over) = some b_law_over := by kernel_rfl
def s_law_reads_itself : Stmt := topS 34
def n_law_reads_itself : DC := ⟨["text", "told"], [], [], false⟩
theorem ck_law_reads_itself : cDef rc n_law_reads_itself (defScope s_law_reads_itself) (defBody s_law_reads_itself) = some b_law_reads_itself := by kernel_rfl
def s_law_sums_hold : Stmt := topS 35
def n_law_sums_hold : DC := ⟨["state", "pairs", "more", "n", "d", "x", "y", "a", "b", "c", "e", "one", "two", "t"], [], [], false⟩
theorem ck_law_sums_hold : cDef rc n_law_sums_hold (defScope s_law_sums_hold) (defBody s_law_sums_hold) = some b_law_sums_hold := by kernel_rfl
def s_law_made : Stmt := topS 36
def n_law_made : DC := ⟨["n", "d"], [], [], false⟩
theorem ck_law_made : cDef rc n_law_made (defScope s_law_made) (defBody s_law_made) = some b_law_made := by kernel_rfl
def s_law_act : Stmt := topS 37
def n_law_act : DC := ⟨["one", "word", "other"], [], [], false⟩
theorem ck_law_act : cDef rc n_law_act (defScope s_law_act) (defBody s_law_act) = some b_law_act := by kernel_rfl
def s_law : Stmt := topS 38
def n_law : DC := ⟨["script", "state", "t", "one", "great", "tried", "word", "bads", "n", "d", "bad"], [], [], false⟩
theorem ck_law : cDef rc n_law (defScope s_law) (defBody s_law) = some b_law := by kernel_rfl
def dd_is_integer : He.DefD := ⟨(ag "is_integer"), "is_integer", "is_integer", defArgs s_is_integer, defBody s_is_integer, defScope s_is_integer, [], []⟩
def dd_common : He.DefD := ⟨(ag "common"), "common", "common", defArgs s_common, defBody s_common, defScope s_common, [], []⟩
def dd_Ratio_init : He.DefD := ⟨(am "Ratio" "__init__"), "__init__", "Ratio.__init__", defArgs s_Ratio_init, defBody s_Ratio_init, defScope s_Ratio_init, [.int 1], []⟩
def dd_Ratio_add : He.DefD := ⟨(am "Ratio" "__add__"), "__add__", "Ratio.__add__", defArgs s_Ratio_add, defBody s_Ratio_add, defScope s_Ratio_add, [], []⟩
def dd_Ratio_sub : He.DefD := ⟨(am "Ratio" "__sub__"), "__sub__", "Ratio.__sub__", defArgs s_Ratio_sub, defBody s_Ratio_sub, defScope s_Ratio_sub, [], []⟩
def dd_Ratio_mul : He.DefD := ⟨(am "Ratio" "__mul__"), "__mul__", "Ratio.__mul__", defArgs s_Ratio_mul, defBody s_Ratio_mul, defScope s_Ratio_mul, [], []⟩
def dd_Ratio_neg : He.DefD := ⟨(am "Ratio" "__neg__"), "__neg__", "Ratio.__neg__", defArgs s_Ratio_neg, defBody s_Ratio_neg, defScope s_Ratio_neg, [], []⟩
def dd_Ratio_eq : He.DefD := ⟨(am "Ratio" "__eq__"), "__eq__", "Ratio.__eq__", defArgs s_Ratio_eq, defBody s_Ratio_eq, defScope s_Ratio_eq, [], []⟩
def dd_Ratio_over : He.DefD := ⟨(am "Ratio" "over"), "over", "Ratio.over", defArgs s_Ratio_over, defBody s_Ratio_over, defScope s_Ratio_over, [], []⟩
def dd_Ratio_less : He.DefD := ⟨(am "Ratio" "less"), "less", "Ratio.less", defArgs s_Ratio_less, defBody s_Ratio_less, defScope s_Ratio_less, [], []⟩
def dd_Ratio_sign : He.DefD := ⟨(am "Ratio" "sign"), "sign", "Ratio.sign", defArgs s_Ratio_sign, defBody s_Ratio_sign, defScope s_Ratio_sign, [], []⟩
def dd_Ratio_is_whole : He.DefD := ⟨(am "Ratio" "is_whole"), "is_whole", "Ratio.is_whole", defArgs s_Ratio_is_whole, defBody s_Ratio_is_whole, defScope s_Ratio_is_whole, [], []⟩
def dd_Ratio_floor : He.DefD := ⟨(am "Ratio" "floor"), "floor", "Ratio.floor", defArgs s_Ratio_floor, defBody s_Ratio_floor, defScope s_Ratio_floor, [], []⟩
def dd_check_ratio : He.DefD := ⟨(ag "check_ratio"), "check_ratio", "check_ratio", defArgs s_check_ratio, defBody s_check_ratio, defScope s_check_ratio, [], []⟩
def dd_as_ratio : He.DefD := ⟨(ag "as_ratio"), "as_ratio", "as_ratio", defArgs s_as_ratio, defBody s_as_ratio, defScope s_as_ratio, [], []⟩
def dd_are_ratios : He.DefD := ⟨(ag "are_ratios"), "are_ratios", "are_ratios", defArgs s_are_ratios, defBody s_are_ratios, defScope s_are_ratios, [], []⟩
def dd_ratio_text : He.DefD := ⟨(ag "ratio_text"), "ratio_text", "ratio_text", defArgs s_ratio_text, defBody s_ratio_text, defScope s_ratio_text, [], []⟩
def dd_read_ratio : He.DefD := ⟨(ag "read_ratio"), "read_ratio", "read_ratio", defArgs s_read_ratio, defBody s_read_ratio, defScope s_read_ratio, [], []⟩
def dd_ratio_is_number : He.DefD := ⟨(ag "is_number"), "is_number", "is_number", defArgs s_ratio_is_number, defBody s_ratio_is_number, defScope s_ratio_is_number, [], []⟩
def dd_ratio_sum : He.DefD := ⟨(ag "ratio_sum"), "ratio_sum", "ratio_sum", defArgs s_ratio_sum, defBody s_ratio_sum, defScope s_ratio_sum, [], []⟩
def dd_ratio_dot : He.DefD := ⟨(ag "ratio_dot"), "ratio_dot", "ratio_dot", defArgs s_ratio_dot, defBody s_ratio_dot, defScope s_ratio_dot, [], []⟩
def dd_law_state : He.DefD := ⟨(ag "_law_state"), "_law_state", "_law_state", defArgs s_law_state, defBody s_law_state, defScope s_law_state, [], []⟩
def dd_law_take : He.DefD := ⟨(ag "_law_take"), "_law_take", "_law_take", defArgs s_law_take, defBody s_law_take, defScope s_law_take, [], []⟩
def dd_law_says : He.DefD := ⟨(ag "_law_says"), "_law_says", "_law_says", defArgs s_law_says, defBody s_law_says, defScope s_law_says, [], []⟩
def dd_law_is_whole : He.DefD := ⟨(ag "_law_is_whole"), "_law_is_whole", "_law_is_whole", defArgs s_law_is_whole, defBody s_law_is_whole, defScope s_law_is_whole, [], []⟩
def dd_law_same : He.DefD := ⟨(ag "_law_same"), "_law_same", "_law_same", defArgs s_law_same, defBody s_law_same, defScope s_law_same, [], []⟩
def dd_law_told : He.DefD := ⟨(ag "_law_told"), "_law_told", "_law_told", defArgs s_law_told, defBody s_law_told, defScope s_law_told, [], []⟩
def dd_law_all_malformed : He.DefD := ⟨(ag "_law_all_malformed"), "_law_all_malformed", "_law_all_malformed", defArgs s_law_all_malformed, defBody s_law_all_malformed, defScope s_law_all_malformed, [], []⟩
def dd_law_common : He.DefD := ⟨(ag "_law_common"), "_law_common", "_law_common", defArgs s_law_common, defBody s_law_common, defScope s_law_common, [], []⟩
def dd_law_plain : He.DefD := ⟨(ag "_law_plain"), "_law_plain", "_law_plain", defArgs s_law_plain, defBody s_law_plain, defScope s_law_plain, [], []⟩
def dd_law_pair : He.DefD := ⟨(ag "_law_pair"), "_law_pair", "_law_pair", defArgs s_law_pair, defBody s_law_pair, defScope s_law_pair, [], []⟩
def dd_law_is : He.DefD := ⟨(ag "_law_is"), "_law_is", "_law_is", defArgs s_law_is, defBody s_law_is, defScope s_law_is, [], []⟩
def dd_law_ops_hold : He.DefD := ⟨(ag "_law_ops_hold"), "_law_ops_hold", "_law_ops_hold", defArgs s_law_ops_hold, defBody s_law_ops_hold, defScope s_law_ops_hold, [], []⟩
def dd_law_over : He.DefD := ⟨(ag "_law_over"), "_law_over", "_law_over", defArgs s_law_over, defBody s_law_over, defScope s_law_over, [], []⟩
def dd_law_reads_itself : He.DefD := ⟨(ag "_law_reads_itself"), "_law_reads_itself", "_law_reads_itself", defArgs s_law_reads_itself, defBody s_law_reads_itself, defScope s_law_reads_itself, [], []⟩
def dd_law_sums_hold : He.DefD := ⟨(ag "_law_sums_hold"), "_law_sums_hold", "_law_sums_hold", defArgs s_law_sums_hold, defBody s_law_sums_hold, defScope s_law_sums_hold, [], []⟩
def dd_law_made : He.DefD := ⟨(ag "_law_made"), "_law_made", "_law_made", defArgs s_law_made, defBody s_law_made, defScope s_law_made, [], []⟩
def dd_law_act : He.DefD := ⟨(ag "_law_act"), "_law_act", "_law_act", defArgs s_law_act, defBody s_law_act, defScope s_law_act, [], []⟩
def dd_law : He.DefD := ⟨(ag "law"), "law", "law", defArgs s_law, defBody s_law, defScope s_law, [], []⟩
def s_x0 : Stmt := inClass (topS 2) 0
def dd_x0 : He.DefD := ⟨am "Malformed" "__init__", "__init__", "Malformed.__init__", defArgs s_x0, defBody s_x0, defScope s_x0, [], []⟩
def s_x1 : Stmt := inClass (topS 3) 0
def dd_x1 : He.DefD := ⟨am "Refused" "__init__", "__init__", "Refused.__init__", defArgs s_x1, defBody s_x1, defScope s_x1, [], []⟩
def s_x2 : Stmt := inClass (topS 4) 0
def dd_x2 : He.DefD := ⟨am "NoText" "__init__", "__init__", "NoText.__init__", defArgs s_x2, defBody s_x2, defScope s_x2, [], []⟩
def rd : RD where
  rc := rc
  Γ := pg
  fns := [fp f_is_integer (ag "is_integer"), fp f_common (ag "common"), fp f_Ratio_init (am "Ratio" "__init__"), fp f_Ratio_add (am "Ratio" "__add__"), fp f_Ratio_sub (am "Ratio" "__sub__"), fp f_Ratio_mul (am "Ratio" "__mul__"), fp f_Ratio_neg (am "Ratio" "__neg__"), fp f_Ratio_eq (am "Ratio" "__eq__"), fp f_Ratio_over (am "Ratio" "over"), fp f_Ratio_less (am "Ratio" "less"), fp f_Ratio_sign (am "Ratio" "sign"), fp f_Ratio_is_whole (am "Ratio" "is_whole"), fp f_Ratio_floor (am "Ratio" "floor"), fp f_check_ratio (ag "check_ratio"), fp f_as_ratio (ag "as_ratio"), fp f_are_ratios (ag "are_ratios"), fp f_ratio_text (ag "ratio_text"), fp f_read_ratio (ag "read_ratio"), fp f_ratio_is_number (ag "is_number"), fp f_ratio_sum (ag "ratio_sum"), fp f_ratio_dot (ag "ratio_dot"), fp f_law_state (ag "_law_state"), fp f_law_take (ag "_law_take"), fp f_law_says (ag "_law_says"), fp f_law_is_whole (ag "_law_is_whole"), fp f_law_same (ag "_law_same"), fp f_law_told (ag "_law_told"), fp f_law_all_malformed (ag "_law_all_malformed"), fp f_law_common (ag "_law_common"), fp f_law_plain (ag "_law_plain"), fp f_law_pair (ag "_law_pair"), fp f_law_is (ag "_law_is"), fp f_law_ops_hold (ag "_law_ops_hold"), fp f_law_over (ag "_law_over"), fp f_law_reads_itself (ag "_law_reads_itself"), fp f_law_sums_hold (ag "_law_sums_hold"), fp f_law_made (ag "_law_made"), fp f_law_act (ag "_law_act"), fp f_law (ag "law")]
  cls := [cp c_Ratio "Ratio"]
  exs := [cp 0 "Malformed", cp 1 "Refused", cp 2 "NoText"]
def fnl : List He.DefD := [dd_is_integer, dd_common, dd_Ratio_init, dd_Ratio_add, dd_Ratio_sub, dd_Ratio_mul, dd_Ratio_neg, dd_Ratio_eq, dd_Ratio_over, dd_Ratio_less, dd_Ratio_sign, dd_Ratio_is_whole, dd_Ratio_floor, dd_check_ratio, dd_as_ratio, dd_are_ratios, dd_ratio_text, dd_read_ratio, dd_ratio_is_number, dd_ratio_sum, dd_ratio_dot, dd_law_state, dd_law_take, dd_law_says, dd_law_is_whole, dd_law_same, dd_law_told, dd_law_all_malformed, dd_law_common, dd_law_plain, dd_law_pair, dd_law_is, dd_law_ops_hold, dd_law_over, dd_law_reads_itself, dd_law_sums_hold, dd_law_made, dd_law_act, dd_law, dd_x0, dd_x1, dd_x2]
theorem df_is_integer {K : PySem.W.Frag} (c : SaysR rd fnl K) : ∃ fd, DefOk rd.rc (rd.G K) K f_is_integer d_is_integer (He.fAd K (ag "is_integer")) fd ["value"] := by
  obtain ⟨fd, F⟩ := c.def_ 0 (d := dd_is_integer) rfl
  exact ⟨fd, def_0 (DD := n_is_integer) (ps := ["value"]) c.ok F rfl ⟨rfl, rfl, rfl, by decide +kernel, rfl, by decide +kernel, by decide +kernel⟩ rfl rfl rfl ck_is_integer (by decide +kernel) (fun _ _ _ _ _ _ us hl => match us, hl with | [_], _ => rfl)⟩
theorem df_common {K : PySem.W.Frag} (c : SaysR rd fnl K) : ∃ fd, DefOk rd.rc (rd.G K) K f_common d_common (He.fAd K (ag "common")) fd ["a", "b"] := by
  obtain ⟨fd, F⟩ := c.def_ 1 (d := dd_common) rfl
  exact ⟨fd, def_0 (DD := n_common) (ps := ["a", "b"]) c.ok F rfl ⟨rfl, rfl, rfl, by decide +kernel, rfl, by decide +kernel, by decide +kernel⟩ rfl rfl rfl ck_common (by decide +kernel) (fun _ _ _ _ _ _ us hl => match us, hl with | [_, _], _ => rfl)⟩
theorem df_Ratio_init {K : PySem.W.Frag} (c : SaysR rd fnl K) : ∃ fd, DefOk rd.rc (rd.G K) K f_Ratio_init d_Ratio_init (He.fAd K (am "Ratio" "__init__")) fd ["self", "n", "d"] := by
  obtain ⟨fd, F⟩ := c.def_ 2 (d := dd_Ratio_init) rfl
  exact ⟨fd, def_1 (DD := n_Ratio_init) (ps := ["self", "n", "d"]) (d := (.int 1)) c.ok F rfl ⟨rfl, rfl, rfl, by decide +kernel, rfl, by decide +kernel, by decide +kernel⟩ rfl rfl rfl (fun _ => by first | exact .int _ | exact .non | exact .str _ | exact .bl _) ck_Ratio_init (by decide +kernel) rfl (fun _ _ _ _ _ _ _ us its hl hi => match us, its, hl, hi with | [_, _, _], [_], _, _ => ⟨_, rfl, rfl⟩) (fun _ _ _ _ _ _ _ us its hl hi => match us, its, hl, hi with | [_, _], [_], _, _ => ⟨_, rfl, rfl⟩)⟩
theorem df_Ratio_add {K : PySem.W.Frag} (c : SaysR rd fnl K) : ∃ fd, DefOk rd.rc (rd.G K) K f_Ratio_add d_Ratio_add (He.fAd K (am "Ratio" "__add__")) fd ["self", "other"] := by
  obtain ⟨fd, F⟩ := c.def_ 3 (d := dd_Ratio_add) rfl
  exact ⟨fd, def_0 (DD := n_Ratio_add) (ps := ["self", "other"]) c.ok F rfl ⟨rfl, rfl, rfl, by decide +kernel, rfl, by decide +kernel, by decide +kernel⟩ rfl rfl rfl ck_Ratio_add (by decide +kernel) (fun _ _ _ _ _ _ us hl => match us, hl with | [_, _], _ => rfl)⟩
theorem df_Ratio_sub {K : PySem.W.Frag} (c : SaysR rd fnl K) : ∃ fd, DefOk rd.rc (rd.G K) K f_Ratio_sub d_Ratio_sub (He.fAd K (am "Ratio" "__sub__")) fd ["self", "other"] := by
  obtain ⟨fd, F⟩ := c.def_ 4 (d := dd_Ratio_sub) rfl
  exact ⟨fd, def_0 (DD := n_Ratio_sub) (ps := ["self", "other"]) c.ok F rfl ⟨rfl, rfl, rfl, by decide +kernel, rfl, by decide +kernel, by decide +kernel⟩ rfl rfl rfl ck_Ratio_sub (by decide +kernel) (fun _ _ _ _ _ _ us hl => match us, hl with | [_, _], _ => rfl)⟩
theorem df_Ratio_mul {K : PySem.W.Frag} (c : SaysR rd fnl K) : ∃ fd, DefOk rd.rc (rd.G K) K f_Ratio_mul d_Ratio_mul (He.fAd K (am "Ratio" "__mul__")) fd ["self", "other"] := by
  obtain ⟨fd, F⟩ := c.def_ 5 (d := dd_Ratio_mul) rfl
  exact ⟨fd, def_0 (DD := n_Ratio_mul) (ps := ["self", "other"]) c.ok F rfl ⟨rfl, rfl, rfl, by decide +kernel, rfl, by decide +kernel, by decide +kernel⟩ rfl rfl rfl ck_Ratio_mul (by decide +kernel) (fun _ _ _ _ _ _ us hl => match us, hl with | [_, _], _ => rfl)⟩
theorem df_Ratio_neg {K : PySem.W.Frag} (c : SaysR rd fnl K) : ∃ fd, DefOk rd.rc (rd.G K) K f_Ratio_neg d_Ratio_neg (He.fAd K (am "Ratio" "__neg__")) fd ["self"] := by
  obtain ⟨fd, F⟩ := c.def_ 6 (d := dd_Ratio_neg) rfl
  exact ⟨fd, def_0 (DD := n_Ratio_neg) (ps := ["self"]) c.ok F rfl ⟨rfl, rfl, rfl, by decide +kernel, rfl, by decide +kernel, by decide +kernel⟩ rfl rfl rfl ck_Ratio_neg (by decide +kernel) (fun _ _ _ _ _ _ us hl => match us, hl with | [_], _ => rfl)⟩
theorem df_Ratio_eq {K : PySem.W.Frag} (c : SaysR rd fnl K) : ∃ fd, DefOk rd.rc (rd.G K) K f_Ratio_eq d_Ratio_eq (He.fAd K (am "Ratio" "__eq__")) fd ["self", "other"] := by
  obtain ⟨fd, F⟩ := c.def_ 7 (d := dd_Ratio_eq) rfl
  exact ⟨fd, def_0 (DD := n_Ratio_eq) (ps := ["self", "other"]) c.ok F rfl ⟨rfl, rfl, rfl, by decide +kernel, rfl, by decide +kernel, by decide +kernel⟩ rfl rfl rfl ck_Ratio_eq (by decide +kernel) (fun _ _ _ _ _ _ us hl => match us, hl with | [_, _], _ => rfl)⟩
theorem df_Ratio_over {K : PySem.W.Frag} (c : SaysR rd fnl K) : ∃ fd, DefOk rd.rc (rd.G K) K f_Ratio_over d_Ratio_over (He.fAd K (am "Ratio" "over")) fd ["self", "other"] := by
  obtain ⟨fd, F⟩ := c.def_ 8 (d := dd_Ratio_over) rfl
  exact ⟨fd, def_0 (DD := n_Ratio_over) (ps := ["self", "other"]) c.ok F rfl ⟨rfl, rfl, rfl, by decide +kernel, rfl, by decide +kernel, by decide +kernel⟩ rfl rfl rfl ck_Ratio_over (by decide +kernel) (fun _ _ _ _ _ _ us hl => match us, hl with | [_, _], _ => rfl)⟩
theorem df_Ratio_less {K : PySem.W.Frag} (c : SaysR rd fnl K) : ∃ fd, DefOk rd.rc (rd.G K) K f_Ratio_less d_Ratio_less (He.fAd K (am "Ratio" "less")) fd ["self", "other"] := by
  obtain ⟨fd, F⟩ := c.def_ 9 (d := dd_Ratio_less) rfl
  exact ⟨fd, def_0 (DD := n_Ratio_less) (ps := ["self", "other"]) c.ok F rfl ⟨rfl, rfl, rfl, by decide +kernel, rfl, by decide +kernel, by decide +kernel⟩ rfl rfl rfl ck_Ratio_less (by decide +kernel) (fun _ _ _ _ _ _ us hl => match us, hl with | [_, _], _ => rfl)⟩
theorem df_Ratio_sign {K : PySem.W.Frag} (c : SaysR rd fnl K) : ∃ fd, DefOk rd.rc (rd.G K) K f_Ratio_sign d_Ratio_sign (He.fAd K (am "Ratio" "sign")) fd ["self"] := by
  obtain ⟨fd, F⟩ := c.def_ 10 (d := dd_Ratio_sign) rfl
  exact ⟨fd, def_0 (DD := n_Ratio_sign) (ps := ["self"]) c.ok F rfl ⟨rfl, rfl, rfl, by decide +kernel, rfl, by decide +kernel, by decide +kernel⟩ rfl rfl rfl ck_Ratio_sign (by decide +kernel) (fun _ _ _ _ _ _ us hl => match us, hl with | [_], _ => rfl)⟩
theorem df_Ratio_is_whole {K : PySem.W.Frag} (c : SaysR rd fnl K) : ∃ fd, DefOk rd.rc (rd.G K) K f_Ratio_is_whole d_Ratio_is_whole (He.fAd K (am "Ratio" "is_whole")) fd ["self"] := by
  obtain ⟨fd, F⟩ := c.def_ 11 (d := dd_Ratio_is_whole) rfl
  exact ⟨fd, def_0 (DD := n_Ratio_is_whole) (ps := ["self"]) c.ok F rfl ⟨rfl, rfl, rfl, by decide +kernel, rfl, by decide +kernel, by decide +kernel⟩ rfl rfl rfl ck_Ratio_is_whole (by decide +kernel) (fun _ _ _ _ _ _ us hl => match us, hl with | [_], _ => rfl)⟩
theorem df_Ratio_floor {K : PySem.W.Frag} (c : SaysR rd fnl K) : ∃ fd, DefOk rd.rc (rd.G K) K f_Ratio_floor d_Ratio_floor (He.fAd K (am "Ratio" "floor")) fd ["self"] := by
  obtain ⟨fd, F⟩ := c.def_ 12 (d := dd_Ratio_floor) rfl
  exact ⟨fd, def_0 (DD := n_Ratio_floor) (ps := ["self"]) c.ok F rfl ⟨rfl, rfl, rfl, by decide +kernel, rfl, by decide +kernel, by decide +kernel⟩ rfl rfl rfl ck_Ratio_floor (by decide +kernel) (fun _ _ _ _ _ _ us hl => match us, hl with | [_], _ => rfl)⟩
theorem df_check_ratio {K : PySem.W.Frag} (c : SaysR rd fnl K) : ∃ fd, DefOk rd.rc (rd.G K) K f_check_ratio d_check_ratio (He.fAd K (ag "check_ratio")) fd ["value"] := by
  obtain ⟨fd, F⟩ := c.def_ 13 (d := dd_check_ratio) rfl
  exact ⟨fd, def_0 (DD := n_check_ratio) (ps := ["value"]) c.ok F rfl ⟨rfl, rfl, rfl, by decide +kernel, rfl, by decide +kernel, by decide +kernel⟩ rfl rfl rfl ck_check_ratio (by decide +kernel) (fun _ _ _ _ _ _ us hl => match us, hl with | [_], _ => rfl)⟩
theorem df_as_ratio {K : PySem.W.Frag} (c : SaysR rd fnl K) : ∃ fd, DefOk rd.rc (rd.G K) K f_as_ratio d_as_ratio (He.fAd K (ag "as_ratio")) fd ["value"] := by
  obtain ⟨fd, F⟩ := c.def_ 14 (d := dd_as_ratio) rfl
  exact ⟨fd, def_0 (DD := n_as_ratio) (ps := ["value"]) c.ok F rfl ⟨rfl, rfl, rfl, by decide +kernel, rfl, by decide +kernel, by decide +kernel⟩ rfl rfl rfl ck_as_ratio (by decide +kernel) (fun _ _ _ _ _ _ us hl => match us, hl with | [_], _ => rfl)⟩
theorem df_are_ratios {K : PySem.W.Frag} (c : SaysR rd fnl K) : ∃ fd, DefOk rd.rc (rd.G K) K f_are_ratios d_are_ratios (He.fAd K (ag "are_ratios")) fd ["value"] := by
  obtain ⟨fd, F⟩ := c.def_ 15 (d := dd_are_ratios) rfl
  exact ⟨fd, def_0 (DD := n_are_ratios) (ps := ["value"]) c.ok F rfl ⟨rfl, rfl, rfl, by decide +kernel, rfl, by decide +kernel, by decide +kernel⟩ rfl rfl rfl ck_are_ratios (by decide +kernel) (fun _ _ _ _ _ _ us hl => match us, hl with | [_], _ => rfl)⟩
theorem df_ratio_text {K : PySem.W.Frag} (c : SaysR rd fnl K) : ∃ fd, DefOk rd.rc (rd.G K) K f_ratio_text d_ratio_text (He.fAd K (ag "ratio_text")) fd ["value"] := by
  obtain ⟨fd, F⟩ := c.def_ 16 (d := dd_ratio_text) rfl
  exact ⟨fd, def_0 (DD := n_ratio_text) (ps := ["value"]) c.ok F rfl ⟨rfl, rfl, rfl, by decide +kernel, rfl, by decide +kernel, by decide +kernel⟩ rfl rfl rfl ck_ratio_text (by decide +kernel) (fun _ _ _ _ _ _ us hl => match us, hl with | [_], _ => rfl)⟩
theorem df_read_ratio {K : PySem.W.Frag} (c : SaysR rd fnl K) : ∃ fd, DefOk rd.rc (rd.G K) K f_read_ratio d_read_ratio (He.fAd K (ag "read_ratio")) fd ["text"] := by
  obtain ⟨fd, F⟩ := c.def_ 17 (d := dd_read_ratio) rfl
  exact ⟨fd, def_0 (DD := n_read_ratio) (ps := ["text"]) c.ok F rfl ⟨rfl, rfl, rfl, by decide +kernel, rfl, by decide +kernel, by decide +kernel⟩ rfl rfl rfl ck_read_ratio (by decide +kernel) (fun _ _ _ _ _ _ us hl => match us, hl with | [_], _ => rfl)⟩
theorem df_ratio_is_number {K : PySem.W.Frag} (c : SaysR rd fnl K) : ∃ fd, DefOk rd.rc (rd.G K) K f_ratio_is_number d_ratio_is_number (He.fAd K (ag "is_number")) fd ["text"] := by
  obtain ⟨fd, F⟩ := c.def_ 18 (d := dd_ratio_is_number) rfl
  exact ⟨fd, def_0 (DD := n_ratio_is_number) (ps := ["text"]) c.ok F rfl ⟨rfl, rfl, rfl, by decide +kernel, rfl, by decide +kernel, by decide +kernel⟩ rfl rfl rfl ck_ratio_is_number (by decide +kernel) (fun _ _ _ _ _ _ us hl => match us, hl with | [_], _ => rfl)⟩
theorem df_ratio_sum {K : PySem.W.Frag} (c : SaysR rd fnl K) : ∃ fd, DefOk rd.rc (rd.G K) K f_ratio_sum d_ratio_sum (He.fAd K (ag "ratio_sum")) fd ["values"] := by
  obtain ⟨fd, F⟩ := c.def_ 19 (d := dd_ratio_sum) rfl
  exact ⟨fd, def_0 (DD := n_ratio_sum) (ps := ["values"]) c.ok F rfl ⟨rfl, rfl, rfl, by decide +kernel, rfl, by decide +kernel, by decide +kernel⟩ rfl rfl rfl ck_ratio_sum (by decide +kernel) (fun _ _ _ _ _ _ us hl => match us, hl with | [_], _ => rfl)⟩
theorem df_ratio_dot {K : PySem.W.Frag} (c : SaysR rd fnl K) : ∃ fd, DefOk rd.rc (rd.G K) K f_ratio_dot d_ratio_dot (He.fAd K (ag "ratio_dot")) fd ["one", "two"] := by
  obtain ⟨fd, F⟩ := c.def_ 20 (d := dd_ratio_dot) rfl
  exact ⟨fd, def_0 (DD := n_ratio_dot) (ps := ["one", "two"]) c.ok F rfl ⟨rfl, rfl, rfl, by decide +kernel, rfl, by decide +kernel, by decide +kernel⟩ rfl rfl rfl ck_ratio_dot (by decide +kernel) (fun _ _ _ _ _ _ us hl => match us, hl with | [_, _], _ => rfl)⟩
theorem df_law_state {K : PySem.W.Frag} (c : SaysR rd fnl K) : ∃ fd, DefOk rd.rc (rd.G K) K f_law_state d_law_state (He.fAd K (ag "_law_state")) fd ["script"] := by
  obtain ⟨fd, F⟩ := c.def_ 21 (d := dd_law_state) rfl
  exact ⟨fd, def_0 (DD := n_law_state) (ps := ["script"]) c.ok F rfl ⟨rfl, rfl, rfl, by decide +kernel, rfl, by decide +kernel, by decide +kernel⟩ rfl rfl rfl ck_law_state (by decide +kernel) (fun _ _ _ _ _ _ us hl => match us, hl with | [_], _ => rfl)⟩
theorem df_law_take {K : PySem.W.Frag} (c : SaysR rd fnl K) : ∃ fd, DefOk rd.rc (rd.G K) K f_law_take d_law_take (He.fAd K (ag "_law_take")) fd ["state", "m"] := by
  obtain ⟨fd, F⟩ := c.def_ 22 (d := dd_law_take) rfl
  exact ⟨fd, def_0 (DD := n_law_take) (ps := ["state", "m"]) c.ok F rfl ⟨rfl, rfl, rfl, by decide +kernel, rfl, by decide +kernel, by decide +kernel⟩ rfl rfl rfl ck_law_take (by decide +kernel) (fun _ _ _ _ _ _ us hl => match us, hl with | [_, _], _ => rfl)⟩
theorem df_law_says {K : PySem.W.Frag} (c : SaysR rd fnl K) : ∃ fd, DefOk rd.rc (rd.G K) K f_law_says d_law_says (He.fAd K (ag "_law_says")) fd ["value", "due"] := by
  obtain ⟨fd, F⟩ := c.def_ 23 (d := dd_law_says) rfl
  exact ⟨fd, def_0 (DD := n_law_says) (ps := ["value", "due"]) c.ok F rfl ⟨rfl, rfl, rfl, by decide +kernel, rfl, by decide +kernel, by decide +kernel⟩ rfl rfl rfl ck_law_says (by decide +kernel) (fun _ _ _ _ _ _ us hl => match us, hl with | [_, _], _ => rfl)⟩
theorem df_law_is_whole {K : PySem.W.Frag} (c : SaysR rd fnl K) : ∃ fd, DefOk rd.rc (rd.G K) K f_law_is_whole d_law_is_whole (He.fAd K (ag "_law_is_whole")) fd ["value"] := by
  obtain ⟨fd, F⟩ := c.def_ 24 (d := dd_law_is_whole) rfl
  exact ⟨fd, def_0 (DD := n_law_is_whole) (ps := ["value"]) c.ok F rfl ⟨rfl, rfl, rfl, by decide +kernel, rfl, by decide +kernel, by decide +kernel⟩ rfl rfl rfl ck_law_is_whole (by decide +kernel) (fun _ _ _ _ _ _ us hl => match us, hl with | [_], _ => rfl)⟩
theorem df_law_same {K : PySem.W.Frag} (c : SaysR rd fnl K) : ∃ fd, DefOk rd.rc (rd.G K) K f_law_same d_law_same (He.fAd K (ag "_law_same")) fd ["one", "two"] := by
  obtain ⟨fd, F⟩ := c.def_ 25 (d := dd_law_same) rfl
  exact ⟨fd, def_0 (DD := n_law_same) (ps := ["one", "two"]) c.ok F rfl ⟨rfl, rfl, rfl, by decide +kernel, rfl, by decide +kernel, by decide +kernel⟩ rfl rfl rfl ck_law_same (by decide +kernel) (fun _ _ _ _ _ _ us hl => match us, hl with | [_, _], _ => rfl)⟩
theorem df_law_told {K : PySem.W.Frag} (c : SaysR rd fnl K) : ∃ fd, DefOk rd.rc (rd.G K) K f_law_told d_law_told (He.fAd K (ag "_law_told")) fd ["act", "given"] := by
  obtain ⟨fd, F⟩ := c.def_ 26 (d := dd_law_told) rfl
  exact ⟨fd, def_0 (DD := n_law_told) (ps := ["act", "given"]) c.ok F rfl ⟨rfl, rfl, rfl, by decide +kernel, rfl, by decide +kernel, by decide +kernel⟩ rfl rfl rfl ck_law_told (by decide +kernel) (fun _ _ _ _ _ _ us hl => match us, hl with | [_, _], _ => rfl)⟩
theorem df_law_all_malformed {K : PySem.W.Frag} (c : SaysR rd fnl K) : ∃ fd, DefOk rd.rc (rd.G K) K f_law_all_malformed d_law_all_malformed (He.fAd K (ag "_law_all_malformed")) fd ["tried"] := by
  obtain ⟨fd, F⟩ := c.def_ 27 (d := dd_law_all_malformed) rfl
  exact ⟨fd, def_0 (DD := n_law_all_malformed) (ps := ["tried"]) c.ok F rfl ⟨rfl, rfl, rfl, by decide +kernel, rfl, by decide +kernel, by decide +kernel⟩ rfl rfl rfl ck_law_all_malformed (by decide +kernel) (fun _ _ _ _ _ _ us hl => match us, hl with | [_], _ => rfl)⟩
theorem df_law_common {K : PySem.W.Frag} (c : SaysR rd fnl K) : ∃ fd, DefOk rd.rc (rd.G K) K f_law_common d_law_common (He.fAd K (ag "_law_common")) fd ["a", "b"] := by
  obtain ⟨fd, F⟩ := c.def_ 28 (d := dd_law_common) rfl
  exact ⟨fd, def_0 (DD := n_law_common) (ps := ["a", "b"]) c.ok F rfl ⟨rfl, rfl, rfl, by decide +kernel, rfl, by decide +kernel, by decide +kernel⟩ rfl rfl rfl ck_law_common (by decide +kernel) (fun _ _ _ _ _ _ us hl => match us, hl with | [_, _], _ => rfl)⟩
theorem df_law_plain {K : PySem.W.Frag} (c : SaysR rd fnl K) : ∃ fd, DefOk rd.rc (rd.G K) K f_law_plain d_law_plain (He.fAd K (ag "_law_plain")) fd ["n", "d"] := by
  obtain ⟨fd, F⟩ := c.def_ 29 (d := dd_law_plain) rfl
  exact ⟨fd, def_0 (DD := n_law_plain) (ps := ["n", "d"]) c.ok F rfl ⟨rfl, rfl, rfl, by decide +kernel, rfl, by decide +kernel, by decide +kernel⟩ rfl rfl rfl ck_law_plain (by decide +kernel) (fun _ _ _ _ _ _ us hl => match us, hl with | [_, _], _ => rfl)⟩
theorem df_law_pair {K : PySem.W.Frag} (c : SaysR rd fnl K) : ∃ fd, DefOk rd.rc (rd.G K) K f_law_pair d_law_pair (He.fAd K (ag "_law_pair")) fd ["state"] := by
  obtain ⟨fd, F⟩ := c.def_ 30 (d := dd_law_pair) rfl
  exact ⟨fd, def_0 (DD := n_law_pair) (ps := ["state"]) c.ok F rfl ⟨rfl, rfl, rfl, by decide +kernel, rfl, by decide +kernel, by decide +kernel⟩ rfl rfl rfl ck_law_pair (by decide +kernel) (fun _ _ _ _ _ _ us hl => match us, hl with | [_], _ => rfl)⟩
theorem df_law_is {K : PySem.W.Frag} (c : SaysR rd fnl K) : ∃ fd, DefOk rd.rc (rd.G K) K f_law_is d_law_is (He.fAd K (ag "_law_is")) fd ["value", "n", "d"] := by
  obtain ⟨fd, F⟩ := c.def_ 31 (d := dd_law_is) rfl
  exact ⟨fd, def_0 (DD := n_law_is) (ps := ["value", "n", "d"]) c.ok F rfl ⟨rfl, rfl, rfl, by decide +kernel, rfl, by decide +kernel, by decide +kernel⟩ rfl rfl rfl ck_law_is (by decide +kernel) (fun _ _ _ _ _ _ us hl => match us, hl with | [_, _, _], _ => rfl)⟩
theorem df_law_ops_hold {K : PySem.W.Frag} (c : SaysR rd fnl K) : ∃ fd, DefOk rd.rc (rd.G K) K f_law_ops_hold d_law_ops_hold (He.fAd K (ag "_law_ops_hold")) fd ["state"] := by
  obtain ⟨fd, F⟩ := c.def_ 32 (d := dd_law_ops_hold) rfl
  exact ⟨fd, def_0 (DD := n_law_ops_hold) (ps := ["state"]) c.ok F rfl ⟨rfl, rfl, rfl, by decide +kernel, rfl, by decide +kernel, by decide +kernel⟩ rfl rfl rfl ck_law_ops_hold (by decide +kernel) (fun _ _ _ _ _ _ us hl => match us, hl with | [_], _ => rfl)⟩
theorem df_law_over {K : PySem.W.Frag} (c : SaysR rd fnl K) : ∃ fd, DefOk rd.rc (rd.G K) K f_law_over d_law_over (He.fAd K (ag "_law_over")) fd ["one", "two"] := by
  obtain ⟨fd, F⟩ := c.def_ 33 (d := dd_law_over) rfl
  exact ⟨fd, def_0 (DD := n_law_over) (ps := ["one", "two"]) c.ok F rfl ⟨rfl, rfl, rfl, by decide +kernel, rfl, by decide +kernel, by decide +kernel⟩ rfl rfl rfl ck_law_over (by decide +kernel) (fun _ _ _ _ _ _ us hl => match us, hl with | [_, _], _ => rfl)⟩
theorem df_law_reads_itself {K : PySem.W.Frag} (c : SaysR rd fnl K) : ∃ fd, DefOk rd.rc (rd.G K) K f_law_reads_itself d_law_reads_itself (He.fAd K (ag "_law_reads_itself")) fd ["text"] := by
  obtain ⟨fd, F⟩ := c.def_ 34 (d := dd_law_reads_itself) rfl
  exact ⟨fd, def_0 (DD := n_law_reads_itself) (ps := ["text"]) c.ok F rfl ⟨rfl, rfl, rfl, by decide +kernel, rfl, by decide +kernel, by decide +kernel⟩ rfl rfl rfl ck_law_reads_itself (by decide +kernel) (fun _ _ _ _ _ _ us hl => match us, hl with | [_], _ => rfl)⟩
theorem df_law_sums_hold {K : PySem.W.Frag} (c : SaysR rd fnl K) : ∃ fd, DefOk rd.rc (rd.G K) K f_law_sums_hold d_law_sums_hold (He.fAd K (ag "_law_sums_hold")) fd ["state"] := by
  obtain ⟨fd, F⟩ := c.def_ 35 (d := dd_law_sums_hold) rfl
  exact ⟨fd, def_0 (DD := n_law_sums_hold) (ps := ["state"]) c.ok F rfl ⟨rfl, rfl, rfl, by decide +kernel, rfl, by decide +kernel, by decide +kernel⟩ rfl rfl rfl ck_law_sums_hold (by decide +kernel) (fun _ _ _ _ _ _ us hl => match us, hl with | [_], _ => rfl)⟩
theorem df_law_made {K : PySem.W.Frag} (c : SaysR rd fnl K) : ∃ fd, DefOk rd.rc (rd.G K) K f_law_made d_law_made (He.fAd K (ag "_law_made")) fd ["n", "d"] := by
  obtain ⟨fd, F⟩ := c.def_ 36 (d := dd_law_made) rfl
  exact ⟨fd, def_0 (DD := n_law_made) (ps := ["n", "d"]) c.ok F rfl ⟨rfl, rfl, rfl, by decide +kernel, rfl, by decide +kernel, by decide +kernel⟩ rfl rfl rfl ck_law_made (by decide +kernel) (fun _ _ _ _ _ _ us hl => match us, hl with | [_, _], _ => rfl)⟩
theorem df_law_act {K : PySem.W.Frag} (c : SaysR rd fnl K) : ∃ fd, DefOk rd.rc (rd.G K) K f_law_act d_law_act (He.fAd K (ag "_law_act")) fd ["one", "word", "other"] := by
  obtain ⟨fd, F⟩ := c.def_ 37 (d := dd_law_act) rfl
  exact ⟨fd, def_0 (DD := n_law_act) (ps := ["one", "word", "other"]) c.ok F rfl ⟨rfl, rfl, rfl, by decide +kernel, rfl, by decide +kernel, by decide +kernel⟩ rfl rfl rfl ck_law_act (by decide +kernel) (fun _ _ _ _ _ _ us hl => match us, hl with | [_, _, _], _ => rfl)⟩
theorem df_law {K : PySem.W.Frag} (c : SaysR rd fnl K) : ∃ fd, DefOk rd.rc (rd.G K) K f_law d_law (He.fAd K (ag "law")) fd ["script"] := by
  obtain ⟨fd, F⟩ := c.def_ 38 (d := dd_law) rfl
  exact ⟨fd, def_0 (DD := n_law) (ps := ["script"]) c.ok F rfl ⟨rfl, rfl, rfl, by decide +kernel, rfl, by decide +kernel, by decide +kernel⟩ rfl rfl rfl ck_law (by decide +kernel) (fun _ _ _ _ _ _ us hl => match us, hl with | [_], _ => rfl)⟩
theorem dfs {K : PySem.W.Frag} (c : SaysR rd fnl K) : ∀ n fnn, rd.Γ.fn n = some fnn → ∃ a fd ps, DefOk rd.rc (rd.G K) K n fnn a fd ps := by
  intro n fnn h
  have h : pg.fn n = some fnn := h
  unfold pg at h
  dsimp only at h
  split at h
  · cases h; obtain ⟨fd, D⟩ := df_is_integer c; exact ⟨_, fd, _, D⟩
  · cases h; obtain ⟨fd, D⟩ := df_common c; exact ⟨_, fd, _, D⟩
  · cases h; obtain ⟨fd, D⟩ := df_check_ratio c; exact ⟨_, fd, _, D⟩
  · cases h; obtain ⟨fd, D⟩ := df_as_ratio c; exact ⟨_, fd, _, D⟩
  · cases h; obtain ⟨fd, D⟩ := df_are_ratios c; exact ⟨_, fd, _, D⟩
  · cases h; obtain ⟨fd, D⟩ := df_ratio_text c; exact ⟨_, fd, _, D⟩
  · cases h; obtain ⟨fd, D⟩ := df_read_ratio c; exact ⟨_, fd, _, D⟩
  · cases h; obtain ⟨fd, D⟩ := df_ratio_is_number c; exact ⟨_, fd, _, D⟩
  · cases h; obtain ⟨fd, D⟩ := df_ratio_sum c; exact ⟨_, fd, _, D⟩
  · cases h; obtain ⟨fd, D⟩ := df_ratio_dot c; exact ⟨_, fd, _, D⟩
  · cases h; obtain ⟨fd, D⟩ := df_law_state c; exact ⟨_, fd, _, D⟩
  · cases h; obtain ⟨fd, D⟩ := df_law_take c; exact ⟨_, fd, _, D⟩
  · cases h; obtain ⟨fd, D⟩ := df_law_says c; exact ⟨_, fd, _, D⟩
  · cases h; obtain ⟨fd, D⟩ := df_law_is_whole c; exact ⟨_, fd, _, D⟩
  · cases h; obtain ⟨fd, D⟩ := df_law_same c; exact ⟨_, fd, _, D⟩
  · cases h; obtain ⟨fd, D⟩ := df_law_told c; exact ⟨_, fd, _, D⟩
  · cases h; obtain ⟨fd, D⟩ := df_law_all_malformed c; exact ⟨_, fd, _, D⟩
  · cases h; obtain ⟨fd, D⟩ := df_law_common c; exact ⟨_, fd, _, D⟩
  · cases h; obtain ⟨fd, D⟩ := df_law_plain c; exact ⟨_, fd, _, D⟩
  · cases h; obtain ⟨fd, D⟩ := df_law_pair c; exact ⟨_, fd, _, D⟩
  · cases h; obtain ⟨fd, D⟩ := df_law_is c; exact ⟨_, fd, _, D⟩
  · cases h; obtain ⟨fd, D⟩ := df_law_ops_hold c; exact ⟨_, fd, _, D⟩
  · cases h; obtain ⟨fd, D⟩ := df_law_over c; exact ⟨_, fd, _, D⟩
  · cases h; obtain ⟨fd, D⟩ := df_law_reads_itself c; exact ⟨_, fd, _, D⟩
  · cases h; obtain ⟨fd, D⟩ := df_law_sums_hold c; exact ⟨_, fd, _, D⟩
  · cases h; obtain ⟨fd, D⟩ := df_law_made c; exact ⟨_, fd, _, D⟩
  · cases h; obtain ⟨fd, D⟩ := df_law_act c; exact ⟨_, fd, _, D⟩
  · cases h; obtain ⟨fd, D⟩ := df_law c; exact ⟨_, fd, _, D⟩
  · cases h; obtain ⟨fd, D⟩ := df_Ratio_init c; exact ⟨_, fd, _, D⟩
  · cases h; obtain ⟨fd, D⟩ := df_Ratio_add c; exact ⟨_, fd, _, D⟩
  · cases h; obtain ⟨fd, D⟩ := df_Ratio_sub c; exact ⟨_, fd, _, D⟩
  · cases h; obtain ⟨fd, D⟩ := df_Ratio_mul c; exact ⟨_, fd, _, D⟩
  · cases h; obtain ⟨fd, D⟩ := df_Ratio_neg c; exact ⟨_, fd, _, D⟩
  · cases h; obtain ⟨fd, D⟩ := df_Ratio_eq c; exact ⟨_, fd, _, D⟩
  · cases h; obtain ⟨fd, D⟩ := df_Ratio_over c; exact ⟨_, fd, _, D⟩
  · cases h; obtain ⟨fd, D⟩ := df_Ratio_less c; exact ⟨_, fd, _, D⟩
  · cases h; obtain ⟨fd, D⟩ := df_Ratio_sign c; exact ⟨_, fd, _, D⟩
  · cases h; obtain ⟨fd, D⟩ := df_Ratio_is_whole c; exact ⟨_, fd, _, D⟩
  · cases h; obtain ⟨fd, D⟩ := df_Ratio_floor c; exact ⟨_, fd, _, D⟩
  · cases h
theorem hcl : ∀ c cl, rd.Γ.cl c = some cl → (rd.cls.lookup c).isSome = true := by
  intro c cl h
  have h : pg.cl c = some cl := h
  unfold pg at h
  dsimp only at h
  split at h <;> first | rfl | (cases h; done)
theorem exs (K : PySem.W.Frag) (mg : Str → Option Value) (h : Heap) (c : SaysR rd fnl K) (X : K.In h) (G : h.Ns mainGlobals mg) : ∀ n C, (rd.G K).exA n = some C → ∃ B fI qual, PySem.MnX.ExcTxt K mg ((rd.G K).xf n) qual C B fI := by
  intro n C hC
  have h0 := hC
  obtain ⟨p, hm, rfl⟩ := RD.exA_of h0
  have hm : (n, p) ∈ ([cp 0 "Malformed", cp 1 "Refused", cp 2 "NoText"] : List (Nat × Str)) := hm
  simp only [cp, List.mem_cons, Prod.mk.injEq, List.not_mem_nil, or_false] at hm
  rcases hm with ⟨rfl, rfl⟩ | ⟨rfl, rfl⟩ | ⟨rfl, rfl⟩
  · obtain ⟨fd, F⟩ := c.def_ 39 (d := dd_x0) rfl
    obtain ⟨oc, od, dV, kV, doc, pm, an, cdv, ct, osl, rfl, lk, hcd, hD, hK⟩ := F.ex
    rcases hD with ⟨_, rfl⟩ | ⟨e, _⟩
    · exact ⟨_, _, _, RD.exc_of c.ok X G rfl hC ⟨oc, od, kV, doc, pm, an, cdv, ct, osl, _, _, _, _, _, _, _, _, _, _, _, _, lk, hcd, rfl⟩⟩
    · exact absurd rfl e
  · obtain ⟨fd, F⟩ := c.def_ 40 (d := dd_x1) rfl
    obtain ⟨oc, od, dV, kV, doc, pm, an, cdv, ct, osl, rfl, lk, hcd, hD, hK⟩ := F.ex
    rcases hD with ⟨_, rfl⟩ | ⟨e, _⟩
    · exact ⟨_, _, _, RD.exc_of c.ok X G rfl hC ⟨oc, od, kV, doc, pm, an, cdv, ct, osl, _, _, _, _, _, _, _, _, _, _, _, _, lk, hcd, rfl⟩⟩
    · exact absurd rfl e
  · obtain ⟨fd, F⟩ := c.def_ 41 (d := dd_x2) rfl
    obtain ⟨oc, od, dV, kV, doc, pm, an, cdv, ct, osl, rfl, lk, hcd, hD, hK⟩ := F.ex
    rcases hD with ⟨_, rfl⟩ | ⟨e, _⟩
    · exact ⟨_, _, _, RD.exc_of c.ok X G rfl hC ⟨oc, od, kV, doc, pm, an, cdv, ct, osl, _, _, _, _, _, _, _, _, _, _, _, _, lk, hcd, rfl⟩⟩
    · exact absurd rfl e
theorem hot (P : Program) (w : World) (K : PySem.W.Frag) (mg : Str → Option Value) (base : Heap) (c : SaysR rd fnl K) (row : RowOk mg rd.rc (rd.G K)) : HotOk rd.rc (rd.G K) P w K mg base := by
  obtain ⟨fd, F⟩ := c.def_ 24 (d := dd_law_is_whole) rfl
  exact hot_of row rfl rfl F ⟨rfl, rfl, rfl, by decide +kernel, rfl, by decide +kernel, by decide +kernel⟩ rfl rfl (by decide +kernel) rfl (by decide +kernel) rfl (by decide +kernel) (F.bindsN fun _ _ _ _ _ _ us hl => match us, hl with | [_], _ => rfl)
abbrev RO : PySem.W.OpenRow := PySem.W.OpenLaw.row PySem.Challenge.rw_summedtrees_k00_whole_fractions
def names0 : List Str := ["__name__", "Fault", "Malformed", "Refused", "NoText", "is_integer", "common", "DIGITS", "MOST_SIGNS", "Ratio", "check_ratio", "as_ratio", "are_ratios", "ratio_text", "read_ratio", "is_number", "ratio_sum", "ratio_dot", "_law_state", "_law_take", "_law_says", "_law_is_whole", "_law_same", "_law_told", "_law_all_malformed", "_law_common", "_law_plain", "_law_pair", "_law_is", "_law_ops_hold"]
def names1 : List Str := ["_law_over", "_law_reads_itself", "_law_sums_hold", "_law_made", "_law_act"]
def names : List Str := names0 ++ names1
def lawIx : Nat := 38
def obs0 (s : PySem.W.SharedT) : AlR := obsRG 6 rd fnl (HandSHeadRun.getT s)
theorem lawDef (K : PySem.W.Frag) (c : SaysR rd fnl K) : ∃ fd, (∀ (s : Shared) (u : Value), BindsTo s fd ⟨[u], []⟩ [(("script" : Str), u)]) ∧ DefOk rd.rc (rd.G K) K f_law d_law (He.fAd K (ag "law")) fd ["script"] := by
  obtain ⟨fd, F⟩ := c.def_ 38 (d := dd_law) rfl
  have b := FunD.bindsA (ps := ["script"]) F fun _ _ _ _ _ _ us hl => match us, hl with | [_], _ => rfl
  exact ⟨fd, fun s u => b s [u] rfl, def_0 (DD := n_law) (ps := ["script"]) c.ok F rfl ⟨rfl, rfl, rfl, by decide +kernel, rfl, by decide +kernel, by decide +kernel⟩ rfl rfl rfl ck_law (by decide +kernel) (fun _ _ _ _ _ _ us hl => match us, hl with | [_], _ => rfl)⟩
end Mn.Row

set_option maxRecDepth 100000
namespace Mn.Row
open PySem PySem.W PySem.Calls PyProof.Rows L2
set_option maxHeartbeats 0 in
theorem run (w : World) : HandSHeadRun.RunEq RO (PySem.W.view RO.prog [lawIx]) (hookR 6 rd fnl) obs0 6000 names w := by
  intro os
  kernel_rfl
end Mn.Row

set_option maxRecDepth 100000
namespace Mn.Row
open PySem PySem.W PySem.Calls PyProof.Rows L2
set_option maxHeartbeats 0 in
theorem holds_of (es : EqSpec pg) (law : ∀ ns : List Int, ns.length ≤ 63 → ∃ S', callM pg 60 f_law [.val (.lst (ns.map Mn.D.int))] [] = .ok (.val (.bl true)) S') : PySem.Challenge.rw_summedtrees_k00_whole_fractions.Holds := by
  w_on; o_law
  refine HandSHeadRun.head_any (r := RO) (q := PySem.W.view RO.prog [lawIx]) (H := hookR 6 rd fnl) (ob := obs0) (M := 6000) (loose := names) (d := HandSHeadRun.topDef RO.prog lawIx) (kwd := []) (fun s => obsRG_eq (HandSHeadRun.getT_eq s))
    (by kernel_rfl) (fun s => by kernel_rfl) run (by kernel_rfl) (by kernel_rfl) (by kernel_rfl) (by rfl) (by first | assumption | decide +kernel) (by decide +kernel) ⟨rfl, rfl, rfl, rfl, rfl, by decide +kernel⟩ ?hw ?hc
  case hw => w_witness2
  case hc =>
    exact row_end (l := PySem.Challenge.rw_summedtrees_k00_whole_fractions) (n := 63) (k := 59) (f := f_law) (fnn := d_law) (at_ := ag "law") (x := "script") rfl (by decide) (by kernel_rfl) ⟨rfl, by decide, by decide⟩ (by decide) rfl rfl (by kernel_rfl) hcl es
      (fun K c => dfs c) lawDef exs hot law
end Mn.Row

theorem PySem.Challenge.cw_summedtrees_k00_whole_fractions_holds : PySem.Challenge.rw_summedtrees_k00_whole_fractions.Holds :=
  Mn.Row.holds_of Mn.Pf.eqSpec fun ns _ => Mn.Pf.s_law (by decide) ns
