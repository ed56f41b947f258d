import PyProof.Rows.All
import Wide.All
import OpenK.AllK
import Wide.FinOn
import HandS.Base
import HandS.Call
import HandS.List
import HandS.Comp
import HandS.Ends
import HandS.Exc
import HandS.Iter
import HandS.Zip
import HandS.Flow
import HandS.TryOnly
import HandS.ExcOwn
import HandS.Wide
import HandS.TupAny
import HandS.Words
import HandS.WordsExc
import HandS.Defaults
import HandS.Deep
import HandS.IsInst
import HandS.Style
import KE.GoesEnum
import KE.KTupSum
import KE.DataMinMax
import KE.SortData
import HandS.TupMul
import HandS.Conv
import PyProof.ExcBaseAll.ValueError
import HandS.Head1
import HandS.HeadEnd
import HandS.HeadHook1
import HandS.HeadHook2
import KE.KStateDown
import Lean
import HandS.More
import HandS.Head0
import HandS.Head2
import PySem.Challenge.RW_flippedthrees_k62_across_rests_words_and
set_option Elab.async false
set_option linter.all false
set_option maxRecDepth 100000
/-! Ev1: a small language of expressions and statements over pure data, and what must hold so that they do what is wanted (wp). -/
namespace Ev
open PySem PySem.Spec PyProof.Rows L2

/-- pure data: tuples are values, lists (and dicts) stand in a store -/
inductive D where
  | non | bl (b : Bool) | int (i : Int) | str (x : Str) | tup (l : List D) | ref (n : Nat)
/-- what stands in the store: a list, a list that is only read (the script) -/
inductive MO where
  | lst (l : List D) | ro (l : List D)
abbrev Store := List MO
abbrev Env' := List (Option D)
/-- the program's own exceptions -/
inductive Exc where
  | tooMany | unfit | canNot
  deriving DecidableEq
abbrev Post := D → Store → Prop
abbrev XPost := Exc → Store → Prop
/-- what a def is worth: arguments, store, what is wanted of its value, of what it raises -/
abbrev Con := List D → Store → Post → XPost → Prop
structure Fn where
  name : Str
  ps : List Str
  con : Con

inductive Bop where | add | sub | mul | fdiv | mod | pow
  deriving DecidableEq
inductive Cop where | eq | ne | lt | le | gt | ge | isin | notin
  deriving DecidableEq
inductive Tgt where | nm (i : Nat) | nms (is : List Nat)
inductive IK where | seq | range1 | range2 | enum | zip
  deriving DecidableEq
inductive Ty where | int | bool | tuple | list | str | listtuple | boolstr
  deriving DecidableEq
inductive Prim where
  | len | tuple | list | listrange | sum | max | min | min2 | abs | int | all | any | isi (t : Ty)
  deriving DecidableEq
inductive Mth where | append | pop | popat | extend
  deriving DecidableEq

inductive E where
  | var (i : Nat)
  | k (d : D)
  | glob (x : Str) (i : Int)
  | bin (o : Bop) (a b : E)
  | cmp (o : Cop) (a b : E)
  | chain (o p : Cop) (a b c : E)
  | isN (a : E) | notN (a : E)
  | and (a b : E) | or (a b : E) | not (a : E) | neg (a : E)
  | ife (c a b : E)
  | tup (es : List E) | lst (es : List E)
  | ix (a b : E)
  | sl (a : E) (lo hi : Option E)
  | rev (a : E)
  | call (f : Fn) (es : List E)
  | callk (f : Fn) (es : List E) (ks : List Str) (perm : List Nat) (kes : List E)
  | prim (p : Prim) (es : List E)
  | meth (m : Mth) (o : E) (es : List E)
  | lc (tg : Tgt) (k : IK) (its : List E) (cond : Option E) (elt : E)
  | tmp (e : E)

inductive S where
  | set (tg : Tgt) (e : E)
  | par (is : List Nat) (es : List E)
  | seti (o i e : E)
  | aug (i : Nat) (o : Bop) (e : E)
  | ret (e : E) | retN
  | ife (c : E) (a b : List S)
  | forr (tg : Tgt) (k : IK) (its : List E) (body : List S)
  | while (c : E) (body : List S)
  | expr (e : E)
  | raise (x : Exc)
  | pass | brk | cont

/-! ### data -/
mutual
/-- no reference within -/
def D.pure : D → Bool
  | .ref _ => false
  | .tup l => D.pureAll l
  | .str x => PyData.strOk x
  | _ => true
def D.pureAll : List D → Bool
  | [] => true
  | d :: l => D.pure d && D.pureAll l
end
mutual
def D.depth : D → Nat
  | .tup l => D.depthAll l + 1
  | _ => 0
def D.depthAll : List D → Nat
  | [] => 0
  | d :: l => max (D.depth d) (D.depthAll l)
end
mutual
/-- == of pure data, as Python says it (True is 1) -/
def D.eqv : D → D → Bool
  | .non, .non => true
  | .bl a, .bl b => a == b
  | .bl a, .int j => (if a then 1 else 0) == j
  | .int i, .bl b => i == (if b then 1 else 0)
  | .int i, .int j => i == j
  | .str x, .str y => x == y
  | .tup xs, .tup ys => D.eqvAll xs ys
  | _, _ => false
def D.eqvAll : List D → List D → Bool
  | [], [] => true
  | x :: xs, y :: ys => D.eqv x y && D.eqvAll xs ys
  | _, _ => false
end
/-- == where a list may stand on both sides (its items pure), or another thing beside -/
def eqD (st : Store) : D → D → Option Bool
  | .ref a, .ref b => match st[a]?, st[b]? with
    | some (.lst xs), some (.lst ys) => if D.pureAll xs && D.pureAll ys && decide (D.depthAll xs ≤ 40) && decide (D.depthAll ys ≤ 40) then some (D.eqvAll xs ys) else none
    | _, _ => none
  | .ref _, _ => none
  | _, .ref _ => none
  | d, e => if D.pure d && D.pure e && decide (D.depth d ≤ 40) && decide (D.depth e ≤ 40) then some (D.eqv d e) else none
def truthD (st : Store) : D → Option Bool
  | .non => some false
  | .bl b => some b
  | .int i => some (i != 0)
  | .tup l => some (!l.isEmpty)
  | .ref n => match st[n]? with
    | some (.lst l) => some (!l.isEmpty)
    | some (.ro l) => some (!l.isEmpty)
    | none => none
  | .str _ => none
/-- the items of a sequence -/
def seqD (st : Store) : D → Option (List D)
  | .tup l => some l
  | .ref n => match st[n]? with
    | some (.lst l) => some l
    | some (.ro l) => some l
    | none => none
  | _ => none

/-- sizes: all that is met is far below the model's line -/
abbrev line : Nat := 1000000
def MulOk (i j : Int) : Prop := CMul i j ∨ CMulW i j
/-- above every divisor -/
def bigI : Int := 10 ^ 2000
def binD (o : Bop) (x y : D) (st : Store) (Q : Post) : Prop :=
  match o, x, y with
  | .add, .int i, .int j => Q (.int (i + j)) st
  | .add, .tup l, .tup r => l.length + r.length ≤ line ∧ Q (.tup (l ++ r)) st
  | .add, .ref a, .ref b => match st[a]?, st[b]? with
    | some (.lst l), some (.lst r) => l.length + r.length ≤ line ∧ Q (.ref st.length) (st ++ [.lst (l ++ r)])
    | _, _ => False
  | .sub, .int i, .int j => Q (.int (i - j)) st
  | .mul, .int i, .int j => MulOk i j ∧ Q (.int (i * j)) st
  | .mul, .ref a, .int j => match st[a]? with
    | some (.lst l) => 0 ≤ j ∧ j ≤ line ∧ l.length * j.toNat ≤ line ∧ Q (.ref st.length) (st ++ [.lst (List.replicate j.toNat l).flatten])
    | _ => False
  | .mul, .tup l, .int j => 0 ≤ j ∧ j ≤ 1000 ∧ l.length ≤ 1000 ∧ Q (.tup (List.replicate j.toNat l).flatten) st
  | .fdiv, .int i, .int j => 0 < j ∧ j < bigI ∧ Q (.int (i / j)) st
  | .mod, .int i, .int j => 0 < j ∧ Q (.int (i % j)) st
  | .pow, .int i, .int j => CPow i j ∧ Q (.int (i ^ j.toNat)) st
  | _, _, _ => False
def cmpI : Cop → Int → Int → Option Bool
  | .lt, i, j => some (decide (i < j))
  | .le, i, j => some (decide (i ≤ j))
  | .gt, i, j => some (decide (j < i))
  | .ge, i, j => some (decide (j ≤ i))
  | _, _, _ => none
/-- x in y: pure data in a list or a tuple of pure data -/
def inD (st : Store) (x y : D) : Option Bool :=
  match seqD st y with
  | some l => if D.pure x && D.pureAll l && decide (D.depth x ≤ 40) && decide (D.depthAll l ≤ 40) then some (l.any fun z => D.eqv z x) else none
  | none => none
def cmpD (o : Cop) (x y : D) (st : Store) : Option Bool :=
  match o with
  | .eq => eqD st x y
  | .ne => (eqD st x y).map (!·)
  | .isin => inD st x y
  | .notin => (inD st x y).map (!·)
  | o => match x, y with
    | .int i, .int j => cmpI o i j
    | _, _ => none
def isTy : Ty → D → Store → Option Bool
  | t, .ref n, st => match st[n]? with
    | some _ => some (match t with | .list | .listtuple => true | _ => false)
    | none => none
  | t, .non, _ => some false
  | t, .bl _, _ => some (match t with | .int | .bool | .boolstr => true | _ => false)
  | t, .int _, _ => some (match t with | .int => true | _ => false)
  | t, .str _, _ => some (match t with | .str | .boolstr => true | _ => false)
  | t, .tup _, _ => some (match t with | .tuple | .listtuple => true | _ => false)
def intsD : List D → Option (List Int)
  | [] => some []
  | .int i :: l => (intsD l).map (i :: ·)
  | _ => none
def blsD : List D → Option (List Bool)
  | [] => some []
  | .bl i :: l => (blsD l).map (i :: ·)
  | _ => none
def intsOf (st : Store) (d : D) : Option (List Int) := (seqD st d).bind intsD
def blsOf (st : Store) (d : D) : Option (List Bool) := (seqD st d).bind blsD
def maxI : List Int → Int
  | [] => 0
  | a :: l => l.foldl max a
def minI : List Int → Int
  | [] => 0
  | a :: l => l.foldl min a
def rangeD (i : Int) (n : Nat) : List D := (List.range n).map fun (k : Nat) => D.int (i + k)
def primD (p : Prim) (ds : List D) (st : Store) (Q : Post) : Prop :=
  match p, ds with
  | .len, [d] => ∃ l, seqD st d = some l ∧ Q (.int l.length) st
  | .tuple, [d] => ∃ l, seqD st d = some l ∧ Q (.tup l) st
  | .list, [d] => ∃ l, seqD st d = some l ∧ Q (.ref st.length) (st ++ [.lst l])
  | .listrange, [.int j] => -line ≤ j ∧ j ≤ line ∧ Q (.ref st.length) (st ++ [.lst (rangeD 0 j.toNat)])
  | .sum, [d] => ∃ l, intsOf st d = some l ∧ Q (.int l.sum) st
  | .max, [d] => ∃ l, intsOf st d = some l ∧ l ≠ [] ∧ Q (.int (maxI l)) st
  | .min, [d] => ∃ l, intsOf st d = some l ∧ l ≠ [] ∧ Q (.int (minI l)) st
  | .min2, [.int i, .int j] => Q (.int (if j < i then j else i)) st
  | .abs, [.int i] => Q (.int (if i < 0 then -i else i)) st
  | .int, [.int i] => Q (.int i) st
  | .int, [.bl b] => Q (.int (if b then 1 else 0)) st
  | .all, [.ref n] => ∃ l, blsOf st (.ref n) = some l ∧ Q (.bl (l.all id)) st
  | .any, [.ref n] => ∃ l, blsOf st (.ref n) = some l ∧ Q (.bl (l.any id)) st
  | .isi t, [d] => ∃ b, isTy t d st = some b ∧ Q (.bl b) st
  | _, _ => False
def methD (m : Mth) (o : D) (ds : List D) (st : Store) (Q : Post) : Prop :=
  match o with
  | .ref n => match st[n]? with
    | some (.lst l) => match m, ds with
      | .append, [d] => l.length < line ∧ Q .non (st.set n (.lst (l ++ [d])))
      | .pop, [] => ∃ d, l[l.length - 1]? = some d ∧ Q d (st.set n (.lst l.dropLast))
      | .popat, [.int i] => ∃ d, 0 ≤ i ∧ i < line ∧ l[i.toNat]? = some d ∧ Q d (st.set n (.lst (l.eraseIdx i.toNat)))
      | .extend, [.ref b] => b ≠ n ∧ ∃ r, st[b]? = some (.lst r) ∧ l.length + r.length ≤ line ∧ Q .non (st.set n (.lst (l ++ r)))
      | _, _ => False
    | _ => False
  | _ => False
def ixD (x y : D) (st : Store) : Option D :=
  match y with
  | .int i => (seqD st x).bind fun l => atI l i
  | _ => none
def cutD (l : List D) (lo hi : Option Int) : List D := (l.drop (HT.sIx l.length 0 lo)).take (HT.sIx l.length l.length hi - HT.sIx l.length 0 lo)
def slD (x : D) (lo hi : Option Int) (st : Store) (Q : Post) : Prop :=
  match x with
  | .tup l => Q (.tup (cutD l lo hi)) st
  | .ref n => match st[n]? with
    | some (.lst l) => Q (.ref st.length) (st ++ [.lst (cutD l lo hi)])
    | some (.ro l) => Q (.ref st.length) (st ++ [.lst (cutD l lo hi)])
    | none => False
  | _ => False
def revD (x : D) (st : Store) (Q : Post) : Prop :=
  match x with
  | .tup l => Q (.tup l.reverse) st
  | _ => False
/-- what stays as it is while it is walked -/
abbrev Guard := List (Nat × List D)
def gOk (g : Guard) (st : Store) : Prop := ∀ p ∈ g, seqD st (.ref p.1) = some p.2
def gOf : D → List D → Guard
  | .ref n, l => [(n, l)]
  | _, _ => []
def pairUp (xs ys : List D) : List D := List.zipWith (fun x y => D.tup [x, y]) xs ys
def numUp (xs : List D) : List D := pairUp ((List.range xs.length).map fun (k : Nat) => D.int k) xs
def sameKind : D → D → Bool
  | .tup _, .tup _ => true
  | .ref _, .ref _ => true
  | _, _ => false
def itemsD (k : IK) (ds : List D) (st : Store) : Option (List D × Guard) :=
  match k, ds with
  | .seq, [d] => (seqD st d).map fun l => (l, gOf d l)
  | .range1, [.int j] => if -line ≤ j ∧ j ≤ line then some (rangeD 0 j.toNat, []) else none
  | .range2, [.int i, .int j] => if -line ≤ i ∧ i ≤ line ∧ -line ≤ j ∧ j ≤ line then some (rangeD i (j - i).toNat, []) else none
  | .enum, [d] => (seqD st d).map fun l => (numUp l, gOf d l)
  | .zip, [d, e] => if sameKind d e then (seqD st d).bind fun l => (seqD st e).map fun r => (pairUp l r, gOf d l ++ gOf e r) else none
  | _, _ => none
def setMany : List Nat → List D → Env' → Option Env'
  | [], [], env => some env
  | i :: is, d :: ds, env => setMany is ds (env.set i (some d))
  | _, _, _ => none
def asgD (tg : Tgt) (d : D) (env : Env') (Q : Env' → Prop) : Prop :=
  match tg, d with
  | .nm i, d => Q (env.set i (some d))
  | .nms is, .tup l => ∃ e, setMany is l env = some e ∧ Q e
  | _, _ => False

def isNonD : D → Bool
  | .non => true
  | _ => false
/-- the arguments in the parameters' order: positional ones, then those named, as perm tells -/
def reord {α : Type} (us ws : List α) (perm : List Nat) : List α := us ++ perm.filterMap fun i => ws[i]?
/-! ### expressions -/
def lcN (n0 : Nat) (g : Guard) (step : D → (Store → Prop) → Store → Prop) (fin : Store → Prop) : List D → Store → Prop
  | [], st => gOk g st ∧ fin st
  | x :: xs, st => gOk g st ∧ step x (lcN n0 g step fin xs) st
mutual
def wpE : E → Env' → Store → Post → XPost → Prop
  | .var i, env, st, Q, _ => ∃ d, env[i]? = some (some d) ∧ Q d st
  | .k d, _, st, Q, _ => Q d st
  | .glob _ i, _, st, Q, _ => Q (.int i) st
  | .bin o a b, env, st, Q, Ex => wpE a env st (fun x st1 => wpE b env st1 (fun y st2 => binD o x y st2 Q) Ex) Ex
  | .cmp o a b, env, st, Q, Ex => wpE a env st (fun x st1 => wpE b env st1 (fun y st2 => ∃ r, cmpD o x y st2 = some r ∧ Q (.bl r) st2) Ex) Ex
  | .chain o p a b c, env, st, Q, Ex => wpE a env st (fun x st1 => wpE b env st1 (fun y st2 => ∃ r, cmpD o x y st2 = some r ∧
      (r = true → wpE c env st2 (fun z st3 => ∃ r', cmpD p y z st3 = some r' ∧ Q (.bl r') st3) Ex) ∧ (r = false → Q (.bl false) st2)) Ex) Ex
  | .isN a, env, st, Q, Ex => wpE a env st (fun x st1 => Q (.bl (isNonD x)) st1) Ex
  | .notN a, env, st, Q, Ex => wpE a env st (fun x st1 => Q (.bl (!isNonD x)) st1) Ex
  | .and a b, env, st, Q, Ex => wpE a env st (fun x st1 => ∃ r, truthD st1 x = some r ∧ (r = true → wpE b env st1 Q Ex) ∧ (r = false → Q x st1)) Ex
  | .or a b, env, st, Q, Ex => wpE a env st (fun x st1 => ∃ r, truthD st1 x = some r ∧ (r = true → Q x st1) ∧ (r = false → wpE b env st1 Q Ex)) Ex
  | .not a, env, st, Q, Ex => wpE a env st (fun x st1 => ∃ r, truthD st1 x = some r ∧ Q (.bl (!r)) st1) Ex
  | .neg a, env, st, Q, Ex => wpE a env st (fun x st1 => ∃ i, x = .int i ∧ Q (.int (-i)) st1) Ex
  | .ife c a b, env, st, Q, Ex => wpE c env st (fun x st1 => ∃ r, truthD st1 x = some r ∧ (r = true → wpE a env st1 Q Ex) ∧ (r = false → wpE b env st1 Q Ex)) Ex
  | .tup es, env, st, Q, Ex => wpEs es env st (fun ds st1 => ds.length ≤ line ∧ Q (.tup ds) st1) Ex
  | .lst es, env, st, Q, Ex => wpEs es env st (fun ds st1 => ds.length ≤ line ∧ Q (.ref st1.length) (st1 ++ [.lst ds])) Ex
  | .ix a b, env, st, Q, Ex => wpE a env st (fun x st1 => wpE b env st1 (fun y st2 => ∃ d, ixD x y st2 = some d ∧ Q d st2) Ex) Ex
  | .sl a lo hi, env, st, Q, Ex => wpE a env st (fun x st1 => wpO lo env st1 (fun l st2 => wpO hi env st2 (fun h st3 => slD x l h st3 Q) Ex) Ex) Ex
  | .rev a, env, st, Q, Ex => wpE a env st (fun x st1 => revD x st1 Q) Ex
  | .call f es, env, st, Q, Ex => wpEs es env st (fun ds st1 => f.con ds st1 Q Ex) Ex
  | .callk f es _ perm kes, env, st, Q, Ex => wpEs es env st (fun ds st1 => wpEs kes env st1 (fun ds2 st2 => f.con (reord ds ds2 perm) st2 Q Ex) Ex) Ex
  | .prim p es, env, st, Q, Ex => wpEs es env st (fun ds st1 => primD p ds st1 Q) Ex
  | .meth m o es, env, st, Q, Ex => wpE o env st (fun x st1 => (∃ n l, x = .ref n ∧ st1[n]? = some (MO.lst l)) ∧ wpEs es env st1 (fun ds st2 => methD m x ds st2 Q) Ex) Ex
  | .lc tg k its cond elt, env, st, Q, Ex => wpEs its env st (fun ds st1 => ∃ l g, itemsD k ds st1 = some (l, g) ∧
      lcN st1.length g (fun x next st2 => asgD tg x env fun env' => wpC cond env' st2 (fun r st3 =>
        (r = true → wpE elt env' st3 (fun y st4 => ∃ acc, st4[st1.length]? = some (.lst acc) ∧ acc.length < line ∧ next (st4.set st1.length (.lst (acc ++ [y])))) (fun _ _ => False)) ∧
        (r = false → next st3)) (fun _ _ => False))
        (Q (.ref st1.length)) l (st1 ++ [.lst []])) Ex
  | .tmp e, env, st, Q, Ex => wpE e env st (fun d st1 => st <+: st1 ∧ D.pure d = true ∧ Q d st) (fun x st1 => Ex x st1)
def wpEs : List E → Env' → Store → (List D → Store → Prop) → XPost → Prop
  | [], _, st, Q, _ => Q [] st
  | e :: es, env, st, Q, Ex => wpE e env st (fun d st1 => wpEs es env st1 (fun ds st2 => Q (d :: ds) st2) Ex) Ex
def wpO : Option E → Env' → Store → (Option Int → Store → Prop) → XPost → Prop
  | none, _, st, Q, _ => Q none st
  | some e, env, st, Q, Ex => wpE e env st (fun d st1 => ∃ i, d = .int i ∧ Q (some i) st1) Ex
def wpC : Option E → Env' → Store → (Bool → Store → Prop) → XPost → Prop
  | none, _, st, Q, _ => Q true st
  | some e, env, st, Q, Ex => wpE e env st (fun d st1 => ∃ r, truthD st1 d = some r ∧ Q r st1) Ex
end

/-! ### statements -/
/-- stored from the right -/
def setBack {α : Type} : List Nat → List α → List (Option α) → List (Option α)
  | i :: is, d :: ds, env => (setBack is ds env).set i (some d)
  | _, _, env => env
structure En where
  nx : Env' → Store → Prop
  rt : D → Store → Prop
  bk : Env' → Store → Prop
  ct : Env' → Store → Prop
  ex : Exc → Env' → Store → Prop
def forN (g : Guard) (step : D → (Env' → Store → Prop) → Env' → Store → Prop) (fin : Env' → Store → Prop) : List D → Env' → Store → Prop
  | [], env, st => gOk g st ∧ fin env st
  | x :: xs, env, st => gOk g st ∧ step x (forN g step fin xs) env st
def loopN (step : (Env' → Store → Prop) → Env' → Store → Prop) : Nat → Env' → Store → Prop
  | 0, _, _ => False
  | n + 1, env, st => step (loopN step n) env st
mutual
def wpS : S → Env' → Store → En → Prop
  | .set tg e, env, st, N => wpE e env st (fun d st1 => asgD tg d env fun env' => N.nx env' st1) (fun x st1 => N.ex x env st1)
  | .par is es, env, st, N => wpEs es env st (fun ds st1 => N.nx (setBack is ds env) st1) (fun x st1 => N.ex x env st1)
  | .seti o i e, env, st, N => wpE e env st (fun v st1 => wpE o env st1 (fun x st2 => wpE i env st2 (fun y st3 =>
      ∃ n l z, x = .ref n ∧ st3[n]? = some (.lst l) ∧ y = .int z ∧ 0 ≤ z ∧ z < l.length ∧ N.nx env (st3.set n (.lst (l.set z.toNat v)))) (fun x st1 => N.ex x env st1)) (fun x st1 => N.ex x env st1)) (fun x st1 => N.ex x env st1)
  | .aug i o e, env, st, N => ∃ x, env[i]? = some (some x) ∧ wpE e env st (fun y st1 => ∃ a b, x = .int a ∧ y = .int b ∧ binD o x y st1 (fun z st2 => N.nx (env.set i (some z)) st2)) (fun x st1 => N.ex x env st1)
  | .ret e, env, st, N => wpE e env st N.rt (fun x st1 => N.ex x env st1)
  | .retN, env, st, N => N.rt .non st
  | .ife c a b, env, st, N => wpE c env st (fun x st1 => ∃ r, truthD st1 x = some r ∧ (r = true → wpSs a env st1 N) ∧ (r = false → wpSs b env st1 N)) (fun x st1 => N.ex x env st1)
  | .forr tg k its body, env, st, N => wpEs its env st (fun ds st1 => ∃ l g, itemsD k ds st1 = some (l, g) ∧
      forN g (fun x next env1 st2 => asgD tg x env1 fun env' => wpSs body env' st2 { N with nx := next, ct := next, bk := N.nx }) N.nx l env st1) (fun x st1 => N.ex x env st1)
  | .while c body, env, st, N => ∃ n, loopN (fun next env1 st1 => wpE c env1 st1 (fun x st2 => ∃ r, truthD st2 x = some r ∧
      (r = true → wpSs body env1 st2 { N with nx := next, ct := next, bk := N.nx }) ∧ (r = false → N.nx env1 st2)) (fun x st1 => N.ex x env1 st1)) n env st
  | .expr e, env, st, N => wpE e env st (fun _ st1 => N.nx env st1) (fun x st1 => N.ex x env st1)
  | .raise x, env, st, N => N.ex x env st
  | .pass, env, st, N => N.nx env st
  | .brk, env, st, N => N.bk env st
  | .cont, env, st, N => N.ct env st
def wpSs : List S → Env' → Store → En → Prop
  | [], env, st, N => N.nx env st
  | s :: ss, env, st, N => wpS s env st { N with nx := fun env1 st1 => wpSs ss env1 st1 N }
end
end Ev

set_option Elab.async false
set_option linter.all false
set_option maxRecDepth 100000
set_option maxHeartbeats 4000000
/-! Ev2: how pure data lies in the abstract heap. -/
namespace Ev
open PySem PySem.Spec PyProof.Rows L2

/-! ### two lists, item by item -/
section
variable {α β : Type} {F : α → β → Prop}
theorem pr_get : ∀ {l : List α} {r : List β} {i : Nat} {a : α}, Paired F l r → l[i]? = some a → ∃ b, r[i]? = some b ∧ F a b
  | _, _, _, _, .nil, e => by simp at e
  | _, _, 0, _, .cons h _, e => by simp at e; subst e; exact ⟨_, rfl, h⟩
  | _, _, i + 1, a, .cons _ t, e => by
    obtain ⟨b, h1, h2⟩ := pr_get (i := i) (a := a) t (by simpa using e)
    exact ⟨b, by simpa using h1, h2⟩
theorem pr_get' : ∀ {l : List α} {r : List β} {i : Nat} {b : β}, Paired F l r → r[i]? = some b → ∃ a, l[i]? = some a ∧ F a b
  | _, _, _, _, .nil, e => by simp at e
  | _, _, 0, _, .cons h _, e => by simp at e; subst e; exact ⟨_, rfl, h⟩
  | _, _, i + 1, a, .cons _ t, e => by
    obtain ⟨b, h1, h2⟩ := pr_get' (i := i) (b := a) t (by simpa using e)
    exact ⟨b, by simpa using h1, h2⟩
theorem pr_append : ∀ {l l' : List α} {r r' : List β}, Paired F l r → Paired F l' r' → Paired F (l ++ l') (r ++ r')
  | _, _, _, _, .nil, h => h
  | _, _, _, _, .cons a t, h => .cons a (pr_append t h)
theorem pr_take : ∀ {l : List α} {r : List β} (n : Nat), Paired F l r → Paired F (l.take n) (r.take n)
  | _, _, 0, _ => .nil
  | _, _, _ + 1, .nil => .nil
  | _, _, n + 1, .cons a t => .cons a (pr_take n t)
theorem pr_drop : ∀ {l : List α} {r : List β} (n : Nat), Paired F l r → Paired F (l.drop n) (r.drop n)
  | _, _, 0, h => h
  | _, _, _ + 1, .nil => .nil
  | _, _, n + 1, .cons _ t => pr_drop n t
theorem pr_set {a : α} {b : β} (h : F a b) : ∀ {l : List α} {r : List β} (i : Nat), Paired F l r → Paired F (l.set i a) (r.set i b)
  | _, _, _, .nil => .nil
  | _, _, 0, .cons _ t => .cons h t
  | _, _, i + 1, .cons q t => .cons q (pr_set h i t)
theorem pr_erase : ∀ {l : List α} {r : List β} (i : Nat), Paired F l r → Paired F (l.eraseIdx i) (r.eraseIdx i)
  | _, _, _, .nil => .nil
  | _, _, 0, .cons _ t => t
  | _, _, i + 1, .cons q t => .cons q (pr_erase i t)
theorem pr_reverse {l : List α} {r : List β} (h : Paired F l r) : Paired F l.reverse r.reverse := by
  induction h with
  | nil => exact .nil
  | cons a _ ih => simpa using pr_append ih (.cons a .nil)
theorem pr_dropLast {l : List α} {r : List β} (h : Paired F l r) : Paired F l.dropLast r.dropLast := by
  rw [List.dropLast_eq_take, List.dropLast_eq_take, h.length]
  exact pr_take _ h
theorem pr_rep {l : List α} {r : List β} (h : Paired F l r) : ∀ k : Nat, Paired F (List.replicate k l).flatten (List.replicate k r).flatten
  | 0 => .nil
  | k + 1 => by
    rw [List.replicate_succ, List.replicate_succ, List.flatten_cons, List.flatten_cons]
    exact pr_append h (pr_rep h k)
end

/-! ### data in the heap -/
mutual
def RepV (K : PySem.W.Frag) (ms : List Addr) (H : Hp) : D → V → Prop
  | .non, v => v = .non
  | .bl b, v => v = .bl b
  | .int i, v => v = .int i
  | .str x, v => v = .str x
  | .ref n, v => ∃ a, v = .ref a ∧ ms[n]? = some a
  | .tup l, v => ∃ a xs, v = .ref a ∧ SqT K H a xs ∧ RepA K ms H l xs
def RepA (K : PySem.W.Frag) (ms : List Addr) (H : Hp) : List D → List V → Prop
  | [], xs => xs = []
  | d :: l, xs => ∃ v vs, xs = v :: vs ∧ RepV K ms H d v ∧ RepA K ms H l vs
end
abbrev RepL (K : PySem.W.Frag) (ms : List Addr) (H : Hp) : List D → List V → Prop := Paired (RepV K ms H)
theorem repA_iff {K : PySem.W.Frag} {ms : List Addr} {H : Hp} : ∀ {l : List D} {xs : List V}, RepA K ms H l xs ↔ RepL K ms H l xs
  | [], xs => by
    constructor
    · intro h
      have : xs = [] := by simpa [RepA] using h
      subst this
      exact .nil
    · intro h
      cases h
      simp [RepA]
  | d :: l, xs => by
    constructor
    · intro h
      simp only [RepA] at h
      obtain ⟨v, vs, rfl, h1, h2⟩ := h
      exact .cons h1 (repA_iff.mp h2)
    · intro h
      cases h with
      | cons h1 h2 =>
        simp only [RepA]
        exact ⟨_, _, rfl, h1, repA_iff.mpr h2⟩

/-- the tuples, and what is known to the object, are kept -/
structure Keep (H H' : Hp) : Prop where
  tup : ∀ a xs, H a = some (.tup xs) → H' a = some (.tup xs)
  frz : ∀ a o u, H a = some (.frz o u) → H' a = some (.frz o u)
theorem Keep.refl (H : Hp) : Keep H H := ⟨fun _ _ h => h, fun _ _ _ h => h⟩
theorem Keep.trans {H H1 H2 : Hp} (a : Keep H H1) (b : Keep H1 H2) : Keep H H2 := ⟨fun _ _ h => b.tup _ _ (a.tup _ _ h), fun _ _ _ h => b.frz _ _ _ (a.frz _ _ _ h)⟩
theorem Keep.new {H : Hp} {p : Addr} {o : HO} (hp : H p = none) : Keep H (upd H p o) :=
  ⟨fun a xs h => by rw [upd_ne (ne_of_none h hp)]; exact h, fun a ob u h => by rw [upd_ne (ne_of_none h hp)]; exact h⟩
theorem Keep.lst {H : Hp} {p : Addr} {xs : List V} {o : HO} (hp : H p = some (.lst xs)) : Keep H (upd H p o) :=
  ⟨fun a xs h => by rw [upd_ne (ne_of h hp (fun z => nomatch z))]; exact h, fun a ob u h => by rw [upd_ne (ne_of h hp (fun z => nomatch z))]; exact h⟩
section
variable {K : PySem.W.Frag} {H H' : Hp} {ms ms' : List Addr} {a : Addr} {xs : List V}
theorem Keep.sqT (k : Keep H H') (h : SqT K H a xs) : SqT K H' a xs := by
  rcases h with (h | ⟨o, h⟩) | h
  · exact .inl (.inl (k.tup _ _ h))
  · exact .inl (.inr ⟨o, k.frz _ _ _ h⟩)
  · exact .inr h
mutual
theorem RepV.keep (e : ms <+: ms') (k : Keep H H') : ∀ {d : D} {v : V}, RepV K ms H d v → RepV K ms' H' d v
  | .non, _, h => h
  | .bl _, _, h => h
  | .int _, _, h => h
  | .str _, _, h => h
  | .ref n, v, h => by
    simp only [RepV] at h ⊢
    obtain ⟨a, h1, h2⟩ := h
    obtain ⟨t, rfl⟩ := e
    refine ⟨a, h1, ?_⟩
    have := (List.getElem?_eq_some_iff.mp h2).1
    rw [List.getElem?_append_left this]
    exact h2
  | .tup l, v, h => by
    simp only [RepV] at h ⊢
    obtain ⟨a, xs, h1, h2, h3⟩ := h
    exact ⟨a, xs, h1, k.sqT h2, RepA.keep e k h3⟩
theorem RepA.keep (e : ms <+: ms') (k : Keep H H') : ∀ {l : List D} {xs : List V}, RepA K ms H l xs → RepA K ms' H' l xs
  | [], xs, h => by simp only [RepA] at h ⊢; exact h
  | d :: l, xs, h => by
    simp only [RepA] at h ⊢
    obtain ⟨v, vs, h1, h2, h3⟩ := h
    exact ⟨v, vs, h1, RepV.keep e k h2, RepA.keep e k h3⟩
end
theorem RepL.keep (e : ms <+: ms') (k : Keep H H') {l : List D} {xs : List V} (h : RepL K ms H l xs) : RepL K ms' H' l xs := Paired.mapP h fun _ _ => RepV.keep e k
mutual
/-- without references within: ms does not matter -/
theorem RepV.pure : ∀ {d : D} {v : V}, D.pure d = true → RepV K ms H d v → RepV K ms' H d v
  | .non, _, _, h => h
  | .bl _, _, _, h => h
  | .int _, _, _, h => h
  | .str _, _, _, h => h
  | .ref n, v, p, h => by simp [D.pure] at p
  | .tup l, v, p, h => by
    simp only [RepV] at h ⊢
    obtain ⟨a, xs, h1, h2, h3⟩ := h
    exact ⟨a, xs, h1, h2, RepA.pure (by simpa [D.pure] using p) h3⟩
theorem RepA.pure : ∀ {l : List D} {xs : List V}, D.pureAll l = true → RepA K ms H l xs → RepA K ms' H l xs
  | [], xs, _, h => by simp only [RepA] at h ⊢; exact h
  | d :: l, xs, p, h => by
    simp only [RepA] at h ⊢
    obtain ⟨v, vs, h1, h2, h3⟩ := h
    have p' : D.pure d = true ∧ D.pureAll l = true := by simpa [D.pureAll] using p
    exact ⟨v, vs, h1, RepV.pure p'.1 h2, RepA.pure p'.2 h3⟩
end
end

/-- a list that is read alone: known to the object, or the module's own -/
def RoL (K : PySem.W.Frag) (H : Hp) (a : Addr) (xs : List V) : Prop :=
  (∃ o, H a = some (.frz o (.lst xs))) ∨
    ∃ (o : Obj) (its : Array Value) (n : Nat), K.lookup a = some o ∧ o.cls = .type "list" ∧ o.dict = none ∧ o.data = .seq its n ∧ its.size ≤ sizeLine ∧ Vals xs its.toList
theorem RoL.sq {K : PySem.W.Frag} {H : Hp} {a : Addr} {xs : List V} (h : RoL K H a xs) : SqL K H a xs := by
  rcases h with ⟨o, h⟩ | h
  · exact .inl (.inr ⟨o, h⟩)
  · exact .inr h
theorem RoL.keep {K : PySem.W.Frag} {H H' : Hp} {a : Addr} {xs : List V} (k : Keep H H') (h : RoL K H a xs) : RoL K H' a xs := by
  rcases h with ⟨o, h⟩ | h
  · exact .inl ⟨o, k.frz _ _ _ h⟩
  · exact .inr h
/-- what stands at an address of the store -/
def ObjR (K : PySem.W.Frag) (ms : List Addr) (H : Hp) (a : Addr) : MO → Prop
  | .lst l => ∃ xs, H a = some (.lst xs) ∧ RepL K ms H l xs
  | .ro l => ∃ xs, RoL K H a xs ∧ RepL K ms H l xs
structure Rel (K : PySem.W.Frag) (ms : List Addr) (st : Store) (H : Hp) : Prop where
  inj : ∀ (n k : Nat) (a : Addr) (l r : List D), st[n]? = some (MO.lst l) → st[k]? = some (MO.lst r) → ms[n]? = some a → ms[k]? = some a → n = k
  len : ms.length = st.length
  obj : ∀ (n : Nat) (o : MO), st[n]? = some o → ∃ a, ms[n]? = some a ∧ ObjR K ms H a o
def RelE (K : PySem.W.Frag) (ms : List Addr) (H : Hp) (env : Env') (σ : L2.St) : Prop :=
  env.length = σ.length ∧ ∀ (i : Nat) (d : D), env[i]? = some (some d) → ∃ v, σ[i]? = some (some v) ∧ RepV K ms H d v

section
variable {K : PySem.W.Frag} {H H' : Hp} {ms ms' : List Addr} {st : Store} {env : Env'} {σ : L2.St}
theorem RelE.keep (e : ms <+: ms') (k : Keep H H') (r : RelE K ms H env σ) : RelE K ms' H' env σ :=
  ⟨r.1, fun i d h => let ⟨v, h1, h2⟩ := r.2 i d h; ⟨v, h1, h2.keep e k⟩⟩
theorem RelE.set {i : Nat} {d : D} {v : V} (r : RelE K ms H env σ) (h : RepV K ms H d v) : RelE K ms H (env.set i (some d)) (σ.set i (some v)) := by
  refine ⟨by simpa using r.1, fun j d' hj => ?_⟩
  by_cases e : i = j
  · subst e
    by_cases hi : i < env.length
    · rw [List.getElem?_set_self hi] at hj
      cases hj
      exact ⟨v, by rw [List.getElem?_set_self (by rw [← r.1]; exact hi)], h⟩
    · rw [List.getElem?_eq_none (by simpa using hi)] at hj
      cases hj
  · rw [List.getElem?_set_ne e] at hj ⊢
    exact r.2 j d' hj
theorem Rel.at (r : Rel K ms st H) {n : Nat} {a : Addr} {o : MO} (hm : ms[n]? = some a) (h : st[n]? = some o) : ObjR K ms H a o := by
  obtain ⟨b, h1, h2⟩ := r.obj n o h
  rw [hm] at h1
  cases h1
  exact h2
theorem ObjR.keep {a : Addr} {o : MO} (e : ms <+: ms') (k : Keep H H') (hl : ∀ xs, H a = some (.lst xs) → H' a = some (.lst xs)) (h : ObjR K ms H a o) : ObjR K ms' H' a o := by
  cases o with
  | lst l =>
    obtain ⟨xs, h1, h2⟩ := h
    exact ⟨xs, hl _ h1, h2.keep e k⟩
  | ro l =>
    obtain ⟨xs, h1, h3⟩ := h
    exact ⟨xs, h1.keep k, h3.keep e k⟩
theorem Rel.lst (r : Rel K ms st H) {n : Nat} {a : Addr} {l : List D} (hm : ms[n]? = some a) (h : st[n]? = some (MO.lst l)) : ∃ xs, H a = some (.lst xs) ∧ RepL K ms H l xs := r.at hm h
/-- a new thing that is no list of the store: a tuple -/
theorem Rel.newTup (r : Rel K ms st H) {p : Addr} {xs : List V} (hp : H p = none) : Rel K ms st (upd H p (.tup xs)) := by
  refine ⟨r.inj, r.len, fun n o h => ?_⟩
  obtain ⟨a, h1, h2⟩ := r.obj n o h
  exact ⟨a, h1, h2.keep (List.prefix_refl _) (Keep.new hp) (fun ys e => by rw [upd_ne (ne_of_none e hp)]; exact e)⟩
/-- a new list -/
theorem Rel.newLst (r : Rel K ms st H) {p : Addr} {l : List D} {xs : List V} (hp : H p = none) (h : RepL K ms H l xs) :
    Rel K (ms ++ [p]) (st ++ [.lst l]) (upd H p (.lst xs)) := by
  have ex : ms <+: ms ++ [p] := List.prefix_append _ _
  have old : ∀ (n : Nat) (o : MO), (st ++ [MO.lst l])[n]? = some o → (n < st.length ∧ st[n]? = some o) ∨ (n = st.length ∧ o = .lst l) := fun n o hn => by
    by_cases hlt : n < st.length
    · rw [List.getElem?_append_left hlt] at hn
      exact .inl ⟨hlt, hn⟩
    · have hn' : n = st.length := by
        have := (List.getElem?_eq_some_iff.mp hn).1
        simp at this
        omega
      subst hn'
      simp at hn
      exact .inr ⟨rfl, hn.symm⟩
  have oldm : ∀ n, n < st.length → (ms ++ [p])[n]? = ms[n]? := fun n hn => List.getElem?_append_left (by rw [r.len]; exact hn)
  have newm : (ms ++ [p])[st.length]? = some p := by rw [← r.len]; simp
  have far : ∀ (n : Nat) (a : Addr) (l : List D), st[n]? = some (MO.lst l) → ms[n]? = some a → a ≠ p := fun n a l h1 h2 => by
    obtain ⟨ys, q, _⟩ := r.lst h2 h1
    exact ne_of_none q hp
  refine ⟨fun n k a l1 l2 h1 h2 m1 m2 => ?_, by simp [r.len], fun n o hn => ?_⟩
  · rcases old n _ h1 with ⟨c1, g1⟩ | ⟨c1, g1⟩ <;> rcases old k _ h2 with ⟨c2, g2⟩ | ⟨c2, g2⟩
    · rw [oldm n c1] at m1
      rw [oldm k c2] at m2
      exact r.inj n k a _ _ g1 g2 m1 m2
    · subst c2
      rw [oldm n c1] at m1
      rw [newm] at m2
      cases m2
      exact absurd rfl (far n _ _ g1 m1)
    · subst c1
      rw [oldm k c2] at m2
      rw [newm] at m1
      cases m1
      exact absurd rfl (far k _ _ g2 m2)
    · omega
  · rcases old n _ hn with ⟨c1, g1⟩ | ⟨c1, g1⟩
    · obtain ⟨a, h1, h2⟩ := r.obj n o g1
      exact ⟨a, by rw [oldm n c1]; exact h1, h2.keep ex (Keep.new hp) (fun ys e => by rw [upd_ne (ne_of_none e hp)]; exact e)⟩
    · subst c1
      subst g1
      exact ⟨p, newm, xs, upd_same, h.keep ex (Keep.new hp)⟩
/-- a list of the store is changed -/
theorem Rel.set (r : Rel K ms st H) {n : Nat} {a : Addr} {l l' : List D} {ys xs : List V} (hm : ms[n]? = some a) (hs : st[n]? = some (MO.lst l)) (ha : H a = some (.lst ys)) (h : RepL K ms H l' xs) :
    Rel K ms (st.set n (.lst l')) (upd H a (.lst xs)) := by
  have hn := (List.getElem?_eq_some_iff.mp hs).1
  have was : ∀ (k : Nat) (r : List D), (st.set n (MO.lst l'))[k]? = some (MO.lst r) → ∃ r', st[k]? = some (MO.lst r') := fun k r' hk => by
    by_cases e : n = k
    · subst e; exact ⟨_, hs⟩
    · rw [List.getElem?_set_ne e] at hk; exact ⟨_, hk⟩
  refine ⟨fun i k b l1 l2 h1 h2 m1 m2 => ?_, by simp [r.len], fun k o hk => ?_⟩
  · obtain ⟨r1, g1⟩ := was i _ h1
    obtain ⟨r2, g2⟩ := was k _ h2
    exact r.inj i k b _ _ g1 g2 m1 m2
  · by_cases e : n = k
    · subst e
      rw [List.getElem?_set_self hn] at hk
      cases hk
      exact ⟨a, hm, xs, upd_same, h.keep (List.prefix_refl _) (Keep.lst ha)⟩
    · rw [List.getElem?_set_ne e] at hk
      obtain ⟨b, h1, h2⟩ := r.obj k o hk
      refine ⟨b, h1, ?_⟩
      cases o with
      | lst l2 =>
        have hne : b ≠ a := fun z => by
          subst z
          exact e (r.inj n k b _ _ hs hk hm h1)
        exact h2.keep (List.prefix_refl _) (Keep.lst ha) (fun zs q => by rw [upd_ne hne]; exact q)
      | ro l2 =>
        obtain ⟨zs, q1, q2⟩ := h2
        exact ⟨zs, q1.keep (Keep.lst ha), q2.keep (List.prefix_refl _) (Keep.lst ha)⟩
theorem rep_lt {n : Nat} {a : Addr} (h : ms[n]? = some a) : n < ms.length := (List.getElem?_eq_some_iff.mp h).1
/-- ms and a longer one: what was there is there -/
theorem pre_get (e : ms <+: ms') {n : Nat} (h : n < ms.length) : ms'[n]? = ms[n]? := by
  obtain ⟨t, rfl⟩ := e
  exact List.getElem?_append_left h
mutual
theorem RepV.back {H0 : Hp} (e : ms <+: ms') : ∀ {d : D} {v0 v : V}, RepV K ms H0 d v0 → RepV K ms' H d v → RepV K ms H d v
  | .non, _, _, _, h => h
  | .bl _, _, _, _, h => h
  | .int _, _, _, _, h => h
  | .str _, _, _, _, h => h
  | .ref n, _, v, h0, h => by
    simp only [RepV] at h0 h ⊢
    obtain ⟨b, _, hb⟩ := h0
    obtain ⟨a, h1, h2⟩ := h
    exact ⟨a, h1, by rw [← pre_get e (rep_lt hb)]; exact h2⟩
  | .tup l, _, v, h0, h => by
    simp only [RepV] at h0 h ⊢
    obtain ⟨_, ys, _, _, h03⟩ := h0
    obtain ⟨a, xs, h1, h2, h3⟩ := h
    exact ⟨a, xs, h1, h2, RepA.back e h03 h3⟩
theorem RepA.back {H0 : Hp} (e : ms <+: ms') : ∀ {l : List D} {xs0 xs : List V}, RepA K ms H0 l xs0 → RepA K ms' H l xs → RepA K ms H l xs
  | [], _, xs, _, h => by simp only [RepA] at h ⊢; exact h
  | d :: l, _, xs, h0, h => by
    simp only [RepA] at h0 h ⊢
    obtain ⟨_, _, _, h02, h03⟩ := h0
    obtain ⟨v, vs, h1, h2, h3⟩ := h
    exact ⟨v, vs, h1, RepV.back e h02 h2, RepA.back e h03 h3⟩
end
/-- what came behind is forgotten -/
theorem Rel.back {st' : Store} (r : Rel K ms st H) (r' : Rel K ms' st' H') (em : ms <+: ms') (es : st <+: st') : Rel K ms st H' := by
  refine ⟨r.inj, r.len, fun n o h => ?_⟩
  obtain ⟨a, h1, h2⟩ := r.obj n o h
  have hs : st'[n]? = some o := by
    obtain ⟨t, rfl⟩ := es
    rw [List.getElem?_append_left (List.getElem?_eq_some_iff.mp h).1]
    exact h
  have h3 : ObjR K ms' H' a o := r'.at (by rw [pre_get em (rep_lt h1)]; exact h1) hs
  refine ⟨a, h1, ?_⟩
  cases o with
  | lst l =>
    obtain ⟨xs0, _, h20⟩ := h2
    obtain ⟨xs, h31, h32⟩ := h3
    exact ⟨xs, h31, repA_iff.mp (RepA.back em (repA_iff.mpr h20) (repA_iff.mpr h32))⟩
  | ro l =>
    obtain ⟨xs0, _, h20⟩ := h2
    obtain ⟨xs, h31, h32⟩ := h3
    exact ⟨xs, h31, repA_iff.mp (RepA.back em (repA_iff.mpr h20) (repA_iff.mpr h32))⟩
end
end Ev

set_option Elab.async false
set_option linter.all false
set_option maxRecDepth 100000
set_option maxHeartbeats 4000000
/-! Ev3a: what a for or a comprehension walks: a list or a tuple alike; enumerate of a tuple. -/
namespace PySem
open Sem (wp)
open AutoSeq1 (wpAny_loadPart')
theorem ev_meets_enumerate_newB1 {v : Value} {o : Obj} {H : Heap → Prop} (B : Begins v o H) :
    Meets (Builtin.«enumerate.__new__» ⟨[.type "enumerate", v], []⟩) (fun _ R s => H s.heap ∧
      R (.ok (.ret (.ref (s.heap.push o).objs.size))) { s with heap := (s.heap.push o).push { cls := .type "enumerate", data := .fields #[.none, .bool false, .ref s.heap.objs.size, rawInt 0, .none, .none] } }) :=
  .of_wp fun prog w A R s h => by
    obtain ⟨hp, g, d, tk, os⟩ := s; obtain ⟨h1, h⟩ := h
    have hsub := sub_enumerate
    have q1 : ∀ {A' : Around} {E : Value → Shared → Prop} {Q : Value → Shared → Prop}, Q (.ref hp.objs.size) ⟨hp.push o, g, d, tk, os⟩ → wpAny (model prog w) A' (pyIter v) Q E ⟨hp, g, d, tk, os⟩ :=
      fun q => B.iter prog w _ _ ⟨hp, g, d, tk, os⟩ _ h1 q
    wp_walk using q1
    refine wpAny_stack_any fun st => wpAny_pure ?_
    split
    · rename_i c _ _ _ _ _
      cases (c == Value.type "enumerate")
      · wp_walk using q1
        exact ⟨_, rfl, h⟩
      · wp_walk using q1
        exact ⟨_, rfl, h⟩
    · wp_walk using q1
      exact ⟨_, rfl, h⟩
section
variable {prog : Program} {w : World} {A : Around} {E : Value → Shared → Prop} {s : Shared}
theorem ev_enum_begins {v : Value} {o : Obj} {H : Heap → Prop} {Q : Value → Shared → Prop} (B : Begins v o H) (h1 : H s.heap)
    (h : ∀ h', IsEnum h' (s.heap.objs.size + 1) s.heap.objs.size 0 .none → h'.get? s.heap.objs.size = some o → h'.objs.size = s.heap.objs.size + 2 →
      (∀ b o, s.heap.get? b = some o → h'.get? b = some o) → Q (.ref (s.heap.objs.size + 1)) { s with heap := h' }) :
    wpAny (model prog w) A (call (.type "enumerate") [v]) Q E s := by
  refine callType_new F.called_enumerate (by decide) (F.typeCall_enumerate_1 _) (F.newCall_enumerate_1 _) (fun obj => F.args_object_init_2 obj _) F.entry_enumerate_new
    (ev_meets_enumerate_newB1 B) ⟨h1, ?_⟩
  have hz : (s.heap.push o).objs.size = s.heap.objs.size + 1 := Heap.size_push ..
  show _ ∧ _
  rw [hz]
  have he : IsEnum ((s.heap.push o).push { cls := .type "enumerate", data := .fields #[.none, .bool false, .ref s.heap.objs.size, rawInt 0, .none, .none] }) (s.heap.objs.size + 1) s.heap.objs.size 0 .none := by
    have := Heap.get?_push_size (s.heap.push o) (o := { cls := .type "enumerate", data := .fields #[.none, .bool false, .ref s.heap.objs.size, rawInt 0, .none, .none] }) rfl
    rw [hz] at this; exact this
  refine ⟨⟨_, he, rfl⟩, h _ he (Heap.get?_push_of_some _ (Heap.get?_push_size _ B.free)) (by rw [Heap.size_push, hz]) fun b o x => Heap.get?_push_of_some _ (Heap.get?_push_of_some _ x)⟩
end
end PySem
namespace Ev
open PySem PySem.Spec PyProof.Rows L2
/-- the tuple at a, its items counted in new pairs -/
def ItetU (K : PySem.W.Frag) (a : Addr) (us : List V) : It :=
  ⟨fun i H => SqT K H a us ∧ i < us.length, fun i H v H' => ∃ T x, v = .ref T ∧ H T = none ∧ H' = upd H T (.tup [.int (i : Nat), x]) ∧ us[i]? = some x, fun i H => SqT K H a us ∧ us.length = i⟩
theorem turn_enumT {P : Program} {w : World} {K : PySem.W.Frag} {elts : List Expr} {kk : Nat} {tpos : Pos} (a e it : Addr) (us : List V) (items : Array Value) (hne : e ≠ it) (hea : e ≠ a) (hia : a ≠ it) (rv : Vals us items.toList) :
    Turn P w K (.Tuple elts kk tpos) (ItetU K a us) [e, it] e (fun i h => (∃ old, IsEnum h e it ((i : Nat) : Int) old) ∧ h.IsTupleIter it a i) where
  mem := by simp
  obj := fun i h st b hb => by
    obtain ⟨⟨old, he⟩, ⟨o, ho, hc, hd⟩⟩ := st
    have e' : b = e ∨ b = it := by simpa using hb
    rcases e' with z | z
    · rw [z]; exact ⟨_, he, fun v q => nomatch q⟩
    · rw [z]; exact ⟨o, ho, fun v q => by rw [hd] at q; cases q⟩
  keep := fun i h h' st k => let ⟨⟨old, he⟩, hi⟩ := st; ⟨⟨old, k e (by simp) _ he⟩, hi.at fun o q => k it (by simp) o q⟩
  item := by
    intro X hP hw hK hc i pins s σ H E I hf st hg
    subst hP hw hK
    obtain ⟨⟨old, he⟩, hit⟩ := st
    obtain ⟨hq, hx⟩ := hg
    obtain ⟨its, rv', p, hz⟩ := I.tuple hq
    have hel : e < s.heap.objs.size := Heap.lt_size he
    have hil : it < s.heap.objs.size := by obtain ⟨_, q, _⟩ := hit; exact Heap.lt_size q
    have hh : X.A.in1.handled = none := I.ok.hd hc
    have hpt : s.heap.IsTuple a its.toArray := p
    have hsz : i < its.toArray.size := by rw [List.size_toArray, ← rv'.length]; exact hx
    refine wpAny_pyNext_enum_itemD (Draws.tuple hh it a hia its.toArray) he ⟨hit, hpt⟩ hsz hne (by simp only [List.mem_cons, List.not_mem_nil, or_false, not_or]; exact ⟨hne, hea⟩) fun u h' tk hu ho hit' hT hsz' hk => ?_
    obtain ⟨x, hx', ru⟩ : ∃ x, us[i]? = some x ∧ RelV x u := pr_get' rv' (by simpa using hu)
    refine ⟨_, rfl, wpAny_letOwnedTupleGo_enum (s := { s with heap := h', toks := tk + 1 }) ho fun h'' he' sb => ?_⟩
    have hT2 : h''.get? s.heap.objs.size = some { cls := .type "tuple", data := .seq #[.int i tk, u] } := (sb.2 _ (Nat.ne_of_gt hel)).trans hT
    have new : ObjOk X.prog X.w (upd H s.heap.objs.size (.tup [.int (i : Nat), x])) h'' s.heap.objs.size (.tup [.int (i : Nat), x]) :=
      ⟨by show 2 ≤ sizeLine; decide, [.int i tk, u], .cons ⟨_, rfl⟩ (.cons ru .nil), ⟨_, hT2, rfl, _, rfl⟩⟩
    have I1 : Inv X pins σ (upd H s.heap.objs.size (.tup [.int (i : Nat), x])) { s with heap := h'', toks := tk + 1 } :=
      I.turnedNew (ch := [e, it]) (fun b ob hb q => (sb.2 b (fun z => hb (by simp [z]))).trans (hk b ob (fun z => hb (by simp [z])) (fun z => hb (by simp [z])) q)) hf (Nat.le_refl _) new
    refine ⟨.ref s.heap.objs.size, _, I1, rfl, ⟨_, x, rfl, I.hok.fresh (Nat.le_refl _), rfl, hx'⟩, ⟨⟨u, ?_⟩, hit'.1.at fun o q => (sb.2 it (Ne.symm hne)).trans q⟩, fun b hb => ?_⟩
    · have e1 : ((i + 1 : Nat) : Int) = (i : Int) + 1 := by omega
      rw [e1]; exact he'
    · have hb' : b < s.heap.objs.size := by
        have e' : b = e ∨ b = it := by simpa using hb
        rcases e' with z | z
        · rw [z]; exact hel
        · rw [z]; exact hil
      rw [upd_ne (Nat.ne_of_lt hb')]
      exact (hf b hb).1
  done := by
    intro X hP hw hK hc i pins s σ H E I hf st hg
    subst hP hw hK
    obtain ⟨⟨old, he⟩, hit⟩ := st
    obtain ⟨hq, hx⟩ := hg
    obtain ⟨its, rv', p, hz⟩ := I.tuple hq
    obtain ⟨f0, f1, f2, f3, f4, f5⟩ := hf it (by simp)
    have hh : X.A.in1.handled = none := I.ok.hd hc
    have hpt : s.heap.IsTuple a its.toArray := p
    have hn : its.toArray.size = i := by rw [List.size_toArray, ← rv'.length]; exact hx
    subst hn
    exact wpAny_pyNext_enum_endD (Draws.tuple hh it a hia its.toArray) he ⟨hit, hpt⟩ fun h' eb => ⟨rfl, I.turned (t' := s.toks) (fun b o hb q => eb b o hb q) f0 f1 f3 f4 f5⟩
  self := fun A i s Q E st h => let ⟨⟨_, he⟩, _⟩ := st; wpAny_pyIter_enum he h
section
variable {X : Cx}
def iEnumA (K : PySem.W.Frag) (ta : TA) : TI := fun σ H R => ta σ H fun vs H1 => ∃ a xs, vs = [.ref a] ∧ ((SqL K H1 a xs ∧ R (Ite K a) H1) ∨ (SqT K H1 a xs ∧ R (ItetU K a xs) H1))
theorem pi_enumA {e : Expr} {ta : TA} {p pos tpos : Pos} {elts : List Expr} {kk : Nat} (hg : Gl X "enumerate") (hm : X.mg "enumerate" = none) (ha : PA X [e] ta) (hs : starEach [e] X.env = [(false, eval e X.env)] := by rfl) :
    PI X (.Tuple elts kk tpos) (.Call (.Name "enumerate" p) [e] [] pos) (iEnumA X.K ta) := by
  refine ⟨fun pins s σ H R I h => ?_⟩
  refine Call_ (ld_blt I hg hm boot_enumerate (PyProof.Rows.callWith_type1 (thn (ha.run pos pins s σ H _ I h) fun us s1 ⟨vs, H1, I1, r1, q1⟩ => ?_) hs rfl))
  obtain ⟨a, xs, ex, q⟩ := q1
  subst ex
  cases r1 with
  | cons r rr =>
    cases rr
    cases r
    have fresh : ∀ b, b ∈ [s1.heap.objs.size + 1, s1.heap.objs.size] → FpOk X pins H1 b := fun b hb => by
      have e' : b = s1.heap.objs.size + 1 ∨ b = s1.heap.objs.size := by simpa using hb
      have hle : s1.heap.objs.size ≤ b := by
        rcases e' with z | z
        · rw [z]; exact Nat.le_add_right _ _
        · rw [z]; exact Nat.le_refl _
      exact I1.fpOk hle (I1.hok.fresh hle)
    rcases q with ⟨hq, q⟩ | ⟨hq, q⟩
    · obtain ⟨its, rv, p', hz⟩ := I1.list hq
      refine call_enumerate_list p'.isList fun h' he hit hsz hk => wpAny_pyIter_enum he ?_
      have I2 : Inv X pins σ H1 { s1 with heap := h' } := I1.kept (t' := s1.toks) hk
      exact ⟨s1.heap.objs.size + 1, [s1.heap.objs.size + 1, s1.heap.objs.size], _, _, H1, rfl, I2, turn_enum a (s1.heap.objs.size + 1) s1.heap.objs.size, ⟨⟨.none, he⟩, hit, Nat.succ_ne_self _⟩, fresh, q⟩
    · obtain ⟨its, rv, p', hz⟩ := I1.tuple hq
      have ha : a < s1.heap.objs.size := p'.lt
      refine ev_enum_begins (begins_tuple a its.toArray) (show s1.heap.IsTuple a its.toArray from p') fun h' he hit hsz hk => wpAny_pyIter_enum he ?_
      have I2 : Inv X pins σ H1 { s1 with heap := h' } := I1.kept (t' := s1.toks) hk
      exact ⟨s1.heap.objs.size + 1, [s1.heap.objs.size + 1, s1.heap.objs.size], _, _, H1, rfl, I2, turn_enumT a (s1.heap.objs.size + 1) s1.heap.objs.size xs its.toArray (Nat.succ_ne_self _) (Nat.ne_of_gt (Nat.lt_succ_of_lt ha)) (Nat.ne_of_lt ha) (by simpa using rv), ⟨⟨.none, he⟩, ⟨_, hit, rfl, rfl⟩⟩, fresh, q⟩
/-- a list or a tuple -/
def iSeq (K : PySem.W.Frag) (tl : TE) : TI := fun σ H R => tl σ H fun x H1 => ∃ a xs, x = .ref a ∧ ((SqL K H1 a xs ∧ R (Itl K a) H1) ∨ (SqT K H1 a xs ∧ R (Itt K a) H1))
theorem pi_seq {l tg : Expr} {tl : TE} (hl : PE X l tl) : PI X tg l (iSeq X.K tl) := by
  refine ⟨fun pins s σ H R I h => ?_⟩
  refine thn (hl.run pins s σ H _ I h) fun v s1 ⟨x, H1, I1, r1, q1⟩ => ?_
  obtain ⟨a, xs, e, q⟩ := q1
  subst e
  cases r1
  have fresh : ∀ b, b ∈ [s1.heap.objs.size] → FpOk X pins H1 b := fun b hb => by
    have e : b = s1.heap.objs.size := by simpa using hb
    subst e
    exact I1.fpOk (Nat.le_refl _) (I1.hok.fresh (Nat.le_refl _))
  rcases q with ⟨hq, q⟩ | ⟨hq, q⟩
  · obtain ⟨its, rv, p, hz⟩ := I1.list hq
    exact wpAny_pyIter_list p.isList ⟨s1.heap.objs.size, [s1.heap.objs.size], _, _, H1, rfl, I1.kept (t' := s1.toks) fun b o e => Heap.get?_push_of_some _ e, turn_list a _, ⟨_, Heap.get?_push_size _ rfl, rfl, rfl⟩, fresh, q⟩
  · obtain ⟨its, rv, p, hz⟩ := I1.tuple hq
    exact wpAny_pyIter_tuple (show s1.heap.IsTuple a its.toArray from p) ⟨s1.heap.objs.size, [s1.heap.objs.size], _, _, H1, rfl, I1.kept (t' := s1.toks) fun b o e => Heap.get?_push_of_some _ e, turn_tuple a _, ⟨_, Heap.get?_push_size _ rfl, rfl, rfl⟩, fresh, q⟩
end
end Ev

set_option Elab.async false
set_option linter.all false
set_option maxRecDepth 100000
set_option maxHeartbeats 4000000
/-! Ev3b: operators, built-in functions and methods over pure data. -/
namespace Ev
open PySem PySem.Spec PyProof.Rows L2

/-- what is wanted of pure data is what is wanted of the value and the heap -/
def Gets (K : PySem.W.Frag) (ms : List Addr) (H : Hp) (Qp : Post) (Q : VK) : Prop :=
  ∀ (d : D) (st' : Store) (ms' : List Addr) (v : V) (H' : Hp), Qp d st' → ms <+: ms' → Keep H H' → Rel K ms' st' H' → RepV K ms' H' d v → Q v H'
section
variable {K : PySem.W.Frag} {ms : List Addr} {st : Store} {H : Hp} {Qp : Post} {Q : VK}
theorem Gets.here (g : Gets K ms H Qp Q) (r : Rel K ms st H) {d : D} {v : V} (q : Qp d st) (h : RepV K ms H d v) : Q v H := g d st ms v H q (List.prefix_refl _) (Keep.refl _) r h
theorem Gets.tup (g : Gets K ms H Qp Q) (r : Rel K ms st H) {l : List D} {xs : List V} (q : Qp (.tup l) st) (h : RepL K ms H l xs) {p : Addr} (hp : H p = none) : Q (.ref p) (upd H p (.tup xs)) :=
  g _ st ms _ _ q (List.prefix_refl _) (Keep.new hp) (r.newTup hp) (by
    simp only [RepV]
    exact ⟨p, xs, rfl, SqT.of upd_same, repA_iff.mpr (h.keep (List.prefix_refl _) (Keep.new hp))⟩)
theorem Gets.lst (g : Gets K ms H Qp Q) (r : Rel K ms st H) {l : List D} {xs : List V} (q : Qp (.ref st.length) (st ++ [.lst l])) (h : RepL K ms H l xs) {p : Addr} (hp : H p = none) : Q (.ref p) (upd H p (.lst xs)) :=
  g _ _ (ms ++ [p]) _ _ q (List.prefix_append _ _) (Keep.new hp) (r.newLst hp h) (by
    simp only [RepV]
    exact ⟨p, rfl, by rw [← r.len]; simp⟩)
theorem Gets.set (g : Gets K ms H Qp Q) (r : Rel K ms st H) {n : Nat} {a : Addr} {l l' : List D} {ys xs : List V} (hm : ms[n]? = some a) (hs : st[n]? = some (MO.lst l)) (ha : H a = some (.lst ys)) {d : D} {v : V}
    (q : Qp d (st.set n (.lst l'))) (h : RepL K ms H l' xs) (hv : RepV K ms H d v) : Q v (upd H a (.lst xs)) :=
  g _ _ ms _ _ q (List.prefix_refl _) (Keep.lst ha) (r.set hm hs ha h) (hv.keep (List.prefix_refl _) (Keep.lst ha))
theorem rv_int {i : Int} : RepV K ms H (.int i) (.int i) := by simp [RepV]
theorem rv_bl {i : Bool} : RepV K ms H (.bl i) (.bl i) := by simp [RepV]
theorem rv_non : RepV K ms H .non .non := by simp [RepV]
theorem rv_tup {l : List D} {a : Addr} {xs : List V} (h : SqT K H a xs) (hl : RepL K ms H l xs) : RepV K ms H (.tup l) (.ref a) := by
  simp only [RepV]
  exact ⟨a, xs, rfl, h, repA_iff.mpr hl⟩
theorem rv_ref {n : Nat} {v : V} (h : RepV K ms H (.ref n) v) : ∃ a, v = .ref a ∧ ms[n]? = some a := by simpa only [RepV] using h
theorem rv_tup' {l : List D} {v : V} (h : RepV K ms H (.tup l) v) : ∃ a xs, v = .ref a ∧ SqT K H a xs ∧ RepL K ms H l xs := by
  simp only [RepV] at h
  obtain ⟨a, xs, h1, h2, h3⟩ := h
  exact ⟨a, xs, h1, h2, repA_iff.mp h3⟩
/-- a list of the store -/
theorem Rel.sq (r : Rel K ms st H) {n : Nat} {a : Addr} {l : List D} (hm : ms[n]? = some a) (h : st[n]? = some (MO.lst l) ∨ st[n]? = some (MO.ro l)) : ∃ xs, SqL K H a xs ∧ RepL K ms H l xs := by
  rcases h with h | h
  · obtain ⟨xs, h1, h2⟩ := r.at hm h
    exact ⟨xs, SqL.of h1, h2⟩
  · obtain ⟨xs, h1, h2⟩ := r.at hm h
    exact ⟨xs, h1.sq, h2⟩
theorem seq_of (r : Rel K ms st H) {d : D} {v : V} (h : RepV K ms H d v) {l : List D} (e : seqD st d = some l) : ∃ a xs, v = .ref a ∧ RepL K ms H l xs ∧ (SqL K H a xs ∨ SqT K H a xs) := by
  cases d with
  | tup l' =>
    have e' : l' = l := by simpa [seqD] using e
    subst e'
    obtain ⟨a, xs, h1, h2, h3⟩ := rv_tup' h
    exact ⟨a, xs, h1, h3, .inr h2⟩
  | ref n =>
    obtain ⟨a, rfl, hm⟩ := rv_ref h
    have e' : st[n]? = some (MO.lst l) ∨ st[n]? = some (MO.ro l) := by
      simp only [seqD] at e
      split at e
      · rename_i q; cases e; exact .inl q
      · rename_i q; cases e; exact .inr q
      · cases e
    obtain ⟨xs, h1, h2⟩ := r.sq hm e'
    exact ⟨a, xs, rfl, h2, .inl h1⟩
  | _ => simp [seqD] at e
theorem ints_of : ∀ {l : List D} {xs : List V} {ns : List Int}, RepL K ms H l xs → intsD l = some ns → xs = ns.map V.int
  | [], _, ns, .nil, e => by simp [intsD] at e; subst e; rfl
  | .int i :: l, _, ns, .cons h t, e => by
    simp only [intsD, Option.map_eq_some_iff] at e
    obtain ⟨ms', e1, e2⟩ := e
    subst e2
    simp only [RepV] at h
    subst h
    rw [ints_of t e1]
    rfl
  | .non :: l, _, _, _, e => by simp [intsD] at e
  | .bl _ :: l, _, _, _, e => by simp [intsD] at e
  | .str _ :: l, _, _, _, e => by simp [intsD] at e
  | .tup _ :: l, _, _, _, e => by simp [intsD] at e
  | .ref _ :: l, _, _, _, e => by simp [intsD] at e
theorem bls_of : ∀ {l : List D} {xs : List V} {ns : List Bool}, RepL K ms H l xs → blsD l = some ns → xs = ns.map V.bl
  | [], _, ns, .nil, e => by simp [blsD] at e; subst e; rfl
  | .bl i :: l, _, ns, .cons h t, e => by
    simp only [blsD, Option.map_eq_some_iff] at e
    obtain ⟨ms', e1, e2⟩ := e
    subst e2
    simp only [RepV] at h
    subst h
    rw [bls_of t e1]
    rfl
  | .non :: l, _, _, _, e => by simp [blsD] at e
  | .int _ :: l, _, _, _, e => by simp [blsD] at e
  | .str _ :: l, _, _, _, e => by simp [blsD] at e
  | .tup _ :: l, _, _, _, e => by simp [blsD] at e
  | .ref _ :: l, _, _, _, e => by simp [blsD] at e
theorem rangeRep {i : Int} : ∀ {n : Nat} {f : Nat → Int}, RepL K ms H ((List.range n).map fun k => D.int (f k)) ((List.range n).map fun k => V.int (f k)) := by
  intro n f
  generalize List.range n = l
  induction l with
  | nil => exact .nil
  | cons a t ih => exact .cons rv_int ih
theorem lineS : line ≤ sizeLine := by rw [sizeLine_eq]; decide
end

/-! ### sums, greatest and least of tuples of ints -/
section
variable {prog : Program} {w : World} {A : Around} {E : Value → Shared → Prop} {s : Shared} {l : Addr} {its : List Value} {ns : List Int} {Q : Value → Shared → Prop}
theorem sum_tup_raw (hh : A.handled = none) (hl : s.heap.IsTuple l its.toArray) (hi : IntsAre its ns)
    (h : ∀ h' tk t', (∀ b o, s.heap.get? b = some o → h'.get? b = some o) → Q (.int ns.sum t') { s with heap := h', toks := tk }) : wpAny (model prog w) A (call (.builtin "sum") [.ref l]) Q E s := by
  obtain ⟨xs, e⟩ := hi.allInts.items
  have hn : numsOf (intItems xs).toList = ns := by rw [← e]; exact hi.numsOf
  rw [nums_intItems] at hn
  rw [e] at hl
  refine PySem.W.ktm_sumG hh hl fun h' tk t' hk => ?_
  have := h h' tk t' hk
  rw [preSum_eq, List.take_of_length_le (by simp), hn]; exact this
theorem readsInts {h : Heap} : ∀ {its : List Value} {ns : List Int}, IntsAre its ns → ∃ as, ReadsAll h its (ns.map PyData.int) as
  | _, _, .nil => ⟨_, ReadsAll.nil⟩
  | _, _, .cons n t hi => let ⟨_, q⟩ := readsInts hi; ⟨_, ReadsAll.cons (Reads.int n t) q⟩
theorem alikeInts (ns : List Int) : PySem.W.AlikeAll (ns.map PyData.int) := by
  refine ⟨fun x hx y hy => ?_, fun x hx => ?_⟩
  · obtain ⟨i, _, rfl⟩ := List.mem_map.mp hx
    obtain ⟨j, _, rfl⟩ := List.mem_map.mp hy
    have h := PySem.W.alike_ints [i] [j]
    simp [PySem.W.alikeAll] at h
    exact h
  · obtain ⟨i, _, rfl⟩ := List.mem_map.mp hx
    exact fun z => nomatch z
theorem depthInts : ∀ ns : List Int, PyData.depthAll (ns.map PyData.int) = 0
  | [] => rfl
  | n :: ns => by simp [PyData.depthAll, PyData.depth, depthInts ns]
end

/-! ### built-in functions -/
def rPrim (K : PySem.W.Frag) (p : Prim) : List V → Hp → VK → Prop := fun vs H Q => ∃ (ms : List Addr) (st : Store) (ds : List D) (Qp : Post), Rel K ms st H ∧ RepL K ms H ds vs ∧ primD p ds st Qp ∧ Gets K ms H Qp Q
section
variable {X : Cx}
theorem one_rep {K : PySem.W.Frag} {ms : List Addr} {H : Hp} {d : D} {vs : List V} (h : RepL K ms H [d] vs) : ∃ v, vs = [v] ∧ RepV K ms H d v := by
  cases h with
  | cons a t => cases t; exact ⟨_, rfl, a⟩
theorem two_rep {K : PySem.W.Frag} {ms : List Addr} {H : Hp} {d e : D} {vs : List V} (h : RepL K ms H [d, e] vs) : ∃ v w, vs = [v, w] ∧ RepV K ms H d v ∧ RepV K ms H e w := by
  cases h with
  | cons a t =>
    obtain ⟨w, rfl, b⟩ := one_rep t
    exact ⟨_, _, rfl, a, b⟩
theorem pr_len : CallR X (.builtin "len") (rPrim X.K .len) := by
  intro pins s σ H vs us Q I r h
  obtain ⟨ms, st, ds, Qp, R, hv, h, g⟩ := h
  match ds, h with
  | [d], h =>
    obtain ⟨l, e, q⟩ := h
    obtain ⟨v, rfl, rv⟩ := one_rep hv
    obtain ⟨a, xs, rfl, rl, sq⟩ := seq_of R rv e
    refine call_len_seq pins s σ H _ us Q I r ⟨a, xs, rfl, sq, ?_⟩
    rw [← rl.length]
    exact g.here R q rv_int
theorem pr_tuple : CallR X (.type "tuple") (rPrim X.K .tuple) := by
  intro pins s σ H vs us Q I r h
  obtain ⟨ms, st, ds, Qp, R, hv, h, g⟩ := h
  match ds, h with
  | [d], h =>
    obtain ⟨l, e, q⟩ := h
    obtain ⟨v, rfl, rv⟩ := one_rep hv
    obtain ⟨a, xs, rfl, rl, sq⟩ := seq_of R rv e
    refine call_tuple_of pins s σ H _ us Q I r ⟨a, xs, rfl, ?_⟩
    rcases sq with sq | sq
    · exact .inl ⟨sq, fun p hp => g.tup R q rl hp⟩
    · exact .inr ⟨sq, g.here R q (rv_tup sq rl)⟩
theorem pr_list : CallR X (.type "list") (rPrim X.K .list) := by
  intro pins s σ H vs us Q I r h
  obtain ⟨ms, st, ds, Qp, R, hv, h, g⟩ := h
  match ds, h with
  | [d], h =>
    obtain ⟨l, e, q⟩ := h
    obtain ⟨v, rfl, rv⟩ := one_rep hv
    obtain ⟨a, xs, rfl, rl, sq⟩ := seq_of R rv e
    exact call_list_of pins s σ H _ us Q I r ⟨a, xs, rfl, sq, fun p hp => g.lst R q rl hp⟩
theorem ints_seq {K : PySem.W.Frag} {ms : List Addr} {st : Store} {H : Hp} {d : D} {v : V} {ns : List Int} (R : Rel K ms st H) (rv : RepV K ms H d v) (e : intsOf st d = some ns) :
    ∃ a, v = .ref a ∧ (SqL K H a (ns.map V.int) ∨ SqT K H a (ns.map V.int)) := by
  simp only [intsOf, Option.bind_eq_some_iff] at e
  obtain ⟨l, e1, e2⟩ := e
  obtain ⟨a, xs, rfl, rl, sq⟩ := seq_of R rv e1
  rw [ints_of rl e2] at sq
  exact ⟨a, rfl, sq⟩
theorem pr_sum (hc : X.calm = true) : CallR X (.builtin "sum") (rPrim X.K .sum) := by
  intro pins s σ H vs us Q I r h
  obtain ⟨ms, st, ds, Qp, R, hv, h, g⟩ := h
  match ds, h with
  | [d], h =>
    obtain ⟨l, e, q⟩ := h
    obtain ⟨v, rfl, rv⟩ := one_rep hv
    obtain ⟨a, rfl, sq⟩ := ints_seq R rv e
    have q' : Q (.int l.sum) H := g.here R q rv_int
    rcases sq with sq | sq
    · exact cr_sum hc pins s σ H _ us Q I r ⟨a, l, rfl, sq, q'⟩
    · obtain ⟨its, ri, hl, _⟩ := I.tuple sq
      rw [Vals.ref1 r]
      exact sum_tup_raw (I.ok.hd hc) (show s.heap.IsTuple a its.toArray from hl) ri.ints fun h' tk t' hk => ⟨.int _, H, I.kept hk, ⟨_, rfl⟩, q'⟩
theorem pr_max (hc : X.calm = true) (hu : X.A.units + 65 < cLine) : CallR X (.builtin "max") (rPrim X.K .max) := by
  intro pins s σ H vs us Q I r h
  obtain ⟨ms, st, ds, Qp, R, hv, h, g⟩ := h
  match ds, h with
  | [d], h =>
    obtain ⟨l, e, hne, q⟩ := h
    obtain ⟨v, rfl, rv⟩ := one_rep hv
    obtain ⟨a, rfl, sq⟩ := ints_seq R rv e
    cases l with
    | nil => exact absurd rfl hne
    | cons n ns =>
      have q' : Q (.int (ns.foldl max n)) H := g.here R q rv_int
      have fin : ∀ (its : List Value), Vals ((n :: ns).map V.int) its → ∀ (i : Nat) (v : Value) (h' : Heap) (tk : Nat) (bs : List Addr), its.toArray[i]? = some v → Reads h' v (PySem.W.maxD (.int n) (ns.map .int)) bs → (∀ b o, s.heap.get? b = some o → h'.get? b = some o) → EP X pins σ Q v { s with heap := h', toks := tk } := by
        intro its rit i v h' tk bs _ hr hk
        rw [PySem.W.maxD_ints] at hr
        cases hr
        exact ⟨.int _, H, I.kept hk, ⟨_, rfl⟩, q'⟩
      rw [Vals.ref1 r]
      have hd0 : X.A.units + 1 + PyData.depthAll (PyData.int n :: ns.map PyData.int) < cLine := by
        have e0 : PyData.depthAll (PyData.int n :: ns.map PyData.int) = 0 := depthInts (n :: ns)
        rw [e0]
        exact Nat.lt_of_le_of_lt (by simp) hu
      rcases sq with sq | sq
      · obtain ⟨its, ri, hl, _⟩ := I.list sq
        obtain ⟨as, hrd⟩ := readsInts (h := s.heap) ri.ints
        exact PySem.W.max_list_data (I.ok.hd hc) hl.isList (x := .int n) (xs := ns.map .int) hrd (alikeInts (n :: ns)) hd0 (fin its ri)
      · obtain ⟨its, ri, hl, _⟩ := I.tuple sq
        obtain ⟨as, hrd⟩ := readsInts (h := s.heap) ri.ints
        exact PySem.W.max_tuple_data (I.ok.hd hc) (show s.heap.IsTuple a its.toArray from hl) (x := .int n) (xs := ns.map .int) hrd (alikeInts (n :: ns)) hd0 (fin its ri)
theorem pr_min (hc : X.calm = true) (hu : X.A.units + 65 < cLine) : CallR X (.builtin "min") (rPrim X.K .min) := by
  intro pins s σ H vs us Q I r h
  obtain ⟨ms, st, ds, Qp, R, hv, h, g⟩ := h
  match ds, h with
  | [d], h =>
    obtain ⟨l, e, hne, q⟩ := h
    obtain ⟨v, rfl, rv⟩ := one_rep hv
    obtain ⟨a, rfl, sq⟩ := ints_seq R rv e
    cases l with
    | nil => exact absurd rfl hne
    | cons n ns =>
      have q' : Q (.int (ns.foldl min n)) H := g.here R q rv_int
      have fin : ∀ (its : List Value), Vals ((n :: ns).map V.int) its → ∀ (i : Nat) (v : Value) (h' : Heap) (tk : Nat) (bs : List Addr), its.toArray[i]? = some v → Reads h' v (PySem.W.minD (.int n) (ns.map .int)) bs → (∀ b o, s.heap.get? b = some o → h'.get? b = some o) → EP X pins σ Q v { s with heap := h', toks := tk } := by
        intro its rit i v h' tk bs _ hr hk
        rw [PySem.W.minD_ints] at hr
        cases hr
        exact ⟨.int _, H, I.kept hk, ⟨_, rfl⟩, q'⟩
      rw [Vals.ref1 r]
      have hd0 : X.A.units + 1 + PyData.depthAll (PyData.int n :: ns.map PyData.int) < cLine := by
        have e0 : PyData.depthAll (PyData.int n :: ns.map PyData.int) = 0 := depthInts (n :: ns)
        rw [e0]
        exact Nat.lt_of_le_of_lt (by simp) hu
      rcases sq with sq | sq
      · obtain ⟨its, ri, hl, _⟩ := I.list sq
        obtain ⟨as, hrd⟩ := readsInts (h := s.heap) ri.ints
        exact PySem.W.min_list_data (I.ok.hd hc) hl.isList (x := .int n) (xs := ns.map .int) hrd (alikeInts (n :: ns)) hd0 (fin its ri)
      · obtain ⟨its, ri, hl, _⟩ := I.tuple sq
        obtain ⟨as, hrd⟩ := readsInts (h := s.heap) ri.ints
        exact PySem.W.min_tuple_data (I.ok.hd hc) (show s.heap.IsTuple a its.toArray from hl) (x := .int n) (xs := ns.map .int) hrd (alikeInts (n :: ns)) hd0 (fin its ri)
theorem int_rep {K : PySem.W.Frag} {ms : List Addr} {H : Hp} {i : Int} {v : V} (h : RepV K ms H (.int i) v) : v = .int i := by simpa only [RepV] using h
theorem bl_rep {K : PySem.W.Frag} {ms : List Addr} {H : Hp} {i : Bool} {v : V} (h : RepV K ms H (.bl i) v) : v = .bl i := by simpa only [RepV] using h
theorem str_rep {K : PySem.W.Frag} {ms : List Addr} {H : Hp} {i : Str} {v : V} (h : RepV K ms H (.str i) v) : v = .str i := by simpa only [RepV] using h
theorem non_rep {K : PySem.W.Frag} {ms : List Addr} {H : Hp} {v : V} (h : RepV K ms H .non v) : v = .non := by simpa only [RepV] using h
theorem pr_min2 (hc : X.calm = true) : CallR X (.builtin "min") (rPrim X.K .min2) := by
  intro pins s σ H vs us Q I r h
  obtain ⟨ms, st, ds, Qp, R, hv, h, g⟩ := h
  match ds, h with
  | [.int i, .int j], q =>
    obtain ⟨v, w, rfl, rv, rw'⟩ := two_rep hv
    cases int_rep rv
    cases int_rep rw'
    exact call_min2 hc pins s σ H _ us Q I r ⟨i, j, rfl, g.here R q rv_int⟩
theorem pr_abs : CallR X (.builtin "abs") (rPrim X.K .abs) := by
  intro pins s σ H vs us Q I r h
  obtain ⟨ms, st, ds, Qp, R, hv, h, g⟩ := h
  match ds, h with
  | [.int i], q =>
    obtain ⟨v, rfl, rv⟩ := one_rep hv
    cases int_rep rv
    exact call_abs pins s σ H _ us Q I r ⟨i, rfl, g.here R q rv_int⟩
theorem pr_int : CallR X (.type "int") (rPrim X.K .int) := by
  intro pins s σ H vs us Q I r h
  obtain ⟨ms, st, ds, Qp, R, hv, h, g⟩ := h
  match ds, h with
  | [.int i], q =>
    obtain ⟨v, rfl, rv⟩ := one_rep hv
    cases int_rep rv
    exact call_int1 pins s σ H _ us Q I r (.inl ⟨i, rfl, g.here R q rv_int⟩)
  | [.bl i], q =>
    obtain ⟨v, rfl, rv⟩ := one_rep hv
    cases bl_rep rv
    exact call_int1 pins s σ H _ us Q I r (.inr ⟨i, rfl, g.here R q rv_int⟩)
theorem bls_seq {K : PySem.W.Frag} {ms : List Addr} {st : Store} {H : Hp} {d : D} {v : V} {ns : List Bool} (R : Rel K ms st H) (rv : RepV K ms H d v) (e : blsOf st d = some ns) (hl : ∃ n, d = .ref n) :
    ∃ a, v = .ref a ∧ SqL K H a (ns.map V.bl) := by
  obtain ⟨n, rfl⟩ := hl
  simp only [blsOf, Option.bind_eq_some_iff] at e
  obtain ⟨l, e1, e2⟩ := e
  obtain ⟨a, rfl, hm⟩ := rv_ref rv
  have e' : st[n]? = some (MO.lst l) ∨ st[n]? = some (MO.ro l) := by
    simp only [seqD] at e1
    split at e1
    · rename_i q; cases e1; exact .inl q
    · rename_i q; cases e1; exact .inr q
    · cases e1
  obtain ⟨xs, h1, h2⟩ := R.sq hm e'
  rw [bls_of h2 e2] at h1
  exact ⟨a, rfl, h1⟩
theorem pr_all (hc : X.calm = true) : CallR X (.builtin "all") (rPrim X.K .all) := by
  intro pins s σ H vs us Q I r h
  obtain ⟨ms, st, ds, Qp, R, hv, h, g⟩ := h
  match ds, h with
  | [.ref n], h =>
    obtain ⟨l, e, q⟩ := h
    obtain ⟨v, rfl, rv⟩ := one_rep hv
    obtain ⟨a, rfl, sq⟩ := bls_seq R rv e ⟨_, rfl⟩
    exact cr_all hc pins s σ H _ us Q I r ⟨a, l, rfl, sq, g.here R q rv_bl⟩
theorem pr_any (hc : X.calm = true) : CallR X (.builtin "any") (rPrim X.K .any) := by
  intro pins s σ H vs us Q I r h
  obtain ⟨ms, st, ds, Qp, R, hv, h, g⟩ := h
  match ds, h with
  | [.ref n], h =>
    obtain ⟨l, e, q⟩ := h
    obtain ⟨v, rfl, rv⟩ := one_rep hv
    obtain ⟨a, rfl, sq⟩ := bls_seq R rv e ⟨_, rfl⟩
    exact cr_any hc pins s σ H _ us Q I r ⟨a, l, rfl, sq, g.here R q rv_bl⟩
/-- the model's class of pure data -/
def tyS : D → String
  | .non => "NoneType"
  | .bl _ => "bool"
  | .int _ => "int"
  | .str _ => "str"
  | .tup _ => "tuple"
  | .ref _ => "list"
theorem ty_of {K : PySem.W.Frag} {ms : List Addr} {st : Store} {H : Hp} {d : D} {v : V} (R : Rel K ms st H) (rv : RepV K ms H d v) (hd : ∀ n, d = .ref n → ∃ o, st[n]? = some o) : TyX K H v (.type (tyS d)) := by
  cases d with
  | non => cases non_rep rv; exact .base .non
  | bl b => cases bl_rep rv; exact .base (.bl b)
  | int i => cases int_rep rv; exact .base (.int i)
  | str x => cases str_rep rv; exact .base (.str x)
  | tup l =>
    obtain ⟨a, xs, rfl, sq, _⟩ := rv_tup' rv
    rcases sq with (sq | ⟨o, sq⟩) | ⟨o, its, n, sq, hc, _⟩
    · exact .base (.tup sq)
    · exact .fTuple sq
    · exact .kTuple sq hc
  | ref n =>
    obtain ⟨a, rfl, hm⟩ := rv_ref rv
    obtain ⟨o, ho⟩ := hd n rfl
    have q := R.at hm ho
    cases o with
    | lst l => obtain ⟨xs, h1, _⟩ := q; exact .base (.lst h1)
    | ro l =>
      obtain ⟨xs, h1, _⟩ := q
      rcases h1 with ⟨o, h1⟩ | ⟨o, its, n, h1, hc, _⟩
      · exact .base (.frz h1)
      · exact .kList h1 hc
def tyN : Ty → List String
  | .int => ["int"]
  | .bool => ["bool"]
  | .tuple => ["tuple"]
  | .list => ["list"]
  | .str => ["str"]
  | .listtuple => ["list", "tuple"]
  | .boolstr => ["bool", "str"]
theorem kitAll (K : PySem.W.Frag) : ∀ a ∈ ["NoneType", "bool", "int", "str", "tuple", "list"], ∀ b ∈ ["int", "bool", "tuple", "list", "str"], PySem.W.kitOne K (.type a) (.type b) = some (a == b || (a == "bool" && b == "int")) := by
  have h : ∀ a ∈ ["NoneType", "bool", "int", "str", "tuple", "list"], ∀ b ∈ ["int", "bool", "tuple", "list", "str"], kitB a b = some (a == b || (a == "bool" && b == "int")) := by decide +kernel
  exact fun a ha b hb => kit_ty (h a ha b hb)
theorem isTy_eq {d : D} {st : Store} {t : Ty} {b : Bool} (e : isTy t d st = some b) : b = (tyN t).any (fun n => tyS d == n || (tyS d == "bool" && n == "int")) ∧ ∀ n, d = .ref n → ∃ o, st[n]? = some o := by
  cases d with
  | ref n =>
    simp only [isTy] at e
    cases hs : st[n]? with
    | none => rw [hs] at e; cases e
    | some o =>
      rw [hs] at e
      refine ⟨?_, fun m hm => by cases hm; exact ⟨o, hs⟩⟩
      cases t <;> (simp at e; subst e; simp [tyN, tyS])
  | _ => refine ⟨?_, fun m hm => nomatch hm⟩; cases t <;> (simp [isTy] at e; subst e; simp [tyN, tyS])
theorem pr_isi {t : Ty} {n : String} (hn : tyN t = [n]) (hn5 : n ∈ ["int", "bool", "tuple", "list", "str"]) : CallR X (.builtin "isinstance") (fun vs H Q => ∃ v, vs = [v, .ty n] ∧ rPrim X.K (.isi t) [v] H Q) := by
  intro pins s σ H vs us Q I r h
  obtain ⟨v, rfl, ms, st, ds, Qp, R, hv, h, g⟩ := h
  match ds, h with
  | [d], h =>
    obtain ⟨b, e, q⟩ := h
    obtain ⟨v', e', rv⟩ := one_rep hv
    cases e'
    obtain ⟨e1, e2⟩ := isTy_eq e
    have hd6 : tyS d ∈ ["NoneType", "bool", "int", "str", "tuple", "list"] := by cases d <;> simp [tyS]
    refine call_isi pins s σ H _ us Q I r ⟨v, .ty n, _, _, b, rfl, .ty n, ty_of R rv e2, ?_, g.here R q rv_bl⟩
    rw [kitAll X.K _ hd6 _ hn5, e1, hn]
    simp
theorem pr_isi2 {t : Ty} {n m : String} (hn : tyN t = [n, m]) (h1 : n ∈ ["int", "bool", "tuple", "list", "str"]) (h2 : m ∈ ["int", "bool", "tuple", "list", "str"]) : CallR X (.builtin "isinstance") (fun vs H Q => ∃ v tp, vs = [v, .ref tp] ∧ H tp = some (.tup [.ty n, .ty m]) ∧ rPrim X.K (.isi t) [v] H Q) := by
  intro pins s σ H vs us Q I r h
  obtain ⟨v, tp, rfl, htp, ms, st, ds, Qp, R, hv, h, g⟩ := h
  match ds, h with
  | [d], h =>
    obtain ⟨b, e, q⟩ := h
    obtain ⟨v', e', rv⟩ := one_rep hv
    cases e'
    obtain ⟨e1, e2⟩ := isTy_eq e
    have hd6 : tyS d ∈ ["NoneType", "bool", "int", "str", "tuple", "list"] := by cases d <;> simp [tyS]
    refine call_isiT pins s σ H _ us Q I r ⟨v, tp, _, _, [.type n, .type m], b, rfl, htp, .cons (.ty _) (.cons (.ty _) .nil), ty_of R rv e2, ?_, g.here R q rv_bl⟩
    have k1 := kitAll X.K _ hd6 n h1
    have k2 := kitAll X.K _ hd6 m h2
    rw [hn] at e1
    simp only [List.any_cons, List.any_nil, Bool.or_false] at e1
    refine kitAny_cons k1 (fun f1 => kitAny_cons k2 (fun f2 => ?_) fun f2 => ?_) fun f1 => ?_
    · rw [kitAny_nil, e1, f1, f2]; rfl
    · rw [e1, f1, f2]; rfl
    · rw [e1, f1]; rfl
end
end Ev

set_option Elab.async false
set_option linter.all false
set_option maxRecDepth 100000
set_option maxHeartbeats 8000000
/-! Ev3e: a tuple turned about, t[::-1]. -/
namespace Ev
open PySem PySem.Spec PyProof.Rows L2
section
variable {prog : Program} {w : World} {A : Around} {E : Value → Shared → Prop} {s : Shared}
theorem rev_places (n : Nat) : Builtin.Slice.sliceAdjust none none (-1) (n : Int) = ((n : Int) - 1, -1) ∧ Builtin.Slice.slicePlaces ((n : Int) - 1) (-1) (-1) = n := by
  refine ⟨rfl, ?_⟩
  unfold Builtin.Slice.slicePlaces
  rw [if_neg (by decide)]
  split
  · rename_i h
    have e : ((n : Int) - 1 - -1 - 1) / (- -1) = (n : Int) - 1 := by
      rw [show (- -1 : Int) = 1 from rfl, Int.ediv_one]; omega
    rw [e]; omega
  · omega
theorem rev_applied {a : Addr} {vl vu vs : Value} {n : Nat} {Q : Int × Int × Nat → Shared → Prop} (hs : s.heap.IsSliceOf a vl vu vs) (pl : IsPart vl none) (pu : IsPart vu none) (ps : IsPart vs (some (-1)))
    (h : Q ((n : Int) - 1, -1, n) s) : wpAny (model prog w) A (Builtin.Slice.sliceApplied (.ref a) (pure (n : Int))) Q E s := by
  obtain ⟨o, h1, h2, h3⟩ := hs; unfold Builtin.Slice.sliceApplied Builtin.Slice.sliceFields
  refine wpAny_bind (wpAny_bind (wpAny_field h1 h3 (x := vl) rfl (wpAny_bind (wpAny_field h1 h3 (x := vu) rfl (wpAny_bind (wpAny_field h1 h3 (x := vs) rfl (wpAny_pure ?_)))))))
  refine wpAny_bind (HT.slicePart_ ps ?_)
  show wpAny _ _ (if ((-1 : Int) == 0) = true then _ else _) _ _ s
  rw [if_neg (by decide)]; refine wpAny_bind (HT.slicePart_ pl (wpAny_bind (HT.slicePart_ pu (wpAny_bind (wpAny_pure ?_)))))
  show wpAny _ _ (match Builtin.Slice.sliceAdjust none none (-1) (n : Int) with | (lo, hi) => pure (lo, (-1 : Int), Builtin.Slice.slicePlaces lo hi (-1))) _ _ s
  rw [(rev_places n).1]
  show wpAny _ _ (pure ((n : Int) - 1, (-1 : Int), Builtin.Slice.slicePlaces ((n : Int) - 1) (-1) (-1))) _ _ s
  rw [(rev_places n).2]; exact wpAny_pure h
theorem fm_map {α β : Type} {f : α → Option β} {g : α → β} : ∀ {l : List α}, (∀ m ∈ l, f m = some (g m)) → l.filterMap f = l.map g
  | [], _ => rfl
  | a :: l, h => by rw [List.filterMap_cons, h a (by simp), List.map_cons, fm_map fun m hm => h m (by simp [hm])]
theorem rev_pick (xs : Array Value) : ((List.range xs.size).filterMap fun (m : Nat) => xs[(((xs.size : Int) - 1) + (m : Int) * (-1)).toNat]?).toArray = xs.toList.reverse.toArray := by
  congr 1
  apply List.ext_getElem?
  intro i
  have e : ∀ m ∈ List.range xs.size, xs[(((xs.size : Int) - 1) + (m : Int) * (-1)).toNat]? = some (xs.toList.reverse.getD m .none) := by
    intro m hm
    have hm' := List.mem_range.mp hm
    have e1 : (((xs.size : Int) - 1) + (m : Int) * (-1)).toNat = xs.size - 1 - m := by omega
    rw [e1]
    have h2 : m < xs.toList.reverse.length := by simp; exact hm'
    have h3 : xs.size - 1 - m < xs.size := by omega
    simp [hm', h3]
  rw [fm_map e]
  by_cases hi : i < xs.size
  · simp [hi]
  · simp [hi]
theorem getItem_tuple_rev {t a : Addr} {items : Array Value} {vl vu vs : Value} {Q : Value → Shared → Prop} (ht : IsTup s.heap t items) (hs : s.heap.IsSliceOf a vl vu vs) (pl : IsPart vl none) (pu : IsPart vu none) (ps : IsPart vs (some (-1)))
    (h : Q (.ref s.heap.objs.size) { s with heap := s.heap.push { cls := .type "tuple", data := .seq items.toList.reverse.toArray } }) (hz : items.size ≤ sizeLine) : wpAny (model prog w) A (getItem (.ref t) (.ref a)) Q E s := by
  have hT : s.TypeIs (.ref a) "slice" := by
    obtain ⟨o, h1, h2, _⟩ := hs
    exact ⟨o, h1, h2⟩
  have fits : sizeOk (.seq items.toList.reverse.toArray) := by
    show items.toList.reverse.toArray.size ≤ sizeLine
    simpa using hz
  unfold getItem; (try with_reducible refine wpAny_holding ?_); (first | refine wpAny_bind (wpAny_pure ?_) | skip)
  refine wpAny_bind (wpAny_sequenceKey ht.typeIs (by decide) ?_); refine wpAny_bind (wpAny_callSpecial?_slot (name := Str.ofString "__getitem__") ht.typeIs PyProof.Rows.slot_tuple_getitem (wpAny_call_entry PyProof.Rows.slot_tuple_getitem ht.typeIs entry_tuple_getitem ?_ (args_tuple_getitem _ _)))
  show wpAny _ _ (Builtin.Tuple.tupleItemsOf (.ref t) >>= _) _ _ s; refine wpAny_bind (tupleItemsOf_ ht ?_); refine wpAny_bind (wpAny_typeOf hT ?_); rw [if_pos (by decide)]
  refine wpAny_bind (rev_applied hs pl pu ps ?_)
  have no : ¬ ((((items.size : Int) - 1) == 0 && (-1 : Int) == 1 && items.size == items.size) = true) := by simp
  show wpAny _ _ (if (((items.size : Int) - 1) == 0 && (-1 : Int) == 1 && items.size == items.size) = true then _ else _) _ _ s
  rw [if_neg no, rev_pick]
  first
    | exact wpAny_bind (m := Builtin.Tuple.tupleExact _) (wpAny_newObj_type (wpAny_pure ⟨_, rfl, wpAny_pure h⟩) fits)
    | exact wpAny_bind (m := Builtin.Tuple.tupleExact _) (wpAny_newObj_type (wpAny_bind (wpAny_pure (wpAny_pure ⟨_, rfl, wpAny_pure h⟩))) fits)
    | exact wpAny_bind (wpAny_bind (m := Builtin.Tuple.tupleExact _) (wpAny_newObj_type (wpAny_pure (wpAny_pure ⟨_, rfl, wpAny_pure h⟩)) fits))
    | exact wpAny_bind (wpAny_bind (m := Builtin.Tuple.tupleExact _) (wpAny_newObj_type (wpAny_pure ⟨_, rfl, wpAny_pure h⟩) fits))
end
section
variable {X : Cx}
def tRevT (K : PySem.W.Frag) (te : TE) : TE := fun σ H Q => te σ H fun x H1 => ∃ a xs, x = .ref a ∧ SqT K H1 a xs ∧ ∀ p, H1 p = none → Q (.ref p) (upd H1 p (.tup xs.reverse))
theorem pe_revT {e : Expr} {te : TE} {k : Nat} {p1 p2 p3 pos : Pos} (he : PE X e te) : PE X (.Subscript e (.Slice none none (some (.UnaryOp .USub (.Constant (.int 1) k p1) p2)) p3) pos) (tRevT X.K te) := by
  refine ⟨fun pins s σ H Q I h => ?_⟩
  refine Subscript_ (thn (he.run pins s σ H _ I h) ?_)
  rintro v s1 ⟨x, H1, I1, r1, a, xs, rfl, hx, q⟩
  cases r1
  have hst : PO X (some (.UnaryOp .USub (.Constant (.int 1) k p1) p2)) (tPart (tUn (rU fun i => .int (-i)) (tC (.int 1)))) := po_some (pe_un un_neg pe_int)
  refine wpAny_Slice (thn (po_none.run pins s1 σ H1 (fun o H2 => o = none ∧ H2 = H1) I1 ⟨rfl, rfl⟩) ?_)
  rintro vl s2 ⟨l, H2, I2, pl, rfl, rfl⟩
  refine thn (po_none.run pins s2 σ H2 (fun o H3 => o = none ∧ H3 = H2) I2 ⟨rfl, rfl⟩) ?_
  rintro vu s3 ⟨u, H3, I3, pu, rfl, rfl⟩
  refine thn (hst.run pins s3 σ H3 (fun o H4 => o = some (-1) ∧ H4 = H3) I3 ⟨1, rfl, -1, rfl, rfl, rfl⟩) ?_
  rintro vs s4 ⟨o, H4, I4, ps, rfl, rfl⟩
  have I5 : Inv X pins σ H4 { s4 with heap := s4.heap.push { cls := .type "slice", data := .fields #[vl, vu, vs] } } := I4.kept (t' := s4.toks) fun b ob q => Heap.get?_push_of_some _ q
  obtain ⟨its, r, ht, hz⟩ := I5.tuple hx
  have hlen := r.length
  show wpAny (model X.prog X.w) X.A (subscriptTail e (.Slice none none (some (.UnaryOp .USub (.Constant (.int 1) k p1) p2)) p3) (.ref a) (.ref s4.heap.objs.size)) (EP X pins σ Q) X.xe { s4 with heap := s4.heap.push { cls := .type "slice", data := .fields #[vl, vu, vs] } }
  refine tail_any (ops := [.ref a, .ref s4.heap.objs.size]) ht.typeIs (PyProof.Rows.slot_tuple_getitem.lookup) ?_ (by with_unfolding_all rfl)
  refine getItem_tuple_rev ht (Heap.IsSliceOf.new _ vl vu vs) pl pu ps ?_ (by rw [List.size_toArray]; omega)
  refine ⟨.ref _, _, I5.laid (t' := s4.toks) (o := .tup xs.reverse) (fun b ob q => Heap.get?_push_of_some _ q) (Nat.le_refl _) ?_, rfl, q _ (I5.hok.fresh (Nat.le_refl _))⟩
  exact ⟨by rw [List.length_reverse]; exact hz, _, r.reverse, IsTup.new _ _⟩
end
end Ev

set_option Elab.async false
set_option linter.all false
set_option maxRecDepth 100000
set_option maxHeartbeats 8000000
/-! Ev3f: a tuple taken some times, also once and never. -/
namespace Ev
open PySem PySem.Spec PyProof.Rows L2
theorem mul_same (l : Addr) (items : Array Value) (n : Nat) (dd : Option Addr) (sl : Array (Option Value)) (x : Int) (u : Tok) (c0 : (decide (x < -(2 ^ 63)) || decide (x ≥ 2 ^ 63)) = false) (c1 : (items.isEmpty || x == 1) = true) :
    Meets (Builtin.«tuple.__mul__» ⟨[.ref l, .int x u], []⟩) (fun _ R s => s.heap.get? l = some { cls := .type "tuple", dict := dd, data := .seq items n, slots := sl } ∧ R (.ok (.ret (Value.ref l))) s) :=
  .of_wp fun prog w A R s h => by
    obtain ⟨hp, g, d, tk, os⟩ := s; obtain ⟨hl, h⟩ := h; have f1 := AutoSeq1.idx_int; wp_walk using wpAny_loadPart' hl
    repeat (first
      | (refine wpAny_ite_false (decide_eq_false (by rw [c0]; exact Bool.false_ne_true)) ?_; wp_walk using wpAny_loadPart' hl)
      | (refine wpAny_ite_true (decide_eq_true c1) ?_; wp_walk using wpAny_loadPart' hl))
    exact ⟨_, rfl, h⟩
theorem mul_none (l : Addr) (items : Array Value) (n : Nat) (dd : Option Addr) (sl : Array (Option Value)) (x : Int) (u : Tok) (c0 : (decide (x < -(2 ^ 63)) || decide (x ≥ 2 ^ 63)) = false) (c1 : (items.isEmpty || x == 1) = false) (c2 : (decide (x ≤ 0) || items.isEmpty) = true) :
    Meets (Builtin.«tuple.__mul__» ⟨[.ref l, .int x u], []⟩) (fun _ R s => s.heap.get? l = some { cls := .type "tuple", dict := dd, data := .seq items n, slots := sl } ∧
      R (.ok (.ret (Value.ref s.heap.objs.size))) { s with heap := s.heap.push { cls := Value.type "tuple", data := Data.seq #[] }, toks := s.toks }) :=
  .of_wp fun prog w A R s h => by
    obtain ⟨hp, g, d, tk, os⟩ := s; obtain ⟨hl, h⟩ := h; have f1 := AutoSeq1.idx_int; wp_walk using wpAny_loadPart' hl
    repeat (first
      | (refine wpAny_ite_false (decide_eq_false (by rw [c0]; exact Bool.false_ne_true)) ?_; wp_walk using wpAny_loadPart' hl)
      | (refine wpAny_ite_false (decide_eq_false (by rw [c1]; exact Bool.false_ne_true)) ?_; wp_walk using wpAny_loadPart' hl)
      | (refine wpAny_ite_true (decide_eq_true c2) ?_; wp_walk using wpAny_loadPart' hl))
    exact ⟨_, rfl, h⟩

def rMulT (K : PySem.W.Frag) : R2 := fun x y H Q => ∃ l k xs, x = .ref l ∧ y = .int k ∧ SqT K H l xs ∧ 0 ≤ k ∧ k ≤ 1000 ∧ xs.length ≤ 1000 ∧
  ((k = 1 ∨ xs = []) → Q (.ref l) H) ∧ (¬ (k = 1 ∨ xs = []) → ∀ p, H p = none → Q (.ref p) (upd H p (.tup (List.replicate k.toNat xs).flatten)))
section
variable {X : Cx}
theorem op_mulT : OpR X (binaryOp .Mult) (rMulT X.K) := by
  intro pins s σ H x y v u Q I rx ry h
  obtain ⟨l, k, xs, rfl, rfl, hT, k0, k1, hz, q1, q2⟩ := h
  by_cases h2 : 2 ≤ k ∧ xs ≠ []
  · exact op_repT pins s σ H _ _ v u Q I rx ry ⟨l, k, xs, rfl, rfl, hT, h2.2, h2.1, k1, hz, q2 (fun e => e.elim (fun e => by omega) h2.2)⟩
  cases rx
  obtain ⟨t, rfl⟩ := ry
  obtain ⟨its, r, ⟨⟨cls, dd, data, sl⟩, ho, hc, n, hd⟩, hs⟩ := I.tuple hT
  simp only at hc hd
  subst hc hd
  have hle : its.length = xs.length := r.length.symm
  have c0 : (decide (k < -(2 ^ 63)) || decide (k ≥ 2 ^ 63)) = false := by rw [decide_eq_false (by omega), decide_eq_false (by omega)] <;> rfl
  have emp : its.toArray.isEmpty = decide (xs = []) := by
    cases its with
    | nil =>
      have : xs = [] := List.eq_nil_of_length_eq_zero hle.symm
      simp [this]
    | cons a b =>
      have : xs ≠ [] := by intro e; rw [e] at hle; simp at hle
      simp [this]
  by_cases hs1 : k = 1 ∨ xs = []
  · have c1 : (its.toArray.isEmpty || k == 1) = true := by
      rw [emp]
      rcases hs1 with e | e <;> simp [e]
    exact wpAny_binaryOp_repeat_ref (T := "tuple") (U := "int") (by decide) ⟨_, ho, rfl⟩ (fun s' => typeIs_int s' k t) noFill_tuple_mul F.fills_int_mul F.slot_int_rmul repeat_tuple F.slot_int_index.lookup
      (call_meets F.slot_int_rmul (typeIs_int s k t) F.entry_int_rmul (F.args_int_rmul_2 _ _) (int_rmul_tuple k t l its.toArray n dd sl)
        ⟨ho, rfl, ⟨_, ho, rfl⟩, call_meets F.slot_tuple_mul ⟨_, ho, rfl⟩ F.entry_tuple_mul (F.args_tuple_mul_2 _ _) (mul_same l its.toArray n dd sl k t c0 c1) ⟨ho, ⟨.ref l, H, I, rfl, q1 hs1⟩⟩⟩)
  · have hk : k = 0 := by
      rcases Decidable.not_and_iff_or_not.mp h2 with e | e
      · have : k ≠ 1 := fun e => hs1 (.inl e)
        omega
      · exact absurd (Decidable.not_not.mp e) fun e => hs1 (.inr e)
    have hx : xs ≠ [] := fun e => hs1 (.inr e)
    have c1 : (its.toArray.isEmpty || k == 1) = false := by rw [emp]; simp [hx, hk]
    have c2 : (decide (k ≤ 0) || its.toArray.isEmpty) = true := by simp [hk]
    refine wpAny_binaryOp_repeat_ref (T := "tuple") (U := "int") (by decide) ⟨_, ho, rfl⟩ (fun s' => typeIs_int s' k t) noFill_tuple_mul F.fills_int_mul F.slot_int_rmul repeat_tuple F.slot_int_index.lookup
      (call_meets F.slot_int_rmul (typeIs_int s k t) F.entry_int_rmul (F.args_int_rmul_2 _ _) (int_rmul_tuple k t l its.toArray n dd sl)
        ⟨ho, rfl, ⟨_, ho, rfl⟩, call_meets F.slot_tuple_mul ⟨_, ho, rfl⟩ F.entry_tuple_mul (F.args_tuple_mul_2 _ _) (mul_none l its.toArray n dd sl k t c0 c1 c2) ⟨ho, ?_⟩⟩)
    have q := q2 hs1
    subst hk
    refine ⟨.ref s.heap.objs.size, _, I.laid (t' := s.toks) (o := .tup (List.replicate (0 : Int).toNat xs).flatten) (fun b ob q => Heap.get?_push_of_some _ q) (Nat.le_refl _) ?_, rfl, q _ (I.hok.fresh (Nat.le_refl _))⟩
    exact ⟨Nat.zero_le _, [], .nil, IsTup.new _ _⟩
end
end Ev

set_option Elab.async false
set_option linter.all false
set_option maxRecDepth 100000
set_option maxHeartbeats 4000000
/-! Ev3c: operators, comparisons, subscripts, slices, methods over pure data. -/
namespace Ev
open PySem PySem.Spec PyProof.Rows L2

/-! ### pure data as the model's data -/
mutual
def toPy : D → PyData
  | .non => .none
  | .bl b => .bool b
  | .int i => .int i
  | .str x => .str x
  | .tup l => .tuple (toPys l)
  | .ref _ => .none
def toPys : List D → List PyData
  | [] => []
  | d :: l => toPy d :: toPys l
end
mutual
theorem toPy_lay : ∀ d : D, D.pure d = true → (toPy d).canLay0 = true
  | .non, _ => rfl
  | .bl _, _ => rfl
  | .int _, _ => rfl
  | .str _, h => by simpa [toPy, PyData.canLay0, D.pure] using h
  | .tup l, h => by simp only [toPy, PyData.canLay0]; exact toPys_lay l (by simpa [D.pure] using h)
  | .ref _, _ => rfl
theorem toPys_lay : ∀ l : List D, D.pureAll l = true → PyData.canLayAll0 (toPys l) = true
  | [], _ => rfl
  | d :: l, h => by
    have h' : D.pure d = true ∧ D.pureAll l = true := by simpa [D.pureAll] using h
    simp only [toPys, PyData.canLayAll0, toPy_lay d h'.1, toPys_lay l h'.2, Bool.and_self]
end
mutual
theorem toPy_depth : ∀ d : D, (toPy d).depth = D.depth d
  | .non => rfl
  | .bl _ => rfl
  | .int _ => rfl
  | .str _ => rfl
  | .tup l => by simp only [toPy, PyData.depth, D.depth]; rw [toPys_depth l]
  | .ref _ => rfl
theorem toPys_depth : ∀ l : List D, PyData.depthAll (toPys l) = D.depthAll l
  | [] => rfl
  | d :: l => by simp only [toPys, PyData.depthAll, D.depthAll]; rw [toPy_depth d, toPys_depth l]
end
mutual
theorem toPy_eqv : ∀ (d e : D), D.pure d = true → D.pure e = true → PyData.eqv (toPy d) (toPy e) = D.eqv d e
  | .ref _, _, h, _ => by simp [D.pure] at h
  | .non, .ref _, _, h => by simp [D.pure] at h
  | .bl _, .ref _, _, h => by simp [D.pure] at h
  | .int _, .ref _, _, h => by simp [D.pure] at h
  | .str _, .ref _, _, h => by simp [D.pure] at h
  | .tup _, .ref _, _, h => by simp [D.pure] at h
  | .non, .non, _, _ | .non, .bl _, _, _ | .non, .int _, _, _ | .non, .str _, _, _ | .non, .tup _, _, _ => by simp [toPy, PyData.eqv, D.eqv]
  | .bl _, .non, _, _ | .bl _, .bl _, _, _ | .bl _, .int _, _, _ | .bl _, .str _, _, _ | .bl _, .tup _, _, _ => by simp [toPy, PyData.eqv, D.eqv]
  | .int _, .non, _, _ | .int _, .bl _, _, _ | .int _, .int _, _, _ | .int _, .str _, _, _ | .int _, .tup _, _, _ => by simp [toPy, PyData.eqv, D.eqv]
  | .str _, .non, _, _ | .str _, .bl _, _, _ | .str _, .int _, _, _ | .str _, .str _, _, _ | .str _, .tup _, _, _ => by simp [toPy, PyData.eqv, D.eqv]
  | .tup _, .non, _, _ | .tup _, .bl _, _, _ | .tup _, .int _, _, _ | .tup _, .str _, _, _ => by simp [toPy, PyData.eqv, D.eqv]
  | .tup l, .tup r, h1, h2 => by
    simp only [toPy, PyData.eqv, D.eqv]
    exact toPys_eqv l r (by simpa [D.pure] using h1) (by simpa [D.pure] using h2)
theorem toPys_eqv : ∀ (l r : List D), D.pureAll l = true → D.pureAll r = true → PyData.eqvAll (toPys l) (toPys r) = D.eqvAll l r
  | [], [], _, _ => by simp [toPys, PyData.eqvAll, D.eqvAll]
  | [], _ :: _, _, _ => by simp [toPys, PyData.eqvAll, D.eqvAll]
  | _ :: _, [], _, _ => by simp [toPys, PyData.eqvAll, D.eqvAll]
  | d :: l, e :: r, h1, h2 => by
    have h1' : D.pure d = true ∧ D.pureAll l = true := by simpa [D.pureAll] using h1
    have h2' : D.pure e = true ∧ D.pureAll r = true := by simpa [D.pureAll] using h2
    simp only [toPys, PyData.eqvAll, D.eqvAll]
    rw [toPy_eqv d e h1'.1 h2'.1, toPys_eqv l r h1'.2 h2'.2]
end
theorem toPy_shaped {d : D} (hp : D.pure d = true) (h : D.depth d ≤ 40) : SeqAt.shaped (toPy d) = true := by
  unfold SeqAt.shaped
  rw [toPy_lay d hp, toPy_depth]
  simp; omega
theorem toPys_shapedL {l : List D} (hp : D.pureAll l = true) (h : D.depthAll l ≤ 40) : SeqAt.shaped (.list (toPys l)) = true := by
  unfold SeqAt.shaped
  simp only [PyData.canLay0, toPys_lay l hp, PyData.depth, toPys_depth]
  simp; omega
theorem any_toPys {x : D} (hx : D.pure x = true) : ∀ l : List D, D.pureAll l = true → ((toPys l).any fun z => PyData.eqv z (toPy x)) = l.any fun z => D.eqv z x
  | [], _ => rfl
  | d :: l, h => by
    have h' : D.pure d = true ∧ D.pureAll l = true := by simpa [D.pureAll] using h
    simp only [toPys, List.any_cons]
    rw [toPy_eqv d x h'.1 hx, any_toPys hx l h'.2]
section
variable {K : PySem.W.Frag} {ms : List Addr} {st : Store} {H : Hp}
mutual
theorem dp_of : ∀ {d : D} {v : V}, D.pure d = true → RepV K ms H d v → Dp K H v (toPy d)
  | .non, v, _, h => by rw [non_rep h]; exact .non
  | .bl b, v, _, h => by rw [bl_rep h]; exact .bl b
  | .int i, v, _, h => by rw [int_rep h]; exact .int i
  | .str x, v, _, h => by rw [str_rep h]; exact .str x
  | .ref _, _, p, _ => by simp [D.pure] at p
  | .tup l, v, p, h => by
    simp only [RepV] at h
    obtain ⟨a, xs, rfl, h2, h3⟩ := h
    exact .tup h2 (dps_of (by simpa [D.pure] using p) h3)
theorem dps_of : ∀ {l : List D} {vs : List V}, D.pureAll l = true → RepA K ms H l vs → DpAll K H vs (toPys l)
  | [], vs, _, h => by
    simp only [RepA] at h
    subst h
    exact .nil
  | d :: l, vs, p, h => by
    simp only [RepA] at h
    obtain ⟨v, vs', rfl, h2, h3⟩ := h
    have h' : D.pure d = true ∧ D.pureAll l = true := by simpa [D.pureAll] using p
    exact .cons (dp_of h'.1 h2) (dps_of h'.2 h3)
end
theorem Rel.sqL (r : Rel K ms st H) {n : Nat} {v : V} {l : List D} (h : RepV K ms H (.ref n) v) (e : seqD st (.ref n) = some l) : ∃ a xs, v = .ref a ∧ SqL K H a xs ∧ RepL K ms H l xs := by
  obtain ⟨a, rfl, hm⟩ := rv_ref h
  have e' : st[n]? = some (MO.lst l) ∨ st[n]? = some (MO.ro l) := by
    simp only [seqD] at e
    split at e
    · rename_i q; cases e; exact .inl q
    · rename_i q; cases e; exact .inr q
    · cases e
  obtain ⟨xs, h1, h2⟩ := r.sq hm e'
  exact ⟨a, xs, rfl, h1, h2⟩
end

/-! ### operators -/
def rBin (K : PySem.W.Frag) (o : Bop) : R2 := fun x y H Q => ∃ (ms : List Addr) (st : Store) (d e : D) (Qp : Post), Rel K ms st H ∧ RepV K ms H d x ∧ RepV K ms H e y ∧ binD o d e st Qp ∧ Gets K ms H Qp Q
def opB : Operator → Option Bop
  | .Add => some .add
  | .Sub => some .sub
  | .Mult => some .mul
  | .FloorDiv => some .fdiv
  | .Mod => some .mod
  | .Pow => some .pow
  | _ => none
set_option exponentiation.threshold 10000 in
theorem log2_9000 {j : Int} (h0 : 0 < j) (h : j < bigI) : j.natAbs.log2 < 9000 := by
  have h : j < 10 ^ 2000 := h
  refine PySem.Flt.log2_lt_of (by decide) ?_
  have e : (j.natAbs : Int) = j := Int.natAbs_of_nonneg (Int.le_of_lt h0)
  have h2 : (10 : Int) ^ 2000 ≤ 2 ^ 9000 := by decide +kernel
  have h3 : (j.natAbs : Int) < ((2 ^ 9000 : Nat) : Int) := by
    rw [e]
    exact Int.lt_of_lt_of_le h (by exact_mod_cast h2)
  exact Int.ofNat_lt.mp h3
section
variable {X : Cx}
theorem op_bin : ∀ {op : Operator} {o : Bop}, opB op = some o → OpR X (binaryOp op) (rBin X.K o) := by
  intro op o ho pins s σ H x y v u Q I rx ry h
  obtain ⟨ms, st, d, e, Qp, R, hd, he, h, g⟩ := h
  have hl : line ≤ sizeLine := lineS
  cases op <;> simp [opB] at ho <;> subst ho
  · -- add
    cases d <;> cases e <;> simp only [binD] at h
    · cases int_rep hd
      cases int_rep he
      exact op_add pins s σ H _ _ v u Q I rx ry ⟨_, _, rfl, rfl, g.here R h rv_int⟩
    · rename_i l r
      obtain ⟨a, xs, rfl, sa, la⟩ := rv_tup' hd
      obtain ⟨b, ys, rfl, sb, lb⟩ := rv_tup' he
      have e1 := la.length
      have e2 := lb.length
      refine op_catA pins s σ H _ _ v u Q I rx ry ⟨a, b, xs, ys, rfl, rfl, sa, sb, by omega, fun z => ?_, fun _ z => ?_, fun _ _ p hp => ?_⟩
      · subst z
        cases la
        exact g.here R h.2 (rv_tup sb lb)
      · subst z
        cases lb
        exact g.here R h.2 (by rw [List.append_nil]; exact rv_tup sa la)
      · exact g.tup R h.2 (pr_append la lb) hp
    · rename_i n m
      cases e1 : st[n]? with
      | none => simp [e1] at h
      | some o1 => cases e2 : st[m]? with
        | none => cases o1 <;> simp [e1, e2] at h
        | some o2 =>
          cases o1 <;> cases o2 <;> simp only [e1, e2] at h
          obtain ⟨a, rfl, ha⟩ := rv_ref hd
          obtain ⟨b, rfl, hb⟩ := rv_ref he
          obtain ⟨xs, h1, h2⟩ := R.lst ha e1
          obtain ⟨ys, h3, h4⟩ := R.lst hb e2
          have q1 := h2.length
          have q2 := h4.length
          exact op_cat pins s σ H _ _ v u Q I rx ry ⟨a, b, xs, ys, rfl, rfl, h1, h3, by omega, fun p hp => g.lst R h.2 (pr_append h2 h4) hp⟩
  · -- sub
    cases d <;> cases e <;> simp only [binD] at h
    cases int_rep hd
    cases int_rep he
    exact op_sub pins s σ H _ _ v u Q I rx ry ⟨_, _, rfl, rfl, g.here R h rv_int⟩
  · -- mul
    cases d <;> cases e <;> simp only [binD] at h
    · cases int_rep hd
      cases int_rep he
      rcases h.1 with hc | hc
      · exact op_mul pins s σ H _ _ v u Q I rx ry ⟨_, _, rfl, rfl, hc, g.here R h.2 rv_int⟩
      · exact op_mulW pins s σ H _ _ v u Q I rx ry ⟨_, _, rfl, rfl, hc, g.here R h.2 rv_int⟩
    · rename_i l j
      cases int_rep he
      obtain ⟨a, xs, rfl, sa, la⟩ := rv_tup' hd
      obtain ⟨hj0, hj, hz, q⟩ := h
      have e1 := la.length
      refine op_mulT pins s σ H _ _ v u Q I rx ry ⟨a, j, xs, rfl, rfl, sa, hj0, hj, by omega, fun z => ?_, fun _ p hp => g.tup R q (pr_rep la _) hp⟩
      have e2 : (List.replicate j.toNat l).flatten = l := by
        rcases z with rfl | rfl
        · simp
        · cases la
          simp
      rw [e2] at q
      exact g.here R q (rv_tup sa la)
    · rename_i n j
      cases int_rep he
      cases e1 : st[n]? with
      | none => simp [e1] at h
      | some o1 =>
        cases o1 <;> simp only [e1] at h
        obtain ⟨a, rfl, ha⟩ := rv_ref hd
        obtain ⟨xs, h1, h2⟩ := R.lst ha e1
        obtain ⟨hj0, hj, hz, q⟩ := h
        have q1 := h2.length
        have hline : (line : Nat) = 1000000 := rfl
        exact op_rep pins s σ H _ _ v u Q I rx ry ⟨a, j, xs, rfl, rfl, h1, by omega, by omega, by rw [← q1]; omega, fun p hp => g.lst R q (pr_rep h2 _) hp⟩
  · -- mod
    cases d <;> cases e <;> simp only [binD] at h
    cases int_rep hd
    cases int_rep he
    exact op_mod pins s σ H _ _ v u Q I rx ry ⟨_, _, rfl, rfl, h.1, g.here R h.2 rv_int⟩
  · -- pow
    cases d <;> cases e <;> simp only [binD] at h
    cases int_rep hd
    cases int_rep he
    exact op_pow pins s σ H _ _ v u Q I rx ry ⟨_, _, rfl, rfl, h.1, g.here R h.2 rv_int⟩
  · -- fdiv
    cases d <;> cases e <;> simp only [binD] at h
    cases int_rep hd
    cases int_rep he
    exact op_fdivW pins s σ H _ _ v u Q I rx ry ⟨_, _, rfl, rfl, ⟨h.1, log2_9000 h.1 h.2.1⟩, g.here R h.2.2 rv_int⟩

/-! ### comparisons -/
def rCmp (K : PySem.W.Frag) (o : Cop) : R2 := fun x y H Q => ∃ (ms : List Addr) (st : Store) (d e : D) (r : Bool), Rel K ms st H ∧ RepV K ms H d x ∧ RepV K ms H e y ∧ cmpD o d e st = some r ∧ Q (.bl r) H
def opC : CmpOp → Option Cop
  | .Eq => some .eq
  | .NotEq => some .ne
  | .Lt => some .lt
  | .LtE => some .le
  | .Gt => some .gt
  | .GtE => some .ge
  | .In => some .isin
  | .NotIn => some .notin
  | _ => none
theorem eqD_dp {K : PySem.W.Frag} {ms : List Addr} {st : Store} {H : Hp} {d e : D} {x y : V} {r : Bool} (R : Rel K ms st H) (hd : RepV K ms H d x) (he : RepV K ms H e y) (h : eqD st d e = some r) :
    ∃ p q, Dp K H x p ∧ Dp K H y q ∧ SeqAt.shaped p = true ∧ SeqAt.shaped q = true ∧ PyData.eqv p q = r := by
  have pure : ∀ {d e : D}, RepV K ms H d x → RepV K ms H e y → (if D.pure d && D.pure e && decide (D.depth d ≤ 40) && decide (D.depth e ≤ 40) then some (D.eqv d e) else none) = some r →
      ∃ p q, Dp K H x p ∧ Dp K H y q ∧ SeqAt.shaped p = true ∧ SeqAt.shaped q = true ∧ PyData.eqv p q = r := by
    intro d e hd he h
    split at h
    · rename_i c
      simp only [Bool.and_eq_true, decide_eq_true_eq] at c
      obtain ⟨⟨⟨c1, c2⟩, c3⟩, c4⟩ := c
      cases h
      exact ⟨toPy d, toPy e, dp_of c1 hd, dp_of c2 he, toPy_shaped c1 c3, toPy_shaped c2 c4, toPy_eqv d e c1 c2⟩
    · cases h
  cases d with
  | ref n =>
    cases e with
    | ref m =>
      simp only [eqD] at h
      cases e1 : st[n]? with
      | none => simp [e1] at h
      | some o1 => cases e2 : st[m]? with
        | none => cases o1 <;> simp [e1, e2] at h
        | some o2 =>
          cases o1 <;> cases o2 <;> simp only [e1, e2] at h
          case lst.lst xs ys =>
            split at h
            · rename_i c
              simp only [Bool.and_eq_true, decide_eq_true_eq] at c
              obtain ⟨⟨⟨c1, c2⟩, c3⟩, c4⟩ := c
              cases h
              obtain ⟨a, rfl, ha⟩ := rv_ref hd
              obtain ⟨b, rfl, hb⟩ := rv_ref he
              obtain ⟨us, h1, h2⟩ := R.lst ha e1
              obtain ⟨ws, h3, h4⟩ := R.lst hb e2
              refine ⟨.list (toPys xs), .list (toPys ys), .lst (SqL.of h1) (dps_of c1 (repA_iff.mpr h2)), .lst (SqL.of h3) (dps_of c2 (repA_iff.mpr h4)), toPys_shapedL c1 c3, toPys_shapedL c2 c4, ?_⟩
              simp only [PyData.eqv]
              exact toPys_eqv xs ys c1 c2
            · cases h
          all_goals cases h
    | _ => simp [eqD] at h
  | _ =>
    cases e with
    | ref m => simp [eqD] at h
    | _ => exact pure hd he (by simpa only [eqD] using h)
theorem op_cmp (hu : X.A.units + 65 < cLine) : ∀ {op : CmpOp} {o : Cop}, opC op = some o → OpR X (compareOp op) (rCmp X.K o) := by
  intro op o ho pins s σ H x y v u Q I rx ry h
  obtain ⟨ms, st, d, e, r, R, hd, he, h, g⟩ := h
  have num : ∀ {o : Cop} {r2 : R2} {op : CmpOp}, (∀ i j : Int, cmpI o i j = some r → r2 (.int i) (.int j) H Q) → (∀ d e, cmpD o d e st = (match d, e with | .int i, .int j => cmpI o i j | _, _ => none)) → cmpD o d e st = some r → OpR X (compareOp op) r2 →
      wpAny (model X.prog X.w) X.A (compareOp op v u) (EP X pins σ Q) X.xe s := by
    intro o r2 op hr hc h ho
    rw [hc] at h
    cases d <;> cases e <;> simp only [] at h <;> first | cases h | skip
    cases int_rep hd
    cases int_rep he
    exact ho pins s σ H _ _ v u Q I rx ry (hr _ _ h)
  have isin : ∀ {r : Bool}, inD st d e = some r → ∃ p qs, Dp X.K H x p ∧ (Dp X.K H y (.list qs) ∨ Dp X.K H y (.tuple qs)) ∧ SeqAt.shaped p = true ∧ SeqAt.shaped (.list qs) = true ∧ (qs.any fun z => PyData.eqv z p) = r := by
    intro r h
    simp only [inD] at h
    split at h
    · rename_i l hl
      split at h
      · rename_i c
        simp only [Bool.and_eq_true, decide_eq_true_eq] at c
        obtain ⟨⟨⟨c1, c2⟩, c3⟩, c4⟩ := c
        cases h
        refine ⟨toPy d, toPys l, dp_of c1 hd, ?_, toPy_shaped c1 c3, toPys_shapedL c2 c4, any_toPys c1 l c2⟩
        obtain ⟨a, xs, rfl, rl, sq⟩ := seq_of R he hl
        rcases sq with sq | sq
        · exact .inl (.lst sq (dps_of c2 (repA_iff.mpr rl)))
        · exact .inr (.tup sq (dps_of c2 (repA_iff.mpr rl)))
      · cases h
    · cases h
  have shT : ∀ {qs : List PyData}, SeqAt.shaped (.list qs) = true → PyData.canLayAll0 qs = true := fun h => by
    have := SeqAt.canLay_of_shaped h
    simpa [PyData.canLay0] using this
  have room : ∀ {p : PyData}, SeqAt.shaped p = true → X.A.units + 1 + p.depth < cLine := fun h => by
    have := SeqAt.depth_of_shaped h
    omega
  cases op <;> simp [opC] at ho <;> subst ho
  · obtain ⟨p, q, d1, d2, s1, s2, e⟩ := eqD_dp R hd he h
    subst e
    exact op_eqD (by omega) pins s σ H _ _ v u Q I rx ry ⟨p, q, d1, d2, s1, s2, g⟩
  · simp only [cmpD, Option.map_eq_some_iff] at h
    obtain ⟨r', h, e'⟩ := h
    obtain ⟨p, q, d1, d2, s1, s2, e⟩ := eqD_dp R hd he h
    subst e e'
    exact op_neD (by omega) pins s σ H _ _ v u Q I rx ry ⟨p, q, d1, d2, s1, s2, g⟩
  · refine num (fun i j e => ?_) (fun d e => by cases d <;> cases e <;> rfl) h op_lt
    simp only [cmpI, Option.some.injEq] at e
    subst e
    exact ⟨i, j, rfl, rfl, g⟩
  · refine num (fun i j e => ?_) (fun d e => by cases d <;> cases e <;> rfl) h op_le
    simp only [cmpI, Option.some.injEq] at e
    subst e
    exact ⟨i, j, rfl, rfl, g⟩
  · refine num (fun i j e => ?_) (fun d e => by cases d <;> cases e <;> rfl) h op_gt
    simp only [cmpI, Option.some.injEq] at e
    subst e
    exact ⟨i, j, rfl, rfl, g⟩
  · refine num (fun i j e => ?_) (fun d e => by cases d <;> cases e <;> rfl) h op_ge
    simp only [cmpI, Option.some.injEq] at e
    subst e
    exact ⟨i, j, rfl, rfl, g⟩
  · obtain ⟨p, qs, d1, d2, s1, s2, e⟩ := isin h
    subst e
    obtain ⟨as, r1⟩ := Dp.reads I p x v d1 rx
    rcases d2 with d2 | d2
    · obtain ⟨bs, r2⟩ := Dp.reads I (.list qs) y u d2 ry
      exact SeqAt.in_list_reads r2 r1 (shT s2) (SeqAt.canLay_of_shaped s1) (room_in_shaped s1 hu) ⟨.bl _, H, I, rfl, g⟩
    · obtain ⟨bs, r2⟩ := Dp.reads I (.tuple qs) y u d2 ry
      exact SeqAt.in_tuple_reads r2 r1 (shT s2) (SeqAt.canLay_of_shaped s1) (room_in_shaped s1 hu) ⟨.bl _, H, I, rfl, g⟩
  · simp only [cmpD, Option.map_eq_some_iff] at h
    obtain ⟨r', h, e'⟩ := h
    obtain ⟨p, qs, d1, d2, s1, s2, e⟩ := isin h
    subst e e'
    obtain ⟨as, r1⟩ := Dp.reads I p x v d1 rx
    rcases d2 with d2 | d2
    · obtain ⟨bs, r2⟩ := Dp.reads I (.list qs) y u d2 ry
      exact SeqAt.notIn_list_reads r2 r1 (shT s2) (SeqAt.canLay_of_shaped s1) (room_in_shaped s1 hu) ⟨.bl _, H, I, rfl, g⟩
    · obtain ⟨bs, r2⟩ := Dp.reads I (.tuple qs) y u d2 ry
      exact SeqAt.notIn_tuple_reads r2 r1 (shT s2) (SeqAt.canLay_of_shaped s1) (room_in_shaped s1 hu) ⟨.bl _, H, I, rfl, g⟩
end
end Ev

set_option Elab.async false
set_option linter.all false
set_option maxRecDepth 100000
set_option maxHeartbeats 4000000
/-! Ev3d: subscripts, slices, methods over pure data. -/
namespace Ev
open PySem PySem.Spec PyProof.Rows L2

theorem atI_rep {α β : Type} {F : α → β → Prop} {l : List α} {r : List β} (h : Paired F l r) {i : Int} {a : α} (e : atI l i = some a) : ∃ b, atI r i = some b ∧ F a b := by
  unfold atI at e ⊢
  rw [← h.length]
  cases hx : ixN l.length i with
  | none => rw [hx] at e; cases e
  | some j =>
    rw [hx] at e
    exact pr_get h (by simpa using e)
def rIxD (K : PySem.W.Frag) : R2 := fun x y H Q => ∃ (ms : List Addr) (st : Store) (d e f : D), Rel K ms st H ∧ RepV K ms H d x ∧ RepV K ms H e y ∧ ixD d e st = some f ∧ ∀ v, RepV K ms H f v → Q v H
section
variable {X : Cx}
theorem ix_D : IxR X (rIxD X.K) := by
  intro value slice pins s σ H x y v u Q I rx ry h hs
  obtain ⟨ms, st, d, e, f, R, hd, he, h, g⟩ := h
  cases e <;> simp only [ixD] at h <;> first | cases h | skip
  rename_i i
  cases int_rep he
  simp only [Option.bind_eq_some_iff] at h
  obtain ⟨l, h1, h2⟩ := h
  obtain ⟨a, xs, rfl, rl, sq⟩ := seq_of R hd h1
  obtain ⟨w, hw, rw'⟩ := atI_rep rl h2
  refine ix_seq value slice pins s σ H _ _ v u Q I rx ry ?_ hs
  rcases sq with sq | sq
  · exact .inl ⟨a, xs, i, w, rfl, rfl, sq, hw, g w rw'⟩
  · exact .inr (.inl ⟨a, xs, i, w, rfl, rfl, sq, hw, g w rw'⟩)
theorem cut_rep {K : PySem.W.Frag} {ms : List Addr} {H : Hp} {l : List D} {xs : List V} (h : RepL K ms H l xs) (lo hi : Option Int) : RepL K ms H (cutD l lo hi) (cutV xs lo hi) := by
  unfold cutD cutV
  rw [h.length]
  exact pr_take _ (pr_drop _ h)
theorem cut_whole {l : List D} {lo hi : Option Int} (h : HT.sIx l.length 0 lo = 0 ∧ HT.sIx l.length l.length hi = l.length) : cutD l lo hi = l := by
  unfold cutD
  rw [h.1, h.2]
  simp
def rSlD (K : PySem.W.Frag) : V → Option Int → Option Int → Hp → VK → Prop := fun x lo hi H Q => ∃ (ms : List Addr) (st : Store) (d : D) (Qp : Post), Rel K ms st H ∧ RepV K ms H d x ∧ slD d lo hi st Qp ∧ Gets K ms H Qp Q
theorem sl_D : SlR X (rSlD X.K) := by
  intro pins s σ H x v vl vu lo hi sl Q I rx hs pl pu h
  obtain ⟨ms, st, d, Qp, R, hd, h, g⟩ := h
  cases d <;> simp only [slD] at h
  case tup l =>
    obtain ⟨a, xs, rfl, sq, rl⟩ := rv_tup' hd
    have hlen := rl.length
    refine sl_tupA pins s σ H _ v vl vu lo hi sl Q I rx hs pl pu ⟨a, xs, rfl, sq, fun hw => ?_, fun _ p hp => g.tup R h (cut_rep rl lo hi) hp⟩
    rw [cut_whole (by rw [hlen]; exact hw)] at h
    exact g.here R h (rv_tup sq rl)
  case ref n =>
    obtain ⟨a, rfl, ha⟩ := rv_ref hd
    cases e : st[n]? with
    | none => simp [e] at h
    | some o =>
      cases o <;> simp only [e] at h
      · obtain ⟨xs, h1, h2⟩ := R.sq ha (.inl e)
        exact sl_list pins s σ H _ v vl vu lo hi sl Q I rx hs pl pu ⟨a, xs, rfl, h1, fun p hp => g.lst R h (cut_rep h2 lo hi) hp⟩
      · obtain ⟨xs, h1, h2⟩ := R.sq ha (.inr e)
        exact sl_list pins s σ H _ v vl vu lo hi sl Q I rx hs pl pu ⟨a, xs, rfl, h1, fun p hp => g.lst R h (cut_rep h2 lo hi) hp⟩
/-! ### methods of lists -/
def rMth (K : PySem.W.Frag) (m : Mth) : V → List V → Hp → VK → Prop := fun x vs H Q => ∃ (ms : List Addr) (st : Store) (d : D) (ds : List D) (Qp : Post), Rel K ms st H ∧ RepV K ms H d x ∧ RepL K ms H ds vs ∧ methD m d ds st Qp ∧ Gets K ms H Qp Q
theorem meth_lst {K : PySem.W.Frag} {ms : List Addr} {st : Store} {H : Hp} {m : Mth} {d : D} {ds : List D} {x : V} {Qp : Post} (R : Rel K ms st H) (hd : RepV K ms H d x) (h : methD m d ds st Qp) :
    ∃ n a l xs, d = .ref n ∧ x = .ref a ∧ ms[n]? = some a ∧ st[n]? = some (MO.lst l) ∧ H a = some (.lst xs) ∧ RepL K ms H l xs := by
  cases d <;> simp only [methD] at h
  rename_i n
  obtain ⟨a, rfl, ha⟩ := rv_ref hd
  cases e : st[n]? with
  | none => simp [e] at h
  | some o =>
    cases o <;> simp only [e] at h
    rename_i l
    obtain ⟨xs, h1, h2⟩ := R.lst ha e
    exact ⟨n, a, l, xs, rfl, rfl, ha, e, h1, h2⟩
theorem mt_appendD : MtM X "list.append" (rMth X.K .append) := by
  intro pins s σ H x xs v us Q I rx rxs h
  obtain ⟨ms, st, d, ds, Qp, R, hd, hds, h, g⟩ := h
  obtain ⟨n, a, l, ys, rfl, rfl, ha, e, h1, h2⟩ := meth_lst R hd h
  have hl : line ≤ sizeLine := lineS
  simp only [methD, e] at h
  match ds, h with
  | [b], h =>
    obtain ⟨w, rfl, rw'⟩ := one_rep hds
    have q := h2.length
    exact mt_append pins s σ H _ _ v us Q I rx rxs ⟨a, ys, w, rfl, rfl, h1, by omega, g.set R ha e h1 h.2 (Paired.snoc h2 rw') rv_non⟩
theorem mt_popD : MtM X "list.pop" (rMth X.K .pop) := by
  intro pins s σ H x xs v us Q I rx rxs h
  obtain ⟨ms, st, d, ds, Qp, R, hd, hds, h, g⟩ := h
  obtain ⟨n, a, l, ys, rfl, rfl, ha, e, h1, h2⟩ := meth_lst R hd h
  simp only [methD, e] at h
  match ds, h with
  | [], h =>
    obtain ⟨b, hb, q⟩ := h
    cases hds
    obtain ⟨w, hw, rw'⟩ := pr_get h2 hb
    rw [h2.length] at hw
    exact mt_pop pins s σ H _ _ v us Q I rx rxs ⟨a, ys, w, rfl, rfl, h1, hw, g.set R ha e h1 q (pr_dropLast h2) rw'⟩
theorem mt_popatD : MtM X "list.pop" (rMth X.K .popat) := by
  intro pins s σ H x xs v us Q I rx rxs h
  obtain ⟨ms, st, d, ds, Qp, R, hd, hds, h, g⟩ := h
  obtain ⟨n, a, l, ys, rfl, rfl, ha, e, h1, h2⟩ := meth_lst R hd h
  simp only [methD, e] at h
  match ds, h with
  | [.int i], h =>
    obtain ⟨b, hi0, hi1, hb, q⟩ := h
    obtain ⟨w0, rfl, rw0⟩ := one_rep hds
    cases int_rep rw0
    obtain ⟨w, hw, rw'⟩ := pr_get h2 hb
    have hlt : i.toNat < ys.length := (List.getElem?_eq_some_iff.mp hw).1
    have hline : (line : Nat) = 1000000 := rfl
    have hix : seqIndex? i ys.length = some i.toNat := by
      have := (ixN_seq (n := ys.length) (i := i) (j := i.toNat) (by unfold ixN; rw [if_pos hi0, if_pos (by omega)])).1
      exact this
    exact mt_popAt pins s σ H _ _ v us Q I rx rxs ⟨a, ys, i, i.toNat, w, rfl, rfl, h1, by omega, by omega, hix, hw, g.set R ha e h1 q (pr_erase _ h2) rw'⟩
theorem mt_extendD : MtM X "list.extend" (rMth X.K .extend) := by
  intro pins s σ H x xs v us Q I rx rxs h
  obtain ⟨ms, st, d, ds, Qp, R, hd, hds, h, g⟩ := h
  obtain ⟨n, a, l, ys, rfl, rfl, ha, e, h1, h2⟩ := meth_lst R hd h
  have hl : line ≤ sizeLine := lineS
  simp only [methD, e] at h
  match ds, h with
  | [.ref b], h =>
    obtain ⟨hne, r, e2, hz, q⟩ := h
    obtain ⟨w, rfl, rw'⟩ := one_rep hds
    obtain ⟨c, rfl, hc⟩ := rv_ref rw'
    obtain ⟨zs, h3, h4⟩ := R.lst hc e2
    have q1 := h2.length
    have q2 := h4.length
    exact mt_extend pins s σ H _ _ v us Q I rx rxs ⟨a, c, ys, zs, rfl, rfl, h1, h3, by omega, g.set R ha e h1 q (pr_append h2 h4) rv_non⟩
/-- o[i] = v -/
def rSetD (K : PySem.W.Frag) : V → V → V → Hp → (Hp → Prop) → Prop := fun o i v H Q => ∃ (ms : List Addr) (st : Store) (n : Nat) (l : List D) (z : Int) (d : D), Rel K ms st H ∧ RepV K ms H (.ref n) o ∧ i = .int z ∧ RepV K ms H d v ∧ st[n]? = some (MO.lst l) ∧ 0 ≤ z ∧ z < l.length ∧
  ∀ H', Keep H H' → Rel K ms (st.set n (.lst (l.set z.toNat d))) H' → Q H'
theorem set_D : PSet X (rSetD X.K) := by
  intro pins s σ H o i v ov iv u Q I ro ri rv h
  obtain ⟨ms, st, n, l, z, d, R, ho, rfl, hd, e, h0, h1, q⟩ := h
  obtain ⟨a, rfl, ha⟩ := rv_ref ho
  obtain ⟨xs, h2, h3⟩ := R.lst ha e
  have hlen := h3.length
  refine set_list pins s σ H _ _ v ov iv u Q I ro ri rv ⟨a, xs, z, z.toNat, rfl, rfl, h2, by unfold ixN; rw [if_pos h0, if_pos (by omega)], ?_⟩
  exact q _ (Keep.lst h2) (R.set ha e h2 (pr_set hd _ h3))
end
end Ev

set_option Elab.async false
set_option linter.all false
set_option maxRecDepth 100000
set_option maxHeartbeats 4000000
/-! Ev4: a program's expression does what the small language says: the parts. -/
namespace Ev
open PySem PySem.Spec PyProof.Rows L2

/-! ### readings -/
def GetsX (K : PySem.W.Frag) (ms : List Addr) (H : Hp) (W : WX) (xa : Exc → Addr) (σ : L2.St) (Ex : XPost) : Prop :=
  ∀ (x : Exc) (st' : Store) (ms' : List Addr) (H' : Hp), Ex x st' → ms <+: ms' → Keep H H' → Rel K ms' st' H' → W (.ref (xa x)) none σ H'
def RE (K : PySem.W.Frag) (W : WX) (xa : Exc → Addr) (e : E) : TE := fun σ H Q => ∃ (ms : List Addr) (st : Store) (env : Env') (Qp : Post) (Ex : XPost),
  Rel K ms st H ∧ RelE K ms H env σ ∧ wpE e env st Qp Ex ∧ Gets K ms H Qp Q ∧ GetsX K ms H W xa σ Ex
def GetsT (K : PySem.W.Frag) (ms : List Addr) (H : Hp) (Qp : Post) (Q : Bool → Hp → Prop) : Prop :=
  ∀ (d : D) (st' : Store) (ms' : List Addr) (H' : Hp), Qp d st' → ms <+: ms' → Keep H H' → Rel K ms' st' H' → (∃ v, RepV K ms' H' d v) → ∃ r, truthD st' d = some r ∧ Q r H'
def RT (K : PySem.W.Frag) (W : WX) (xa : Exc → Addr) (e : E) : TT := fun σ H Q => ∃ (ms : List Addr) (st : Store) (env : Env') (Qp : Post) (Ex : XPost),
  Rel K ms st H ∧ RelE K ms H env σ ∧ wpE e env st Qp Ex ∧ GetsT K ms H Qp Q ∧ GetsX K ms H W xa σ Ex
def GetsA (K : PySem.W.Frag) (ms : List Addr) (H : Hp) (n : Nat) (Qp : List D → Store → Prop) (Q : List V → Hp → Prop) : Prop :=
  ∀ (ds : List D) (st' : Store) (ms' : List Addr) (vs : List V) (H' : Hp), ds.length = n → Qp ds st' → ms <+: ms' → Keep H H' → Rel K ms' st' H' → RepL K ms' H' ds vs → Q vs H'
def RA (K : PySem.W.Frag) (W : WX) (xa : Exc → Addr) (es : List E) : TA := fun σ H Q => ∃ (ms : List Addr) (st : Store) (env : Env') (Qp : List D → Store → Prop) (Ex : XPost),
  Rel K ms st H ∧ RelE K ms H env σ ∧ wpEs es env st Qp Ex ∧ GetsA K ms H es.length Qp Q ∧ GetsX K ms H W xa σ Ex
structure Snd (X : Cx) (W : WX) (xa : Exc → Addr) (e : E) (x : Expr) : Prop where
  pe : PE X x (RE X.K W xa e)
  pt : PT X x (RT X.K W xa e)

section
variable {X : Cx} {W : WX} {xa : Exc → Addr} {K : PySem.W.Frag}
theorem _root_.L2.PE.weak {e : Expr} {t t' : TE} (h : PE X e t) (hw : ∀ σ H Q, t' σ H Q → t σ H Q) : PE X e t' := ⟨fun pins s σ H Q I q => h.run pins s σ H Q I (hw _ _ _ q)⟩
theorem _root_.L2.PT.weak {e : Expr} {t t' : TT} (h : PT X e t) (hw : ∀ σ H Q, t' σ H Q → t σ H Q) : PT X e t' := ⟨fun pins s σ H Q I q => h.run pins s σ H Q I (hw _ _ _ q)⟩
theorem _root_.L2.PA.weak {e : List Expr} {t t' : TA} (h : PA X e t) (hw : ∀ σ H Q, t' σ H Q → t σ H Q) : PA X e t' := ⟨fun pos pins s σ H Q I q => h.run pos pins s σ H Q I (hw _ _ _ q)⟩
theorem GetsX.go {ms ms1 : List Addr} {H H1 : Hp} {σ : L2.St} {Ex : XPost} (g : GetsX K ms H W xa σ Ex) (e : ms <+: ms1) (k : Keep H H1) : GetsX K ms1 H1 W xa σ Ex :=
  fun x st' ms' H' q e' k' r => g x st' ms' H' q (e.trans e') (k.trans k') r
theorem Gets.go {ms ms1 : List Addr} {H H1 : Hp} {Qp : Post} {Q : VK} (g : Gets K ms H Qp Q) (e : ms <+: ms1) (k : Keep H H1) : Gets K ms1 H1 Qp Q :=
  fun d st' ms' v H' q e' k' r h => g d st' ms' v H' q (e.trans e') (k.trans k') r h
theorem GetsT.go {ms ms1 : List Addr} {H H1 : Hp} {Qp : Post} {Q : Bool → Hp → Prop} (g : GetsT K ms H Qp Q) (e : ms <+: ms1) (k : Keep H H1) : GetsT K ms1 H1 Qp Q :=
  fun d st' ms' H' q e' k' r h => g d st' ms' H' q (e.trans e') (k.trans k') r h
theorem truV_of {ms : List Addr} {st : Store} {H : Hp} {d : D} {v : V} {r : Bool} (R : Rel K ms st H) (h : RepV K ms H d v) (e : truthD st d = some r) : TruV K v H r := by
  cases d with
  | non => rw [non_rep h]; simp only [truthD, Option.some.injEq] at e; exact e.symm
  | bl b => rw [bl_rep h]; simp only [truthD, Option.some.injEq] at e; exact e.symm
  | int i => rw [int_rep h]; simp only [truthD, Option.some.injEq] at e; exact e.symm
  | str x => simp [truthD] at e
  | tup l =>
    obtain ⟨a, xs, rfl, sq, rl⟩ := rv_tup' h
    simp only [truthD, Option.some.injEq] at e
    refine .inr (.inl ⟨xs, sq, ?_⟩)
    rw [← e]
    cases rl <;> rfl
  | ref n =>
    obtain ⟨a, rfl, ha⟩ := rv_ref h
    have go : ∀ {l : List D}, (st[n]? = some (MO.lst l) ∨ st[n]? = some (MO.ro l)) → r = !l.isEmpty → TruV K (.ref a) H r := fun hs hr => by
      obtain ⟨xs, h1, h2⟩ := R.sq ha hs
      refine .inl ⟨xs, h1, ?_⟩
      rw [hr]
      cases h2 <;> rfl
    cases hs : st[n]? with
    | none => simp [truthD, hs] at e
    | some o =>
      cases o <;> simp only [truthD, hs, Option.some.injEq] at e
      · exact go (.inl hs) e.symm
      · exact go (.inr hs) e.symm
/-- a test is its value's truth -/
theorem pt_of {e : E} {x : Expr} (h : PE X x (RE X.K W xa e)) (he : ∀ whole, isTrue x X.env whole = (do let v ← whole; standAt x.pos; holding [v] (truthy v))) : PT X x (RT X.K W xa e) := by
  refine (pt_truth h he).weak fun σ H Q q => ?_
  obtain ⟨ms, st, env, Qp, Ex, R, RE', w, g, gx⟩ := q
  refine ⟨ms, st, env, Qp, Ex, R, RE', w, fun d st' ms' v H' q e k R' hv => ?_, gx⟩
  obtain ⟨r, hr, hq⟩ := g d st' ms' H' q e k R' ⟨v, hv⟩
  exact ⟨r, truV_of R' hv hr, hq⟩
theorem Snd.of {e : E} {x : Expr} (h : PE X x (RE X.K W xa e)) (he : ∀ whole, isTrue x X.env whole = (do let v ← whole; standAt x.pos; holding [v] (truthy v))) : Snd X W xa e x := ⟨h, pt_of h he⟩

/-! ### names and constants -/
theorem snd_var {i : Nat} {x : Str} {pos : Pos} (hN : X.N[i]? = some x) (hv : Vis X.env.scope x) (hd : (x == ("__debug__" : Str)) = false) (hc : (x == ("__classdict__" : Str)) = false) : Snd X W xa (.var i) (.Name x pos) :=
  .of ((pe_var hN hv hd hc).weak fun σ H Q q => by
    obtain ⟨ms, st, env, Qp, Ex, R, RE', w, g, gx⟩ := q
    simp only [wpE] at w
    obtain ⟨d, h1, h2⟩ := w
    obtain ⟨v, h3, h4⟩ := RE'.2 i d h1
    exact ⟨v, h3, g.here R h2 h4⟩) fun _ => rfl
theorem snd_const {d : D} {c : Const} {j : Nat} {pos : Pos} {v : V} (h : PE X (.Constant c j pos) (tC v)) (hv : ∀ ms H, RepV X.K ms H d v) : Snd X W xa (.k d) (.Constant c j pos) :=
  .of (h.weak fun σ H Q q => by
    obtain ⟨ms, st, env, Qp, Ex, R, RE', w, g, gx⟩ := q
    simp only [wpE] at w
    exact g.here R w (hv _ _)) fun _ => rfl
theorem snd_glob {i : Int} {x : Str} {pos : Pos} {t : Tok} (hg : Gl X x) (hm : X.mg x = some (.int i t)) (hd : (x == ("__debug__" : Str)) = false) : Snd X W xa (.glob x i) (.Name x pos) :=
  .of ((pe_glob (v := .int i) hg hm ⟨t, rfl⟩ hd).weak fun σ H Q q => by
    obtain ⟨ms, st, env, Qp, Ex, R, RE', w, g, gx⟩ := q
    simp only [wpE] at w
    exact g.here R w rv_int) fun _ => rfl

/-! ### operators -/
variable {e a b c : E} {x y z : Expr} {pos : Pos}
theorem snd_bin {op : Operator} {o : Bop} (ho : opB op = some o) (ha : Snd X W xa a x) (hb : Snd X W xa b y) : Snd X W xa (.bin o a b) (.BinOp x op y pos) :=
  .of ((pe_op (op_bin ho) ha.pe hb.pe).weak fun σ H Q q => by
    obtain ⟨ms, st, env, Qp, Ex, R, RE', w, g, gx⟩ := q
    simp only [wpE] at w
    refine ⟨ms, st, env, _, Ex, R, RE', w, fun d st1 ms1 v H1 q1 e1 k1 R1 hd => ?_, gx⟩
    refine ⟨ms1, st1, env, _, Ex, R1, RE'.keep e1 k1, q1, fun f st2 ms2 u H2 q2 e2 k2 R2 hf => ?_, gx.go e1 k1⟩
    exact ⟨ms2, st2, d, f, Qp, R2, hd.keep e2 k2, hf, q2, g.go (e1.trans e2) (k1.trans k2)⟩) fun _ => rfl
theorem snd_cmp {op : CmpOp} {o : Cop} (hu : X.A.units + 65 < cLine) (ho : opC op = some o) (hm : behindInMarks op y = false) (ha : Snd X W xa a x) (hb : Snd X W xa b y) : Snd X W xa (.cmp o a b) (.Compare x [op] [y] pos) where
  pe := (pe_cmpR (op_cmp hu ho) ha.pe hb.pe hm).weak fun σ H Q q => by
    obtain ⟨ms, st, env, Qp, Ex, R, RE', w, g, gx⟩ := q
    simp only [wpE] at w
    refine ⟨ms, st, env, _, Ex, R, RE', w, fun d st1 ms1 v H1 q1 e1 k1 R1 hd => ?_, gx⟩
    refine ⟨ms1, st1, env, _, Ex, R1, RE'.keep e1 k1, q1, fun f st2 ms2 u H2 q2 e2 k2 R2 hf => ?_, gx.go e1 k1⟩
    obtain ⟨r, hr, q3⟩ := q2
    exact ⟨ms2, st2, d, f, r, R2, hd.keep e2 k2, hf, hr, (g.go (e1.trans e2) (k1.trans k2)).here R2 q3 rv_bl⟩
  pt := (pt_cmpR (op_cmp hu ho) ha.pe hb.pe hm).weak fun σ H Q q => by
    obtain ⟨ms, st, env, Qp, Ex, R, RE', w, g, gx⟩ := q
    simp only [wpE] at w
    refine ⟨ms, st, env, _, Ex, R, RE', w, fun d st1 ms1 v H1 q1 e1 k1 R1 hd => ?_, gx⟩
    refine ⟨ms1, st1, env, _, Ex, R1, RE'.keep e1 k1, q1, fun f st2 ms2 u H2 q2 e2 k2 R2 hf => ?_, gx.go e1 k1⟩
    obtain ⟨r, hr, q3⟩ := q2
    refine ⟨ms2, st2, d, f, r, R2, hd.keep e2 k2, hf, hr, r, rfl, ?_⟩
    obtain ⟨r', hr', q4⟩ := (g.go (e1.trans e2) (k1.trans k2)) _ _ ms2 H2 q3 (List.prefix_refl _) (Keep.refl _) R2 ⟨_, rv_bl⟩
    simp only [truthD, Option.some.injEq] at hr'
    subst hr'
    exact q4
theorem chain_read {op op' : CmpOp} {o p : Cop} {σ : L2.St} {H : Hp} {Q : VK} {ms : List Addr} {st : Store} {env : Env'} {Qp : Post} {Ex : XPost} (R : Rel X.K ms st H) (RE' : RelE X.K ms H env σ) (w : wpE (.chain o p a b c) env st Qp Ex) (g : ∀ (r : Bool) (st' : Store) (ms' : List Addr) (H' : Hp), Qp (.bl r) st' → ms <+: ms' → Keep H H' → Rel X.K ms' st' H' → Q (.bl r) H') (gx : GetsX X.K ms H W xa σ Ex) :
    tChain (rCmp X.K o) (rCmp X.K p) (RE X.K W xa a) (RE X.K W xa b) (RE X.K W xa c) σ H Q := by
  simp only [wpE] at w
  refine ⟨ms, st, env, _, Ex, R, RE', w, fun d st1 ms1 v H1 q1 e1 k1 R1 hd => ?_, gx⟩
  refine ⟨ms1, st1, env, _, Ex, R1, RE'.keep e1 k1, q1, fun f st2 ms2 u H2 q2 e2 k2 R2 hf => ?_, gx.go e1 k1⟩
  obtain ⟨r, hr, q3, q4⟩ := q2
  refine ⟨ms2, st2, d, f, r, R2, hd.keep e2 k2, hf, hr, r, rfl, ?_⟩
  cases r with
  | false => exact iteF (g false st2 ms2 H2 (q4 rfl) (e1.trans e2) (k1.trans k2) R2)
  | true =>
    refine iteT ⟨ms2, st2, env, _, Ex, R2, RE'.keep (e1.trans e2) (k1.trans k2), q3 rfl, fun h st3 ms3 t H3 q5 e3 k3 R3 hh => ?_, gx.go (e1.trans e2) (k1.trans k2)⟩
    obtain ⟨r', hr', q6⟩ := q5
    exact ⟨ms3, st3, f, h, r', R3, hf.keep e3 k3, hh, hr', g r' st3 ms3 H3 q6 ((e1.trans e2).trans e3) ((k1.trans k2).trans k3) R3⟩
theorem snd_chain {op op' : CmpOp} {o p : Cop} (hu : X.A.units + 65 < cLine) (ho : opC op = some o) (hp : opC op' = some p) (hm : lastMarks [op, op'] [y, z] = false) (ha : Snd X W xa a x) (hb : Snd X W xa b y) (hc : Snd X W xa c z) : Snd X W xa (.chain o p a b c) (.Compare x [op, op'] [y, z] pos) where
  pe := (pe_chain (op_cmp hu ho) (op_cmp hu hp) ha.pe hb.pe hc.pe hm).weak fun σ H Q q => by
    obtain ⟨ms, st, env, Qp, Ex, R, RE', w, g, gx⟩ := q
    exact chain_read (op := op) (op' := op') R RE' w (fun r st1 ms1 H1 q1 e1 k1 R1 => g _ _ _ _ _ q1 e1 k1 R1 rv_bl) gx
  pt := (pt_chain (op_cmp hu ho) (op_cmp hu hp) ha.pe hb.pe hc.pe hm).weak fun σ H Q q => by
    obtain ⟨ms, st, env, Qp, Ex, R, RE', w, g, gx⟩ := q
    refine chain_read (op := op) (op' := op') R RE' w (fun r st1 ms1 H1 q1 e1 k1 R1 => ?_) gx
    obtain ⟨r', hr', q4⟩ := g _ _ ms1 H1 q1 e1 k1 R1 ⟨_, rv_bl⟩
    simp only [truthD, Option.some.injEq] at hr'
    subst hr'
    exact ⟨r, rfl, q4⟩
end
end Ev

set_option Elab.async false
set_option linter.all false
set_option maxRecDepth 100000
set_option maxHeartbeats 4000000
/-! Ev4b: more expressions. -/
namespace Ev
open PySem PySem.Spec PyProof.Rows L2
section
variable {X : Cx} {W : WX} {xa : Exc → Addr} {e a b c : E} {x y z : Expr} {pos : Pos}

theorem non_iff {K : PySem.W.Frag} {ms : List Addr} {H : Hp} {d : D} {v : V} (hd : RepV K ms H d v) : decide (v = V.non) = isNonD d := by
  cases d <;> simp only [RepV] at hd
  case tup => obtain ⟨_, _, rfl, _⟩ := hd; rfl
  case ref => obtain ⟨_, rfl, _⟩ := hd; rfl
  all_goals (subst hd; rfl)
theorem snd_isN {j : Nat} {p : Pos} (ha : Snd X W xa a x) : Snd X W xa (.isN a) (.Compare x [.Is] [.Constant .none j p] pos) where
  pe := (pe_cmp (pc_isN ha.pe)).weak fun σ H Q q => by
    obtain ⟨ms, st, env, Qp, Ex, R, RE', w, g, gx⟩ := q
    simp only [wpE] at w
    refine ⟨ms, st, env, _, Ex, R, RE', w, fun d st1 ms1 v H1 q1 e1 k1 R1 hd => ?_, gx⟩
    show Q (.bl (decide (v = V.non))) H1
    rw [non_iff hd]
    exact (g.go e1 k1).here R1 q1 rv_bl
  pt := (pt_cmp (pc_isN ha.pe)).weak fun σ H Q q => by
    obtain ⟨ms, st, env, Qp, Ex, R, RE', w, g, gx⟩ := q
    simp only [wpE] at w
    refine ⟨ms, st, env, _, Ex, R, RE', w, fun d st1 ms1 v H1 q1 e1 k1 R1 hd => ?_, gx⟩
    refine ⟨_, rfl, ?_⟩
    rw [non_iff hd]
    obtain ⟨r', hr', q4⟩ := g _ _ ms1 H1 q1 e1 k1 R1 ⟨_, rv_bl⟩
    simp only [truthD, Option.some.injEq] at hr'
    rw [hr']
    exact q4
theorem snd_notN {j : Nat} {p : Pos} (ha : Snd X W xa a x) : Snd X W xa (.notN a) (.Compare x [.IsNot] [.Constant .none j p] pos) where
  pe := (pe_cmp (pc_notN ha.pe)).weak fun σ H Q q => by
    obtain ⟨ms, st, env, Qp, Ex, R, RE', w, g, gx⟩ := q
    simp only [wpE] at w
    refine ⟨ms, st, env, _, Ex, R, RE', w, fun d st1 ms1 v H1 q1 e1 k1 R1 hd => ?_, gx⟩
    show Q (.bl (!decide (v = V.non))) H1
    rw [non_iff hd]
    exact (g.go e1 k1).here R1 q1 rv_bl
  pt := (pt_cmp (pc_notN ha.pe)).weak fun σ H Q q => by
    obtain ⟨ms, st, env, Qp, Ex, R, RE', w, g, gx⟩ := q
    simp only [wpE] at w
    refine ⟨ms, st, env, _, Ex, R, RE', w, fun d st1 ms1 v H1 q1 e1 k1 R1 hd => ?_, gx⟩
    refine ⟨_, rfl, ?_⟩
    rw [non_iff hd]
    obtain ⟨r', hr', q4⟩ := g _ _ ms1 H1 q1 e1 k1 R1 ⟨_, rv_bl⟩
    simp only [truthD, Option.some.injEq] at hr'
    rw [hr']
    exact q4
/-- a chain of and, or -/
structure SndB (X : Cx) (W : WX) (xa : Exc → Addr) (op : BoolOp) (e : E) (xs : List Expr) (pos : Pos) : Prop where
  pe : PE X (.BoolOp op xs pos) (RE X.K W xa e)
  pw : PW X (.BoolOp op xs pos) (RT X.K W xa e)
theorem sndB_one_and (ha : Snd X W xa a x) : SndB X W xa .And a [x] pos := ⟨pe_one ha.pe, pw_and1 ha.pt⟩
theorem sndB_one_or (ha : Snd X W xa a x) : SndB X W xa .Or a [x] pos := ⟨pe_one ha.pe, pw_or1 ha.pt⟩
theorem sndB_of {op : BoolOp} {xs : List Expr} (h : Snd X W xa a (.BoolOp op xs pos)) : SndB X W xa op a xs pos := ⟨h.pe, ⟨fun wh pins s σ H Q I q => h.pt.run pins s σ H Q I q⟩⟩
theorem SndB.snd {op : BoolOp} {xs : List Expr} (h : SndB X W xa op a xs pos) : Snd X W xa a (.BoolOp op xs pos) := ⟨h.pe, h.pw.pt⟩
theorem _root_.L2.PW.weak {e : Expr} {t t' : TT} (h : PW X e t) (hw : ∀ σ H Q, t' σ H Q → t σ H Q) : PW X e t' := ⟨fun wh pins s σ H Q I q => h.run wh pins s σ H Q I (hw _ _ _ q)⟩
theorem snd_and {ys : List Expr} (ha : Snd X W xa a x) (hb : SndB X W xa .And b (y :: ys) pos) : SndB X W xa .And (.and a b) (x :: y :: ys) pos where
  pe := (pe_andT ha.pe hb.pe).weak fun σ H Q q => by
    obtain ⟨ms, st, env, Qp, Ex, R, RE', w, g, gx⟩ := q
    simp only [wpE] at w
    refine ⟨ms, st, env, _, Ex, R, RE', w, fun d st1 ms1 v H1 q1 e1 k1 R1 hd => ?_, gx⟩
    obtain ⟨r, hr, q2, q3⟩ := q1
    refine ⟨r, truV_of R1 hd hr, ?_⟩
    cases r with
    | true => exact iteT ⟨ms1, st1, env, _, Ex, R1, RE'.keep e1 k1, q2 rfl, g.go e1 k1, gx.go e1 k1⟩
    | false => exact iteF ((g.go e1 k1).here R1 (q3 rfl) hd)
  pw := (pw_and ha.pt hb.pw).weak fun σ H Q q => by
    obtain ⟨ms, st, env, Qp, Ex, R, RE', w, g, gx⟩ := q
    simp only [wpE] at w
    refine ⟨ms, st, env, _, Ex, R, RE', w, fun d st1 ms1 H1 q1 e1 k1 R1 hd => ?_, gx⟩
    obtain ⟨r, hr, q2, q3⟩ := q1
    refine ⟨r, hr, ?_⟩
    cases r with
    | true => exact iteT ⟨ms1, st1, env, _, Ex, R1, RE'.keep e1 k1, q2 rfl, g.go e1 k1, gx.go e1 k1⟩
    | false =>
      obtain ⟨r', hr', q4⟩ := g _ _ ms1 H1 (q3 rfl) e1 k1 R1 hd
      rw [hr] at hr'
      cases hr'
      exact iteF q4
theorem snd_or {ys : List Expr} (ha : Snd X W xa a x) (hb : SndB X W xa .Or b (y :: ys) pos) : SndB X W xa .Or (.or a b) (x :: y :: ys) pos where
  pe := (pe_orT ha.pe hb.pe).weak fun σ H Q q => by
    obtain ⟨ms, st, env, Qp, Ex, R, RE', w, g, gx⟩ := q
    simp only [wpE] at w
    refine ⟨ms, st, env, _, Ex, R, RE', w, fun d st1 ms1 v H1 q1 e1 k1 R1 hd => ?_, gx⟩
    obtain ⟨r, hr, q2, q3⟩ := q1
    refine ⟨r, truV_of R1 hd hr, ?_⟩
    cases r with
    | true => exact iteT ((g.go e1 k1).here R1 (q2 rfl) hd)
    | false => exact iteF ⟨ms1, st1, env, _, Ex, R1, RE'.keep e1 k1, q3 rfl, g.go e1 k1, gx.go e1 k1⟩
  pw := (pw_or ha.pt hb.pw).weak fun σ H Q q => by
    obtain ⟨ms, st, env, Qp, Ex, R, RE', w, g, gx⟩ := q
    simp only [wpE] at w
    refine ⟨ms, st, env, _, Ex, R, RE', w, fun d st1 ms1 H1 q1 e1 k1 R1 hd => ?_, gx⟩
    obtain ⟨r, hr, q2, q3⟩ := q1
    refine ⟨r, hr, ?_⟩
    cases r with
    | false => exact iteF ⟨ms1, st1, env, _, Ex, R1, RE'.keep e1 k1, q3 rfl, g.go e1 k1, gx.go e1 k1⟩
    | true =>
      obtain ⟨r', hr', q4⟩ := g _ _ ms1 H1 (q2 rfl) e1 k1 R1 hd
      rw [hr] at hr'
      cases hr'
      exact iteT q4
theorem snd_not (ha : Snd X W xa a x) : Snd X W xa (.not a) (.UnaryOp .Not x pos) where
  pe := (pe_notT ha.pe).weak fun σ H Q q => by
    obtain ⟨ms, st, env, Qp, Ex, R, RE', w, g, gx⟩ := q
    simp only [wpE] at w
    refine ⟨ms, st, env, _, Ex, R, RE', w, fun d st1 ms1 v H1 q1 e1 k1 R1 hd => ?_, gx⟩
    obtain ⟨r, hr, q2⟩ := q1
    exact ⟨r, truV_of R1 hd hr, (g.go e1 k1).here R1 q2 rv_bl⟩
  pt := (pt_not ha.pt).weak fun σ H Q q => by
    obtain ⟨ms, st, env, Qp, Ex, R, RE', w, g, gx⟩ := q
    simp only [wpE] at w
    refine ⟨ms, st, env, _, Ex, R, RE', w, fun d st1 ms1 H1 q1 e1 k1 R1 hd => ?_, gx⟩
    obtain ⟨r, hr, q2⟩ := q1
    refine ⟨r, hr, ?_⟩
    obtain ⟨r', hr', q4⟩ := g _ _ ms1 H1 q2 e1 k1 R1 ⟨_, rv_bl⟩
    simp only [truthD, Option.some.injEq] at hr'
    rw [hr']
    exact q4
theorem snd_neg (ha : Snd X W xa a x) : Snd X W xa (.neg a) (.UnaryOp .USub x pos) :=
  .of ((pe_un un_neg ha.pe).weak fun σ H Q q => by
    obtain ⟨ms, st, env, Qp, Ex, R, RE', w, g, gx⟩ := q
    simp only [wpE] at w
    refine ⟨ms, st, env, _, Ex, R, RE', w, fun d st1 ms1 v H1 q1 e1 k1 R1 hd => ?_, gx⟩
    obtain ⟨i, rfl, q2⟩ := q1
    exact ⟨i, int_rep hd, (g.go e1 k1).here R1 q2 rv_int⟩) fun _ => rfl
theorem snd_ife_pe (hc : Snd X W xa c z) (ha : Snd X W xa a x) (hb : Snd X W xa b y) : PE X (.IfExp z x y pos) (RE X.K W xa (.ife c a b)) :=
  (pe_ifExp hc.pt ha.pe hb.pe).weak fun σ H Q q => by
    obtain ⟨ms, st, env, Qp, Ex, R, RE', w, g, gx⟩ := q
    simp only [wpE] at w
    refine ⟨ms, st, env, _, Ex, R, RE', w, fun d st1 ms1 H1 q1 e1 k1 R1 hd => ?_, gx⟩
    obtain ⟨r, hr, q2, q3⟩ := q1
    refine ⟨r, hr, ?_⟩
    cases r with
    | true => exact iteT ⟨ms1, st1, env, _, Ex, R1, RE'.keep e1 k1, q2 rfl, g.go e1 k1, gx.go e1 k1⟩
    | false => exact iteF ⟨ms1, st1, env, _, Ex, R1, RE'.keep e1 k1, q3 rfl, g.go e1 k1, gx.go e1 k1⟩
/-! ### argument lists, displays -/
theorem ra_nil : PA X [] (RA X.K W xa []) := pa_nil.weak fun σ H Q q => by
  obtain ⟨ms, st, env, Qp, Ex, R, RE', w, g, gx⟩ := q
  simp only [wpEs] at w
  exact g [] st ms [] H rfl w (List.prefix_refl _) (Keep.refl _) R .nil
theorem ra_cons {es : List E} {xs : List Expr} (ha : PE X x (RE X.K W xa a)) (hr : PA X xs (RA X.K W xa es)) (hs : starEach (x :: xs) X.env = (false, eval x X.env) :: starEach xs X.env) : PA X (x :: xs) (RA X.K W xa (a :: es)) :=
  (pa_cons ha hr hs).weak fun σ H Q q => by
    obtain ⟨ms, st, env, Qp, Ex, R, RE', w, g, gx⟩ := q
    simp only [wpEs] at w
    refine ⟨ms, st, env, _, Ex, R, RE', w, fun d st1 ms1 v H1 q1 e1 k1 R1 hd => ?_, gx⟩
    refine ⟨ms1, st1, env, _, Ex, R1, RE'.keep e1 k1, q1, fun ds st2 ms2 vs H2 hl q2 e2 k2 R2 hds => ?_, gx.go e1 k1⟩
    exact g (d :: ds) st2 ms2 (v :: vs) H2 (by simp [hl]) q2 (e1.trans e2) (k1.trans k2) R2 (.cons (hd.keep e2 k2) hds)
theorem snd_tup {es : List E} {xs : List Expr} {k : Nat} (h : PA X xs (RA X.K W xa es)) : Snd X W xa (.tup es) (.Tuple xs k pos) :=
  .of ((pe_tup h).weak fun σ H Q q => by
    obtain ⟨ms, st, env, Qp, Ex, R, RE', w, g, gx⟩ := q
    simp only [wpE] at w
    refine ⟨ms, st, env, _, Ex, R, RE', w, fun ds st1 ms1 vs H1 hl q1 e1 k1 R1 hds => ?_, gx⟩
    exact ⟨by rw [← hds.length]; exact Nat.le_trans q1.1 lineS, fun p hp => (g.go e1 k1).tup R1 q1.2 hds hp⟩) fun _ => rfl
theorem snd_lst {es : List E} {xs : List Expr} (h : PA X xs (RA X.K W xa es)) : Snd X W xa (.lst es) (.List xs pos) :=
  .of ((pe_lst h).weak fun σ H Q q => by
    obtain ⟨ms, st, env, Qp, Ex, R, RE', w, g, gx⟩ := q
    simp only [wpE] at w
    refine ⟨ms, st, env, _, Ex, R, RE', w, fun ds st1 ms1 vs H1 hl q1 e1 k1 R1 hds => ?_, gx⟩
    exact ⟨by rw [← hds.length]; exact Nat.le_trans q1.1 lineS, fun p hp => (g.go e1 k1).lst R1 q1.2 hds hp⟩) fun _ => rfl
/-! ### subscripts, slices -/
theorem snd_ix (hs : PlainIx y) (ha : Snd X W xa a x) (hb : Snd X W xa b y) : Snd X W xa (.ix a b) (.Subscript x y pos) :=
  .of ((pe_ix ix_D ha.pe hb.pe hs).weak fun σ H Q q => by
    obtain ⟨ms, st, env, Qp, Ex, R, RE', w, g, gx⟩ := q
    simp only [wpE] at w
    refine ⟨ms, st, env, _, Ex, R, RE', w, fun d st1 ms1 v H1 q1 e1 k1 R1 hd => ?_, gx⟩
    refine ⟨ms1, st1, env, _, Ex, R1, RE'.keep e1 k1, q1, fun f st2 ms2 u H2 q2 e2 k2 R2 hf => ?_, gx.go e1 k1⟩
    obtain ⟨h, hh, q3⟩ := q2
    exact ⟨ms2, st2, d, f, h, R2, hd.keep e2 k2, hf, hh, fun v hv => (g.go (e1.trans e2) (k1.trans k2)).here R2 q3 hv⟩) fun _ => rfl
def RO (K : PySem.W.Frag) (W : WX) (xa : Exc → Addr) (e : Option E) : TO := fun σ H Q => ∃ (ms : List Addr) (st : Store) (env : Env') (Qp : Option Int → Store → Prop) (Ex : XPost),
  Rel K ms st H ∧ RelE K ms H env σ ∧ wpO e env st Qp Ex ∧ (∀ (o : Option Int) (st' : Store) (ms' : List Addr) (H' : Hp), Qp o st' → ms <+: ms' → Keep H H' → Rel K ms' st' H' → Q o H') ∧ GetsX K ms H W xa σ Ex
theorem _root_.L2.PO.weak {e : Option Expr} {t t' : TO} (h : PO X e t) (hw : ∀ σ H Q, t' σ H Q → t σ H Q) : PO X e t' := ⟨fun pins s σ H Q I q => h.run pins s σ H Q I (hw _ _ _ q)⟩
theorem ro_none : PO X none (RO X.K W xa none) := po_none.weak fun σ H Q q => by
  obtain ⟨ms, st, env, Qp, Ex, R, RE', w, g, gx⟩ := q
  simp only [wpO] at w
  exact g none st ms H w (List.prefix_refl _) (Keep.refl _) R
theorem ro_some (ha : Snd X W xa a x) : PO X (some x) (RO X.K W xa (some a)) := (po_some ha.pe).weak fun σ H Q q => by
  obtain ⟨ms, st, env, Qp, Ex, R, RE', w, g, gx⟩ := q
  simp only [wpO] at w
  refine ⟨ms, st, env, _, Ex, R, RE', w, fun d st1 ms1 v H1 q1 e1 k1 R1 hd => ?_, gx⟩
  obtain ⟨i, rfl, q2⟩ := q1
  exact ⟨i, int_rep hd, g _ st1 ms1 H1 q2 e1 k1 R1⟩
theorem snd_sl {lo hi : Option E} {xl xh : Option Expr} {p : Pos} (ha : Snd X W xa a x) (hl : PO X xl (RO X.K W xa lo)) (hh : PO X xh (RO X.K W xa hi)) : Snd X W xa (.sl a lo hi) (.Subscript x (.Slice xl xh none p) pos) :=
  .of ((pe_slice sl_D ha.pe hl hh).weak fun σ H Q q => by
    obtain ⟨ms, st, env, Qp, Ex, R, RE', w, g, gx⟩ := q
    simp only [wpE] at w
    refine ⟨ms, st, env, _, Ex, R, RE', w, fun d st1 ms1 v H1 q1 e1 k1 R1 hd => ?_, gx⟩
    refine ⟨ms1, st1, env, _, Ex, R1, RE'.keep e1 k1, q1, fun l st2 ms2 H2 q2 e2 k2 R2 => ?_, gx.go e1 k1⟩
    refine ⟨ms2, st2, env, _, Ex, R2, RE'.keep (e1.trans e2) (k1.trans k2), q2, fun h st3 ms3 H3 q3 e3 k3 R3 => ?_, gx.go (e1.trans e2) (k1.trans k2)⟩
    exact ⟨ms3, st3, d, Qp, R3, hd.keep (e2.trans e3) (k2.trans k3), q3, g.go ((e1.trans e2).trans e3) ((k1.trans k2).trans k3)⟩) fun _ => rfl
theorem snd_rev {k : Nat} {p1 p2 p3 : Pos} (ha : Snd X W xa a x) : Snd X W xa (.rev a) (.Subscript x (.Slice none none (some (.UnaryOp .USub (.Constant (.int 1) k p1) p2)) p3) pos) :=
  .of ((pe_revT ha.pe).weak fun σ H Q q => by
    obtain ⟨ms, st, env, Qp, Ex, R, RE', w, g, gx⟩ := q
    simp only [wpE] at w
    refine ⟨ms, st, env, _, Ex, R, RE', w, fun d st1 ms1 v H1 q1 e1 k1 R1 hd => ?_, gx⟩
    cases d <;> simp only [revD] at q1
    obtain ⟨b, xs, rfl, sb, lb⟩ := rv_tup' hd
    exact ⟨b, xs, rfl, sb, fun p hp => (g.go e1 k1).tup R1 q1 (pr_reverse lb) hp⟩) fun _ => rfl
/-- what came on the way is forgotten -/
theorem snd_tmp (ha : Snd X W xa a x) : Snd X W xa (.tmp a) x where
  pe := ha.pe.weak fun σ H Q q => by
    obtain ⟨ms, st, env, Qp, Ex, R, RE', w, g, gx⟩ := q
    simp only [wpE] at w
    refine ⟨ms, st, env, _, Ex, R, RE', w, fun d st1 ms1 v H1 q1 e1 k1 R1 hd => ?_, gx⟩
    obtain ⟨es, pu, q2⟩ := q1
    exact g d st ms v H1 q2 (List.prefix_refl _) k1 (R.back R1 e1 es) (hd.pure pu)
  pt := ha.pt.weak fun σ H Q q => by
    obtain ⟨ms, st, env, Qp, Ex, R, RE', w, g, gx⟩ := q
    simp only [wpE] at w
    refine ⟨ms, st, env, _, Ex, R, RE', w, fun d st1 ms1 H1 q1 e1 k1 R1 hd => ?_, gx⟩
    obtain ⟨es, pu, q2⟩ := q1
    obtain ⟨v, hd⟩ := hd
    obtain ⟨r, hr, q3⟩ := g d st ms H1 q2 (List.prefix_refl _) k1 (R.back R1 e1 es) ⟨v, hd.pure pu⟩
    refine ⟨r, ?_, q3⟩
    cases d <;> first | exact hr | simp [D.pure] at pu
end
end Ev

set_option Elab.async false
set_option linter.all false
set_option maxRecDepth 100000
set_option maxHeartbeats 4000000
/-! Ev4c: calls of own defs, of built-ins, of methods. -/
namespace Ev
open PySem PySem.Spec PyProof.Rows L2
/-- a def's promise from its worth -/
def spD (K : PySem.W.Frag) (xa : Exc → Addr) (n : Nat) (con : Con) : Sp := fun vs H Q E => vs.length = n ∧ ∃ (ms : List Addr) (st : Store) (ds : List D) (Qp : Post) (Ex : XPost),
  Rel K ms st H ∧ RepL K ms H ds vs ∧ con ds st Qp Ex ∧ Gets K ms H Qp Q ∧
  ∀ (x : Exc) (st' : Store) (ms' : List Addr) (H' : Hp), Ex x st' → ms <+: ms' → Keep H H' → Rel K ms' st' H' → E (.ref (xa x)) none H'
/-- f is known where X is: with what is written in its place -/
def FnK (X : Cx) (xa : Exc → Addr) (f : Fn) : Prop := ∃ (a : Addr) (fd : FuncData) (k : Nat), X.mg f.name = some (.ref a) ∧ PySem.W.keepIn X.K (.ref a) = true ∧ Room k X.A ∧
  FnOk X.prog X.w X.K X.mg X.base (L2.CX X.prog X.w) k a fd f.ps (spD X.K xa f.ps.length f.con) ∧ Binds X.K fd f.ps []
def KwK (X : Cx) (xa : Exc → Addr) (f : Fn) (n : Nat) (ks : List Str) (perm : List Nat) : Prop := ∃ (a : Addr) (fd : FuncData) (k : Nat), X.mg f.name = some (.ref a) ∧ PySem.W.keepIn X.K (.ref a) = true ∧ Room k X.A ∧
  FnOk X.prog X.w X.K X.mg X.base (L2.CX X.prog X.w) k a fd f.ps (spD X.K xa f.ps.length f.con) ∧
  ∀ (s : Shared) (us ws : List Value), X.K.In s.heap → us.length = n → ws.length = ks.length → BindsTo s fd ⟨us, ks.zip ws⟩ (f.ps.zip (reord us ws perm))
theorem pr_pick {α β : Type} {F : α → β → Prop} {l : List α} {r : List β} (h : Paired F l r) : ∀ perm : List Nat, Paired F (perm.filterMap fun i => l[i]?) (perm.filterMap fun i => r[i]?)
  | [] => .nil
  | i :: p => by
    rw [List.filterMap_cons, List.filterMap_cons]
    cases e : l[i]? with
    | none =>
      have e' : r[i]? = none := List.getElem?_eq_none (by rw [← h.length]; exact List.getElem?_eq_none_iff.mp e)
      rw [e']
      exact pr_pick h p
    | some a =>
      obtain ⟨b, e', hb⟩ := pr_get h e
      rw [e']
      exact .cons hb (pr_pick h p)
theorem pr_reord {α β : Type} {F : α → β → Prop} {l l' : List α} {r r' : List β} (h : Paired F l r) (h' : Paired F l' r') (perm : List Nat) : Paired F (reord l l' perm) (reord r r' perm) := pr_append h (pr_pick h' perm)
theorem noStar_any {env : PySem.Env} : ∀ {xs : List Expr} {pos : Pos}, (∀ x ∈ xs, ∀ v p, x ≠ .Starred v p) → (backTo pos (starEach xs env)).any (·.1) = false
  | [], _, _ => rfl
  | x :: xs, pos, h => by
    have h1 : starEach (x :: xs) env = (false, eval x env) :: starEach xs env := by
      cases x <;> first | rfl | exact absurd rfl (h _ List.mem_cons_self _ _)
    rw [h1]
    show (false || (backTo pos (starEach xs env)).any (·.1)) = false
    rw [noStar_any fun y hy => h y (List.mem_cons_of_mem _ hy)]
    rfl
theorem noStar_cons {env : PySem.Env} {x : Expr} {xs : List Expr} (h : ∀ v p, x ≠ .Starred v p) : starEach (x :: xs) env = (false, eval x env) :: starEach xs env := by
  cases x <;> first | rfl | exact absurd rfl (h _ _)
theorem noStar_all {env : PySem.Env} : ∀ {xs : List Expr} {pos : Pos}, (∀ x ∈ xs, ∀ v p, x ≠ .Starred v p) → (backTo pos (starEach xs env)).all (fun x => !x.1) = true
  | [], _, _ => rfl
  | x :: xs, pos, h => by
    rw [noStar_cons (h x List.mem_cons_self)]
    show (!false && (backTo pos (starEach xs env)).all (fun x => !x.1)) = true
    rw [noStar_all fun y hy => h y (List.mem_cons_of_mem _ hy)]
    rfl
section
variable {X : Cx} {W : WX} {xa : Exc → Addr} {e a b c : E} {x y z : Expr} {pos p : Pos} {es : List E} {xs : List Expr}
theorem snd_call {f : Fn} (tk : Takes X W) (F : FnK X xa f) (hg : Gl X f.name) (hdb : (f.name == ("__debug__" : Str)) = false) (hns : ∀ x ∈ xs, ∀ v p, x ≠ .Starred v p) (ha : PA X xs (RA X.K W xa es)) (hl : es.length = f.ps.length) (hx : es.length = xs.length) :
    Snd X W xa (.call f es) (.Call (.Name f.name p) xs [] pos) := by
  obtain ⟨fa, fd, k, hm, hk, hr, F, hb⟩ := F
  refine .of ⟨fun pins s σ H Q I q => ?_⟩ fun _ => rfl
  obtain ⟨ms, st, env, Qp, Ex, R, RE', w, g, gx⟩ := q
  simp only [wpE] at w
  have hA := ha.run pos pins s σ H (fun vs H1 => spD X.K xa f.ps.length f.con vs H1 Q (WE W σ)) I ⟨ms, st, env, _, Ex, R, RE', w, fun ds st1 ms1 vs H1 hl' q1 e1 k1 R1 hds =>
    ⟨by rw [← hds.length, hl', hl], ms1, st1, ds, Qp, Ex, R1, hds, q1, g.go e1 k1, fun x st' ms' H' qx e' k' r' => gx x st' ms' H' qx (e1.trans e') (k1.trans k') r'⟩, gx⟩
  refine wpAny_Call_Name_kw (ld_glob I hg hm ?_ hdb)
  cases xs with
  | nil =>
    have he : es = [] := List.eq_nil_of_length_eq_zero hx
    subst he
    simp only [wpEs] at w
    have q1 : spD X.K xa f.ps.length f.con [] H Q (WE W σ) := ⟨by rw [← hl]; rfl, ms, st, [], Qp, Ex, R, .nil, w, g, gx⟩
    exact PySem.W.callWith_K0 I.kIn hk (run_fnS (us := []) F hr hb (passAt tk σ) I .nil q1)
  | cons x0 xr =>
    refine PySem.W.callWith_K (h₀ := X.base) I.ok.mod.kin hk (thn hA fun us s1 ⟨vs, H1, I1, r, q⟩ => ⟨I1.kIn, ?_⟩) (noStar_cons (hns x0 List.mem_cons_self)) (noStar_any fun y hy => hns y (List.mem_cons_of_mem _ hy))
    exact run_fnS F hr hb (passAt tk σ) I1 r q

/-! ### keywords -/
theorem kw_names : ∀ {kws : List Keyword} {ks : List Str} {pos : Pos} {env : PySem.Env}, kws.map (·.arg) = ks.map some → (backToKw pos (keywordEach kws env)).all (·.1.isSome) = true ∧ (backToKw pos (keywordEach kws env)).filterMap (·.1) = ks ∧ (backToKw pos (keywordEach kws env)).any (·.1.isNone) = false
  | [], ks, _, _, h => by
    cases ks with
    | nil => exact ⟨rfl, rfl, rfl⟩
    | cons k r => simp at h
  | ⟨nm, v, p⟩ :: kws, ks, pos, env, h => by
    cases ks with
    | nil => simp at h
    | cons k r =>
      simp only [List.map_cons, List.cons.injEq] at h
      obtain ⟨h1, h2⟩ := h
      subst h1
      obtain ⟨i1, i2, i3⟩ := kw_names (kws := kws) (ks := r) (pos := pos) (env := env) h2
      refine ⟨?_, ?_, ?_⟩
      · show (true && (backToKw pos (keywordEach kws env)).all (·.1.isSome)) = true
        rw [i1]; rfl
      · show k :: (backToKw pos (keywordEach kws env)).filterMap (·.1) = k :: r
        rw [i2]
      · show (false || (backToKw pos (keywordEach kws env)).any (·.1.isNone)) = false
        rw [i3]; rfl
theorem _root_.L2.PK.weak {e : List Keyword} {t t' : TA} (h : PK X e t) (hw : ∀ σ H Q, t' σ H Q → t σ H Q) : PK X e t' := ⟨fun pos pins s σ H Q I q => h.run pos pins s σ H Q I (hw _ _ _ q)⟩
theorem rk_nil : PK X [] (RA X.K W xa []) := pk_nil.weak fun σ H Q q => by
  obtain ⟨ms, st, env, Qp, Ex, R, RE', w, g, gx⟩ := q
  simp only [wpEs] at w
  exact g [] st ms [] H rfl w (List.prefix_refl _) (Keep.refl _) R .nil
theorem rk_cons {kws : List Keyword} {nm : Option Str} (ha : PE X x (RE X.K W xa a)) (hr : PK X kws (RA X.K W xa es)) : PK X (⟨nm, x, p⟩ :: kws) (RA X.K W xa (a :: es)) :=
  (pk_cons ha hr).weak fun σ H Q q => by
    obtain ⟨ms, st, env, Qp, Ex, R, RE', w, g, gx⟩ := q
    simp only [wpEs] at w
    refine ⟨ms, st, env, _, Ex, R, RE', w, fun d st1 ms1 v H1 q1 e1 k1 R1 hd => ?_, gx⟩
    refine ⟨ms1, st1, env, _, Ex, R1, RE'.keep e1 k1, q1, fun ds st2 ms2 vs H2 hl q2 e2 k2 R2 hds => ?_, gx.go e1 k1⟩
    exact g (d :: ds) st2 ms2 (v :: vs) H2 (by simp [hl]) q2 (e1.trans e2) (k1.trans k2) R2 (.cons (hd.keep e2 k2) hds)
theorem run_fnKS {k n : Nat} {f : Addr} {fd : FuncData} {ps ks : List Str} {sp : Sp} {E : L2.St → XK} {perm : List Nat} {pins : List (Addr × Obj)} {σ : L2.St} {H : Hp} {s : Shared} {Q : VK} {us ws : List Value} {vs zs : List V} (F : FnOk X.prog X.w X.K X.mg X.base (L2.CX X.prog X.w) k f fd ps sp) (hr : Room k X.A)
    (hb : ∀ (s : Shared) (us ws : List Value), X.K.In s.heap → us.length = n → ws.length = ks.length → BindsTo s fd ⟨us, ks.zip ws⟩ (ps.zip (reord us ws perm))) (hx : PassesAt (L2.CX X.prog X.w) X σ (E σ))
    (I : Inv X pins σ H s) (r : Vals vs us) (rz : Vals zs ws) (l1 : vs.length = n) (l2 : zs.length = ks.length) (h : sp (reord vs zs perm) H Q (E σ)) : wpAny (model X.prog X.w) X.A (call (.ref f) us (ks.zip ws)) (EP X pins σ Q) X.xe s := by
  have r2 : Vals (reord vs zs perm) (reord us ws perm) := pr_reord r rz perm
  refine wpAny_call (codeAny_mono (F.run X.A X.stack s H ⟨us, ks.zip ws⟩ (reord us ws perm) (reord vs zs perm) Q (E σ) hr I.env0 (hb s us ws I.kIn (r.length.symm.trans l1) (rz.length.symm.trans l2)) r2 h) fun r s' hq => ?_)
  cases r with
  | error e => exact hx pins H s e s' I hq
  | ok fl =>
    cases fl with
    | ret u => exact I.after hq
    | next => exact False.elim hq
    | brk => exact False.elim hq
    | cont => exact False.elim hq
theorem snd_callk {f : Fn} {ks : List Str} {kes : List E} {kws : List Keyword} {perm : List Nat} (tk : Takes X W) (F : KwK X xa f es.length ks perm) (hg : Gl X f.name) (hdb : (f.name == ("__debug__" : Str)) = false) (hns : ∀ x ∈ xs, ∀ v p, x ≠ .Starred v p)
    (ha : PA X xs (RA X.K W xa es)) (hkw : PK X kws (RA X.K W xa kes)) (hk' : kws.map (·.arg) = ks.map some) (hkl : kes.length = ks.length) (hl : ∀ (us ws : List D), us.length = es.length → ws.length = kes.length → (reord us ws perm).length = f.ps.length) (hx : es.length = xs.length) :
    Snd X W xa (.callk f es ks perm kes) (.Call (.Name f.name p) xs kws pos) := by
  obtain ⟨fa, fd, k, hm, hk, hr, F, hb⟩ := F
  refine .of ⟨fun pins s σ H Q I q => ?_⟩ fun _ => rfl
  obtain ⟨ms, st, env, Qp, Ex, R, RE', w, g, gx⟩ := q
  simp only [wpE] at w
  obtain ⟨n1, n2, n3⟩ := kw_names (pos := pos) (env := X.env) hk'
  -- behind the positional arguments
  have rest : ∀ {vs : List V} {us : List Value} {H1 : Hp} {s1 : Shared} {ms1 : List Addr} {st1 : Store} {ds : List D}, Inv X pins σ H1 s1 → Vals vs us → ds.length = es.length → ms <+: ms1 → Keep H H1 → Rel X.K ms1 st1 H1 → RepL X.K ms1 H1 ds vs →
      wpEs kes env st1 (fun ds2 st2 => f.con (reord ds ds2 perm) st2 Qp Ex) Ex →
      wpAny (model X.prog X.w) X.A (evalAll ((backToKw pos (keywordEach kws X.env)).map (·.2))) (fun ws s2 => X.K.In s2.heap ∧ wpAny (model X.prog X.w) X.A (call (.ref fa) ([] ++ us) (((backToKw pos (keywordEach kws X.env)).filterMap (·.1)).zip ws)) (EP X pins σ Q) X.xe s2) X.xe s1 := by
    intro vs us H1 s1 ms1 st1 ds I1 r1 hl1 e1 k1 R1 hds w1
    have hK := hkw.run pos pins s1 σ H1 (fun zs H2 => zs.length = ks.length ∧ spD X.K xa f.ps.length f.con (reord vs zs perm) H2 Q (WE W σ)) I1 ⟨ms1, st1, env, _, Ex, R1, RE'.keep e1 k1, w1, fun ds2 st2 ms2 zs H2 hl2 q2 e2 k2 R2 hds2 =>
      ⟨by rw [← hds2.length, hl2, hkl], by
        have := hl ds ds2 hl1 hl2
        have h3 : RepL X.K ms2 H2 (reord ds ds2 perm) (reord vs zs perm) := pr_reord (hds.keep e2 k2) hds2 perm
        rw [← h3.length, this], ms2, st2, _, Qp, Ex, R2, pr_reord (hds.keep e2 k2) hds2 perm, q2, g.go (e1.trans e2) (k1.trans k2), fun x st' ms' H' qx e' k' r' => gx x st' ms' H' qx ((e1.trans e2).trans e') ((k1.trans k2).trans k') r'⟩, gx.go e1 k1⟩
    refine thn hK fun ws s2 ⟨zs, H2, I2, rz, l2, q2⟩ => ⟨I2.kIn, ?_⟩
    rw [n2]
    exact run_fnKS F hr hb (passAt tk σ) I2 r1 rz (by rw [← hds.length, hl1]) l2 q2
  refine wpAny_Call_Name_kw (ld_glob I hg hm ?_ hdb)
  cases xs with
  | nil =>
    have he : es = [] := List.eq_nil_of_length_eq_zero hx
    subst he
    simp only [wpEs] at w
    refine PySem.W.callWith_KW0 (h₀ := X.base) I.ok.mod.kin hk n1 ?_ (by show (false || _) = false; rw [n3]; rfl)
    exact rest (ds := []) I .nil rfl (List.prefix_refl _) (Keep.refl _) R .nil w
  | cons x0 xr =>
    have hA := ha.run pos pins s σ H (fun vs H1 => ∃ ms1 st1 ds, ds.length = es.length ∧ ms <+: ms1 ∧ Keep H H1 ∧ Rel X.K ms1 st1 H1 ∧ RepL X.K ms1 H1 ds vs ∧ wpEs kes env st1 (fun ds2 st2 => f.con (reord ds ds2 perm) st2 Qp Ex) Ex) I
      ⟨ms, st, env, _, Ex, R, RE', w, fun ds st1 ms1 vs H1 hl' q1 e1 k1 R1 hds => ⟨ms1, st1, ds, hl', e1, k1, R1, hds, q1⟩, gx⟩
    refine PySem.W.callWith_KW (h₀ := X.base) I.ok.mod.kin hk n1 (thn hA fun us s1 ⟨vs, H1, I1, r, ms1, st1, ds, hl1, e1, k1, R1, hds, w1⟩ => rest I1 r hl1 e1 k1 R1 hds w1) ?_ (noStar_cons (hns x0 List.mem_cons_self))
    rw [noStar_any hns, n3]
    rfl
/-! ### built-ins, methods -/
theorem prim_read {p : Prim} {σ : L2.St} {H : Hp} {Q : VK} (h : RE X.K W xa (.prim p es) σ H Q) : RA X.K W xa es σ H fun vs H1 => rPrim X.K p vs H1 Q := by
  obtain ⟨ms, st, env, Qp, Ex, R, RE', w, g, gx⟩ := h
  simp only [wpE] at w
  exact ⟨ms, st, env, _, Ex, R, RE', w, fun ds st1 ms1 vs H1 hl q1 e1 k1 R1 hds => ⟨ms1, st1, ds, Qp, R1, hds, q1, g.go e1 k1⟩, gx⟩
theorem snd_primB {p : Prim} {n : Str} {id : String} {pn : Pos} (hc : CallR X (.builtin id) (rPrim X.K p)) (hg : Gl X n) (hm : X.mg n = none) (hv : bootBuiltins n = some (.builtin id)) (ha : PA X (x :: xs) (RA X.K W xa es)) (hn : n ≠ "__name__") (hdb : (n == ("__debug__" : Str)) = false)
    (hns : ∀ y ∈ x :: xs, ∀ v p, y ≠ .Starred v p) : Snd X W xa (.prim p es) (.Call (.Name n pn) (x :: xs) [] pos) :=
  .of ((pe_callB hc hg hm hv ha hn hdb (noStar_cons (hns x List.mem_cons_self)) (noStar_any fun y hy => hns y (List.mem_cons_of_mem _ hy))).weak fun σ H Q q => prim_read q) fun _ => rfl
theorem snd_primT {p : Prim} {n : Str} {id : String} {pn : Pos} (hc : CallR X (.type id) (rPrim X.K p)) (hg : Gl X n) (hm : X.mg n = none) (hv : bootBuiltins n = some (.type id)) (ha : PA X (x :: xs) (RA X.K W xa es)) (hn : n ≠ "__name__") (hdb : (n == ("__debug__" : Str)) = false)
    (hns : ∀ y ∈ x :: xs, ∀ v p, y ≠ .Starred v p) : Snd X W xa (.prim p es) (.Call (.Name n pn) (x :: xs) [] pos) :=
  .of ((pe_callTy hc hg hm hv ha hn hdb (noStar_cons (hns x List.mem_cons_self)) (noStar_any fun y hy => hns y (List.mem_cons_of_mem _ hy))).weak fun σ H Q q => prim_read q) fun _ => rfl
theorem snd_meth {m : Mth} {id : String} {nm : Str} {ap : Pos} (pa : PlainAttrs "list") (slot : Slot "list" nm id) (hty : typeOf (.builtin id) = pure (.type "method_descriptor")) (hm : MtR X id (rMth X.K m)) (ho : PE X x (RE X.K W xa a)) (ha : PA X xs (RA X.K W xa es))
    (hbase : attributeBase x nm X.env (eval x X.env) = eval x X.env) (hline : (ap.endLine == pos.line) = true) (hfew : xs.length < 30) (hns : ∀ y ∈ xs, ∀ v p, y ≠ .Starred v p) (hx : es.length = xs.length) :
    Snd X W xa (.meth m a es) (.Call (.Attribute x nm ap) xs [] pos) := by
  have rd : ∀ {σ : L2.St} {H : Hp} {Q : VK}, RE X.K W xa (.meth m a es) σ H Q → RE X.K W xa a σ H fun v H1 => tyV X.K "list" v H1 ∧ RA X.K W xa es σ H1 fun vs H2 => rMth X.K m v vs H2 Q := by
    intro σ H Q q
    obtain ⟨ms, st, env, Qp, Ex, R, RE', w, g, gx⟩ := q
    simp only [wpE] at w
    refine ⟨ms, st, env, _, Ex, R, RE', w, fun d st1 ms1 v H1 q1 e1 k1 R1 hd => ?_, gx⟩
    obtain ⟨⟨n, l, rfl, hs⟩, q1⟩ := q1
    refine ⟨?_, ms1, st1, env, _, Ex, R1, RE'.keep e1 k1, q1, fun ds st2 ms2 vs H2 hl q2 e2 k2 R2 hds => ⟨ms2, st2, _, ds, Qp, R2, hd.keep e2 k2, hds, q2, g.go (e1.trans e2) (k1.trans k2)⟩, gx.go e1 k1⟩
    obtain ⟨b, rfl, hb⟩ := rv_ref hd
    obtain ⟨us, h1, _⟩ := R1.lst hb hs
    exact Or.inl ⟨rfl, _, Or.inl (Or.inl h1)⟩
  cases xs with
  | nil =>
    have he : es = [] := List.eq_nil_of_length_eq_zero hx
    subst he
    refine .of ((pe_bm0 pa slot hty hm ho hbase hline).weak fun σ H Q q => ?_) fun _ => rfl
    obtain ⟨ms, st, env, Qp, Ex, R, RE', w, g, gx⟩ := q
    simp only [wpE, wpEs] at w
    refine ⟨ms, st, env, _, Ex, R, RE', w, fun d st1 ms1 v H1 q1 e1 k1 R1 hd => ?_, gx⟩
    obtain ⟨⟨n, l, rfl, hs⟩, q1⟩ := q1
    refine ⟨?_, ms1, st1, _, [], Qp, R1, hd, .nil, q1, g.go e1 k1⟩
    obtain ⟨b, rfl, hb⟩ := rv_ref hd
    obtain ⟨us, h1, _⟩ := R1.lst hb hs
    exact Or.inl ⟨rfl, _, Or.inl (Or.inl h1)⟩
  | cons x0 xr =>
    exact .of ((pe_bm pa slot hty hm ho ha hbase (by
      rw [noStar_all hns]
      show (true && true && decide ((x0 :: xr).length + 0 + 0 < 30)) = true
      simpa using hfew) hline (noStar_cons (hns x0 List.mem_cons_self)) (noStar_any fun y hy => hns y (List.mem_cons_of_mem _ hy))).weak fun σ H Q q => rd q) fun _ => rfl
end
end Ev

set_option Elab.async false
set_option linter.all false
set_option maxRecDepth 100000
set_option maxHeartbeats 4000000
/-! Ev4d: isinstance, list(range(..)), targets, what is walked, comprehensions. -/
namespace Ev
open PySem PySem.Spec PyProof.Rows L2
section
variable {X : Cx} {W : WX} {xa : Exc → Addr} {e a b c : E} {x y z : Expr} {pos p : Pos} {es : List E} {xs : List Expr}

theorem snd_isi {t : Ty} {n : String} {nx : Str} {pn p2 : Pos} (hn : tyN t = [n]) (hn5 : n ∈ ["int", "bool", "tuple", "list", "str"]) (hg : Gl X "isinstance") (hm : X.mg "isinstance" = none) (hg2 : Gl X nx) (hm2 : X.mg nx = none) (hv2 : bootBuiltins nx = some (.type n)) (hn2 : nx ≠ "__name__") (hd2 : (nx == ("__debug__" : Str)) = false)
    (ha : Snd X W xa a x) (hns : ∀ v p, x ≠ .Starred v p) : Snd X W xa (.prim (.isi t) [a]) (.Call (.Name "isinstance" pn) [x, .Name nx p2] [] pos) := by
  refine .of ((pe_callB (pr_isi hn hn5) hg hm (by decide +kernel) (pa_cons ha.pe (pa_cons (pe_bltn (v := .ty n) hg2 hm2 hv2 rfl hn2 hd2) pa_nil) (noStar_cons hns)) (by decide) (by decide) (noStar_cons hns) rfl).weak fun σ H Q q => ?_) fun _ => rfl
  obtain ⟨ms, st, env, Qp, Ex, R, RE', w, g, gx⟩ := q
  simp only [wpE, wpEs] at w
  refine ⟨ms, st, env, _, Ex, R, RE', w, fun d st1 ms1 v H1 q1 e1 k1 R1 hd => ?_, gx⟩
  exact ⟨v, rfl, ms1, st1, [d], Qp, R1, .cons hd .nil, q1, g.go e1 k1⟩
theorem snd_isi2 {t : Ty} {n m : String} {nx mx : Str} {pn p1 p2 p3 : Pos} {k : Nat} (hn : tyN t = [n, m]) (h1 : n ∈ ["int", "bool", "tuple", "list", "str"]) (h2 : m ∈ ["int", "bool", "tuple", "list", "str"]) (hg : Gl X "isinstance") (hm : X.mg "isinstance" = none) (hgl : Gl X nx) (hml : X.mg nx = none) (hv : bootBuiltins nx = some (.type n)) (hnn : nx ≠ "__name__") (hd : (nx == ("__debug__" : Str)) = false)
    (hgt : Gl X mx) (hmt : X.mg mx = none) (hv2 : bootBuiltins mx = some (.type m)) (hnn2 : mx ≠ "__name__") (hd2 : (mx == ("__debug__" : Str)) = false)
    (ha : Snd X W xa a x) (hns : ∀ v p, x ≠ .Starred v p) : Snd X W xa (.prim (.isi t) [a]) (.Call (.Name "isinstance" pn) [x, .Tuple [.Name nx p1, .Name mx p2] k p3] [] pos) := by
  refine .of ((pe_callB (pr_isi2 hn h1 h2) hg hm (by decide +kernel) (pa_cons ha.pe (pa_cons (pe_tup (pa_cons (pe_bltn (v := .ty n) hgl hml hv rfl hnn hd) (pa_cons (pe_bltn (v := .ty m) hgt hmt hv2 rfl hnn2 hd2) pa_nil))) pa_nil) (noStar_cons hns)) (by decide) (by decide) (noStar_cons hns) rfl).weak fun σ H Q q => ?_) fun _ => rfl
  obtain ⟨ms, st, env, Qp, Ex, R, RE', w, g, gx⟩ := q
  simp only [wpE, wpEs] at w
  refine ⟨ms, st, env, _, Ex, R, RE', w, fun d st1 ms1 v H1 q1 e1 k1 R1 hd => ?_, gx⟩
  refine ⟨by rw [sizeLine_eq]; simp, fun tp htp => ⟨v, tp, rfl, upd_same, ms1, st1, [d], Qp, R1.newTup htp, .cons (hd.keep (List.prefix_refl _) (Keep.new htp)) .nil, q1, g.go e1 (k1.trans (Keep.new htp))⟩⟩
theorem snd_listrange {pn p1 : Pos} (hc : X.calm = true) (hgl : Gl X "list") (hml : X.mg "list" = none) (hgr : Gl X "range") (hmr : X.mg "range" = none) (ha : Snd X W xa a x) (hns : ∀ v p, x ≠ .Starred v p) :
    Snd X W xa (.prim .listrange [a]) (.Call (.Name "list" pn) [.Call (.Name "range" p1) [x] [] p] [] pos) := by
  refine .of ((pe_listRg hc hgl hml (prg_1 hgr hmr ha.pe (noStar_cons hns))).weak fun σ H Q q => ?_) fun _ => rfl
  obtain ⟨ms, st, env, Qp, Ex, R, RE', w, g, gx⟩ := q
  simp only [wpE, wpEs] at w
  refine ⟨ms, st, env, _, Ex, R, RE', w, fun d st1 ms1 v H1 q1 e1 k1 R1 hd => ?_, gx⟩
  cases d <;> simp only [primD] at q1
  rename_i j
  have hline : (line : Nat) = 1000000 := rfl
  refine ⟨j, int_rep hd, ⟨by decide, by decide, by omega, by omega, by omega⟩, fun q hq => ?_⟩
  have e : rgV 0 j = (List.range j.toNat).map fun (k : Nat) => V.int (0 + (k : Int)) := by unfold rgV; rw [Int.sub_zero]
  rw [e]
  exact (g.go e1 k1).lst R1 q1.2.2 (rangeRep (i := 0)) hq

/-! ### targets -/
theorem wipe_get {σ : L2.St} {j : Nat} : ∀ {vs : List Nat}, (wipe σ vs)[j]? = if j ∈ vs then (σ[j]?).map (fun _ => none) else σ[j]?
  | [] => by simp [wipe]
  | v :: vs => by
    unfold wipe
    by_cases h : v = j
    · subst h
      rw [if_pos List.mem_cons_self]
      by_cases hv : v < σ.length
      · rw [List.getElem?_set_self (by rw [wipe_length]; exact hv), List.getElem?_eq_getElem hv]
        rfl
      · rw [List.getElem?_eq_none (by simpa [wipe_length] using hv), List.getElem?_eq_none (by simpa using hv)]
        rfl
    · rw [List.getElem?_set_ne h, wipe_get]
      have : (j ∈ v :: vs) ↔ j ∈ vs := by simp [Ne.symm h]
      simp only [this]
theorem wipe_set {σ : L2.St} {vs : List Nat} {i : Nat} {o : Option V} (h : i ∈ vs) : wipe (σ.set i o) vs = wipe σ vs := by
  apply List.ext_getElem?
  intro j
  rw [wipe_get, wipe_get]
  by_cases hj : j ∈ vs
  · rw [if_pos hj, if_pos hj]
    by_cases e : i = j
    · subst e
      by_cases hi : i < σ.length
      · rw [List.getElem?_set_self hi, List.getElem?_eq_getElem hi]; rfl
      · rw [List.getElem?_eq_none (by simpa using hi), List.getElem?_eq_none (by simpa using hi)]
    · rw [List.getElem?_set_ne e]
  · rw [if_neg hj, if_neg hj, List.getElem?_set_ne (fun e => hj (by rw [← e]; exact h))]
theorem wipe_wipe {σ : L2.St} {vs : List Nat} : wipe (wipe σ vs) vs = wipe σ vs := by
  apply List.ext_getElem?
  intro j
  rw [wipe_get, wipe_get]
  by_cases hj : j ∈ vs
  · rw [if_pos hj, if_pos hj]; cases σ[j]? <;> rfl
  · rw [if_neg hj, if_neg hj]
/-- what the slots of P hold -/
def RelP (K : PySem.W.Frag) (ms : List Addr) (H : Hp) (P : Nat → Prop) (env : Env') (σ : L2.St) : Prop :=
  env.length = σ.length ∧ ∀ (i : Nat) (d : D), P i → env[i]? = some (some d) → ∃ v, σ[i]? = some (some v) ∧ RepV K ms H d v
theorem RelP.set {K : PySem.W.Frag} {ms : List Addr} {H : Hp} {P : Nat → Prop} {env : Env'} {σ : L2.St} {i : Nat} {d : D} {v : V} (r : RelP K ms H P env σ) (h : RepV K ms H d v) : RelP K ms H (fun j => P j ∨ j = i) (env.set i (some d)) (σ.set i (some v)) := by
  refine ⟨by simpa using r.1, fun j d' hp hj => ?_⟩
  by_cases e : i = j
  · subst e
    by_cases hi : i < env.length
    · rw [List.getElem?_set_self hi] at hj
      cases hj
      exact ⟨v, by rw [List.getElem?_set_self (by rw [← r.1]; exact hi)], h⟩
    · rw [List.getElem?_eq_none (by simpa using hi)] at hj
      cases hj
  · rw [List.getElem?_set_ne e] at hj ⊢
    exact r.2 j d' (hp.resolve_right fun z => e z.symm) hj
def gsT : List Nat → TGs
  | [] => gNil
  | i :: is => gCons (gName i) (gsT is)
def gT (K : PySem.W.Frag) : Tgt → TG
  | .nm i => gName i
  | .nms is => gTup K is.length (gsT is)
def tgSlots : Tgt → List Nat
  | .nm i => [i]
  | .nms is => is
theorem gsT_ok {K : PySem.W.Frag} {ms : List Addr} {H : Hp} {vs : List Nat} : ∀ {is : List Nat} {l : List D} {ws : List V} {env env' : Env'} {σ : L2.St} {P : Nat → Prop} {Q : L2.St → Hp → Prop}, (∀ i ∈ is, i ∈ vs) → RelP K ms H P env σ → RepL K ms H l ws → setMany is l env = some env' →
    (∀ σ', RelP K ms H (fun j => P j ∨ j ∈ is) env' σ' → wipe σ' vs = wipe σ vs → Q σ' H) → gsT is ws σ H Q
  | [], [], ws, env, env', σ, P, Q, _, r, h, e, hq => by
    cases h
    simp only [setMany, Option.some.injEq] at e
    subst e
    exact ⟨rfl, hq σ ⟨r.1, fun i d hp => r.2 i d (hp.resolve_right (by simp))⟩ rfl⟩
  | [], _ :: _, _, _, _, _, _, _, _, _, _, e, _ => by simp [setMany] at e
  | _ :: _, [], _, _, _, _, _, _, _, _, _, e, _ => by simp [setMany] at e
  | i :: is, d :: l, ws, env, env', σ, P, Q, hv, r, h, e, hq => by
    cases h with
    | cons h1 h2 =>
      simp only [setMany] at e
      refine ⟨_, _, rfl, ?_⟩
      refine gsT_ok (vs := vs) (P := fun j => P j ∨ j = i) (fun j hj => hv j (List.mem_cons_of_mem _ hj)) (r.set h1) h2 e fun σ' r' w' => hq σ' ⟨r'.1, fun j d' hp => r'.2 j d' ?_⟩ ?_
      · rcases hp with hp | hp
        · exact .inl (.inl hp)
        · rcases List.mem_cons.mp hp with z | z
          · exact .inl (.inr z)
          · exact .inr z
      · rw [w', wipe_set (hv i List.mem_cons_self)]
/-- a target takes a value; vs: the block's own slots (wiped ahead) -/
theorem gT_ok {K : PySem.W.Frag} {ms : List Addr} {H : Hp} {tg : Tgt} {d : D} {v : V} {env : Env'} {σ : L2.St} {vs : List Nat} {Qe : Env' → Prop} {Q : L2.St → Hp → Prop} (hvs : vs = [] ∨ vs = tgSlots tg) (r : RelE K ms H env σ) (h : RepV K ms H d v) (w : asgD tg d env Qe)
    (hq : ∀ env' σ', Qe env' → RelE K ms H env' σ' → (vs = tgSlots tg → wipe σ' vs = wipe σ vs) → Q σ' H) : gT K tg v (wipe σ vs) H Q := by
  have r0 : RelP K ms H (fun j => j ∉ vs) env (wipe σ vs) := ⟨by rw [wipe_length]; exact r.1, fun i d' hp he => by
    obtain ⟨u, h1, h2⟩ := r.2 i d' he
    exact ⟨u, by rw [wipe_get, if_neg hp]; exact h1, h2⟩⟩
  cases tg with
  | nm i =>
    have w' : Qe (env.set i (some d)) := by cases d <;> exact w
    refine hq _ _ w' ?_ fun e => ?_
    · have r1 := r0.set (i := i) h
      refine ⟨r1.1, fun j d' hj => r1.2 j d' ?_ hj⟩
      rcases hvs with e | e
      · exact .inl (by rw [e]; simp)
      · by_cases z : j = i
        · exact .inr z
        · exact .inl (by rw [e]; simp [tgSlots, z])
    · rw [wipe_set (by rw [e]; simp [tgSlots]), wipe_wipe]
  | nms is =>
    cases d <;> simp only [asgD] at w
    rename_i l
    obtain ⟨env', e, w⟩ := w
    obtain ⟨a, ws, rfl, sq, rl⟩ := rv_tup' h
    have hlen : l.length = is.length := by
      have : ∀ {is : List Nat} {l : List D} {env : Env'}, setMany is l env = some env' → l.length = is.length := by
        intro is
        induction is with
        | nil => intro l env e; cases l <;> simp [setMany] at e ⊢
        | cons i is ih => intro l env e; cases l with
          | nil => simp [setMany] at e
          | cons d l => simp only [setMany] at e; simp [ih e]
      exact this e
    refine ⟨a, ws, rfl, sq, by rw [← rl.length, hlen], ?_⟩
    refine gsT_ok (vs := is) (fun _ h => h) r0 rl e fun σ' r' wi => hq env' σ' w ?_ fun e' => ?_
    · refine ⟨r'.1, fun j d' hj => r'.2 j d' ?_ hj⟩
      rcases hvs with z | z
      · exact .inl (by rw [z]; simp)
      · by_cases q : j ∈ is
        · exact .inr q
        · exact .inl (by rw [z]; exact q)
    · have e2 : vs = is := e'
      rw [e2, wi, e2, wipe_wipe]
end
end Ev

set_option Elab.async false
set_option linter.all false
set_option maxRecDepth 100000
set_option maxHeartbeats 4000000
/-! Ev4e: what is walked; comprehensions. -/
namespace Ev
open PySem PySem.Spec PyProof.Rows L2 RZ
structure JOk (K : PySem.W.Frag) (ms0 : List Addr) (H0 : Hp) (J : It) (items : List D) (g : Guard) : Prop where
  go : ∀ (ms : List Addr) (st : Store) (H : Hp) (i : Nat), ms0 <+: ms → Keep H0 H → Rel K ms st H → gOk g st → i < items.length → J.go i H
  stop : ∀ (ms : List Addr) (st : Store) (H : Hp), ms0 <+: ms → Keep H0 H → Rel K ms st H → gOk g st → J.stop items.length H
  yld : ∀ (ms : List Addr) (st : Store) (H : Hp) (i : Nat) (x : V) (H' : Hp), ms0 <+: ms → Keep H0 H → Rel K ms st H → gOk g st → i < items.length → J.yld i H x H' → Keep H H' ∧ Rel K ms st H' ∧ ∃ d, items[i]? = some d ∧ RepV K ms H' d x
def RI (K : PySem.W.Frag) (W : WX) (xa : Exc → Addr) (k : IK) (its : List E) : TI := fun σ H Rr => ∃ (ms : List Addr) (st : Store) (env : Env') (Qp : List D → Guard → Store → Prop) (Ex : XPost),
  Rel K ms st H ∧ RelE K ms H env σ ∧ wpEs its env st (fun ds st1 => ∃ l g, itemsD k ds st1 = some (l, g) ∧ Qp l g st1) Ex ∧
  (∀ (l : List D) (g : Guard) (st' : Store) (ms' : List Addr) (H' : Hp) (J : It), Qp l g st' → ms <+: ms' → Keep H H' → Rel K ms' st' H' → JOk K ms' H' J l g → Rr J H') ∧ GetsX K ms H W xa σ Ex
theorem _root_.L2.PI.weak {X : Cx} {tg e : Expr} {t t' : TI} (h : PI X tg e t) (hw : ∀ σ H Q, t' σ H Q → t σ H Q) : PI X tg e t' := ⟨fun pins s σ H R I q => h.run pins s σ H R I (hw _ _ _ q)⟩
section
variable {K : PySem.W.Frag} {ms ms' : List Addr} {st st' : Store} {H H' : Hp}
theorem gOf_ref {n : Nat} {l : List D} {g : Guard} (h : gOk (gOf (.ref n) l ++ g) st) : seqD st (.ref n) = some l := h (n, l) (by simp [gOf])
theorem pre_at (e : ms <+: ms') {n : Nat} {a : Addr} (h : ms[n]? = some a) : ms'[n]? = some a := by rw [pre_get e (rep_lt h)]; exact h
theorem jok_list {n : Nat} {a : Addr} {l : List D} (hm : ms[n]? = some a) : JOk K ms H (Itl K a) l (gOf (.ref n) l) where
  go := fun ms1 st1 H1 i e k R g hi => by
    obtain ⟨b, xs, eb, h1, h2⟩ := R.sqL (v := .ref a) (by simp only [RepV]; exact ⟨a, rfl, pre_at e hm⟩) (gOf_ref (g := []) (by simpa using g))
    cases eb
    obtain ⟨x, hx, _⟩ := pr_get h2 (List.getElem?_eq_getElem hi)
    exact ⟨xs, x, h1, hx⟩
  stop := fun ms1 st1 H1 e k R g => by
    obtain ⟨b, xs, eb, h1, h2⟩ := R.sqL (v := .ref a) (by simp only [RepV]; exact ⟨a, rfl, pre_at e hm⟩) (gOf_ref (g := []) (by simpa using g))
    cases eb
    exact ⟨xs, h1, Nat.le_of_eq h2.length.symm⟩
  yld := fun ms1 st1 H1 i x H2 e k R g hi y => by
    obtain ⟨rfl, y⟩ := y
    obtain ⟨b, xs, eb, h1, h2⟩ := R.sqL (v := .ref a) (by simp only [RepV]; exact ⟨a, rfl, pre_at e hm⟩) (gOf_ref (g := []) (by simpa using g))
    cases eb
    obtain ⟨d, hd, rd⟩ := pr_get' h2 (y xs h1)
    exact ⟨Keep.refl _, R, d, hd, rd⟩
theorem jok_tup {a : Addr} {l : List D} {xs : List V} (hs : SqT K H a xs) (hr : RepL K ms H l xs) : JOk K ms H (Itt K a) l [] where
  go := fun ms1 st1 H1 i e k R g hi => by
    obtain ⟨x, hx, _⟩ := pr_get hr (List.getElem?_eq_getElem hi)
    exact ⟨xs, x, k.sqT hs, hx⟩
  stop := fun ms1 st1 H1 e k R g => ⟨xs, k.sqT hs, Nat.le_of_eq hr.length.symm⟩
  yld := fun ms1 st1 H1 i x H2 e k R g hi y => by
    obtain ⟨rfl, y⟩ := y
    obtain ⟨d, hd, rd⟩ := pr_get' hr (y xs (k.sqT hs))
    exact ⟨Keep.refl _, R, d, hd, rd.keep e k⟩
theorem jok_range {i : Int} {n : Nat} : JOk K ms H (Itr i n) (rangeD i n) [] where
  go := fun ms1 st1 H1 j e k R g hi => by
    have : j < n := by simpa [rangeD] using hi
    exact this
  stop := fun ms1 st1 H1 e k R g => by
    show n ≤ (rangeD i n).length
    simp [rangeD]
  yld := fun ms1 st1 H1 j x H2 e k R g hi y => by
    obtain ⟨rfl, rfl⟩ := y
    have hj : j < n := by simpa [rangeD] using hi
    exact ⟨Keep.refl _, R, .int (i + j), by simp [rangeD, hj], rv_int⟩
theorem len_pair {xs ys : List D} : (pairUp xs ys).length = min xs.length ys.length := by simp [pairUp]
theorem get_pair {xs ys : List D} {i : Nat} {x y : D} (h1 : xs[i]? = some x) (h2 : ys[i]? = some y) : (pairUp xs ys)[i]? = some (.tup [x, y]) := by
  simp only [pairUp, List.getElem?_zipWith, h1, h2]
theorem len_num {xs : List D} : (numUp xs).length = xs.length := by simp [numUp, pairUp]
theorem get_num {xs : List D} {i : Nat} {x : D} (h : xs[i]? = some x) : (numUp xs)[i]? = some (.tup [.int (i : Nat), x]) := by
  have hi := (List.getElem?_eq_some_iff.mp h).1
  exact get_pair (by simp [hi]) h
theorem newPair {st1 : Store} {H1 : Hp} {T : Addr} {d e : D} {x y : V} (R : Rel K ms st1 H1) (hT : H1 T = none) (hd : RepV K ms H1 d x) (he : RepV K ms H1 e y) :
    Keep H1 (upd H1 T (.tup [x, y])) ∧ Rel K ms st1 (upd H1 T (.tup [x, y])) ∧ RepV K ms (upd H1 T (.tup [x, y])) (.tup [d, e]) (.ref T) :=
  ⟨Keep.new hT, R.newTup hT, rv_tup (SqT.of upd_same) (.cons (hd.keep (List.prefix_refl _) (Keep.new hT)) (.cons (he.keep (List.prefix_refl _) (Keep.new hT)) .nil))⟩
theorem jok_enumL {n : Nat} {a : Addr} {l : List D} (hm : ms[n]? = some a) : JOk K ms H (Ite K a) (numUp l) (gOf (.ref n) l) where
  go := fun ms1 st1 H1 i e k R g hi => (jok_list (H := H) hm).go ms1 st1 H1 i e k R g (by rw [len_num] at hi; exact hi)
  stop := fun ms1 st1 H1 e k R g => by rw [len_num]; exact (jok_list (H := H) hm).stop ms1 st1 H1 e k R g
  yld := fun ms1 st1 H1 i x H2 e k R g hi y => by
    obtain ⟨T, w, rfl, hT, rfl, y⟩ := y
    obtain ⟨b, xs, eb, h1, h2⟩ := R.sqL (v := .ref a) (by simp only [RepV]; exact ⟨a, rfl, pre_at e hm⟩) (gOf_ref (g := []) (by simpa using g))
    cases eb
    obtain ⟨d, hd, rd⟩ := pr_get' h2 (y xs h1)
    obtain ⟨q1, q2, q3⟩ := newPair (d := .int (i : Nat)) R hT rv_int rd
    exact ⟨q1, q2, _, get_num hd, q3⟩
theorem jok_enumT {a : Addr} {l : List D} {xs : List V} (hs : SqT K H a xs) (hr : RepL K ms H l xs) : JOk K ms H (ItetU K a xs) (numUp l) [] where
  go := fun ms1 st1 H1 i e k R g hi => ⟨k.sqT hs, by rw [len_num] at hi; rw [← hr.length]; exact hi⟩
  stop := fun ms1 st1 H1 e k R g => ⟨k.sqT hs, by rw [len_num]; exact hr.length.symm⟩
  yld := fun ms1 st1 H1 i x H2 e k R g hi y => by
    obtain ⟨T, w, rfl, hT, rfl, y⟩ := y
    obtain ⟨d, hd, rd⟩ := pr_get' hr y
    obtain ⟨q1, q2, q3⟩ := newPair (d := .int (i : Nat)) R hT rv_int (rd.keep e k)
    exact ⟨q1, q2, _, get_num hd, q3⟩
theorem jok_zipL {n m : Nat} {a b : Addr} {l r : List D} (hm : ms[n]? = some a) (hm2 : ms[m]? = some b) : JOk K ms H (Itz K a b) (pairUp l r) (gOf (.ref n) l ++ gOf (.ref m) r) where
  go := fun ms1 st1 H1 i e k R g hi => by
    rw [len_pair] at hi
    obtain ⟨c, xs, ec, h1, h2⟩ := R.sqL (v := .ref a) (by simp only [RepV]; exact ⟨a, rfl, pre_at e hm⟩) (gOf_ref g)
    obtain ⟨c2, ys, ec2, h3, h4⟩ := R.sqL (v := .ref b) (by simp only [RepV]; exact ⟨b, rfl, pre_at e hm2⟩) (show seqD st1 (.ref m) = some r from g (m, r) (by simp [gOf]))
    cases ec; cases ec2
    obtain ⟨x, hx, _⟩ := pr_get h2 (List.getElem?_eq_getElem (show i < l.length by omega))
    obtain ⟨y, hy, _⟩ := pr_get h4 (List.getElem?_eq_getElem (show i < r.length by omega))
    exact ⟨xs, ys, x, y, h1, h3, hx, hy⟩
  stop := fun ms1 st1 H1 e k R g => by
    rw [len_pair]
    obtain ⟨c, xs, ec, h1, h2⟩ := R.sqL (v := .ref a) (by simp only [RepV]; exact ⟨a, rfl, pre_at e hm⟩) (gOf_ref g)
    obtain ⟨c2, ys, ec2, h3, h4⟩ := R.sqL (v := .ref b) (by simp only [RepV]; exact ⟨b, rfl, pre_at e hm2⟩) (show seqD st1 (.ref m) = some r from g (m, r) (by simp [gOf]))
    cases ec; cases ec2
    have e1 := h2.length
    have e2 := h4.length
    exact ⟨xs, ys, h1, h3, by rw [Nat.min_def]; split <;> omega⟩
  yld := fun ms1 st1 H1 i x H2 e k R g hi y => by
    obtain ⟨T, u, w, rfl, hT, rfl, y1, y2⟩ := y
    obtain ⟨c, xs, ec, h1, h2⟩ := R.sqL (v := .ref a) (by simp only [RepV]; exact ⟨a, rfl, pre_at e hm⟩) (gOf_ref g)
    obtain ⟨c2, ys, ec2, h3, h4⟩ := R.sqL (v := .ref b) (by simp only [RepV]; exact ⟨b, rfl, pre_at e hm2⟩) (show seqD st1 (.ref m) = some r from g (m, r) (by simp [gOf]))
    cases ec; cases ec2
    obtain ⟨d, hd, rd⟩ := pr_get' h2 (y1 xs h1)
    obtain ⟨f, hf, rf⟩ := pr_get' h4 (y2 ys h3)
    obtain ⟨q1, q2, q3⟩ := newPair R hT rd rf
    exact ⟨q1, q2, _, get_pair hd hf, q3⟩
theorem jok_zipT {a b : Addr} {l r : List D} {xs ys : List V} (hs : SqT K H a xs) (hr : RepL K ms H l xs) (hs2 : SqT K H b ys) (hr2 : RepL K ms H r ys) : JOk K ms H (ItzT K a b) (pairUp l r) [] where
  go := fun ms1 st1 H1 i e k R g hi => by
    rw [len_pair] at hi
    obtain ⟨x, hx, _⟩ := pr_get hr (List.getElem?_eq_getElem (show i < l.length by omega))
    obtain ⟨y, hy, _⟩ := pr_get hr2 (List.getElem?_eq_getElem (show i < r.length by omega))
    exact ⟨xs, ys, x, y, k.sqT hs, k.sqT hs2, hx, hy⟩
  stop := fun ms1 st1 H1 e k R g => by
    rw [len_pair]
    have e1 := hr.length
    have e2 := hr2.length
    exact ⟨xs, ys, k.sqT hs, k.sqT hs2, by rw [Nat.min_def]; split <;> omega⟩
  yld := fun ms1 st1 H1 i x H2 e k R g hi y => by
    obtain ⟨T, u, w, rfl, hT, rfl, y1, y2⟩ := y
    obtain ⟨d, hd, rd⟩ := pr_get' hr (y1 xs (k.sqT hs))
    obtain ⟨f, hf, rf⟩ := pr_get' hr2 (y2 ys (k.sqT hs2))
    obtain ⟨q1, q2, q3⟩ := newPair R hT (rd.keep e k) (rf.keep e k)
    exact ⟨q1, q2, _, get_pair hd hf, q3⟩
end
section
variable {X : Cx} {W : WX} {xa : Exc → Addr} {e a b : E} {x y tg : Expr} {pos p tpos : Pos} {elts : List Expr} {kk : Nat}
theorem ri_seq (ha : PE X x (RE X.K W xa a)) : PI X tg x (RI X.K W xa .seq [a]) := (pi_seq ha).weak fun σ H Q q => by
  obtain ⟨ms, st, env, Qp, Ex, R, RE', w, g, gx⟩ := q
  simp only [wpEs] at w
  refine ⟨ms, st, env, _, Ex, R, RE', w, fun d st1 ms1 v H1 q1 e1 k1 R1 hd => ?_, gx⟩
  obtain ⟨l, gd, hi, q2⟩ := q1
  simp only [itemsD, Option.map_eq_some_iff, Prod.mk.injEq] at hi
  obtain ⟨l', hl, rfl, rfl⟩ := hi
  cases d with
  | tup l2 =>
    cases hl
    obtain ⟨c, xs, rfl, sq, rl⟩ := rv_tup' hd
    exact ⟨c, xs, rfl, .inr ⟨sq, g _ _ st1 ms1 H1 _ q2 e1 k1 R1 (jok_tup sq rl)⟩⟩
  | ref n =>
    obtain ⟨c, xs, rfl, sq, rl⟩ := R1.sqL hd hl
    obtain ⟨c', ec, hm⟩ := rv_ref hd
    cases ec
    exact ⟨c, xs, rfl, .inl ⟨sq, g l' _ st1 ms1 H1 _ q2 e1 k1 R1 (jok_list hm)⟩⟩
  | _ => simp [seqD] at hl
theorem ri_range1 (hg : Gl X "range") (hm : X.mg "range" = none) (ha : PE X x (RE X.K W xa a)) (hns : ∀ v p, x ≠ .Starred v p) : PI X tg (.Call (.Name "range" p) [x] [] pos) (RI X.K W xa .range1 [a]) :=
  (pi_range1 hg hm (ra_cons ha ra_nil (noStar_cons hns)) (noStar_cons hns)).weak fun σ H Q q => by
    obtain ⟨ms, st, env, Qp, Ex, R, RE', w, g, gx⟩ := q
    refine ⟨ms, st, env, _, Ex, R, RE', w, fun ds st1 ms1 vs H1 hl q1 e1 k1 R1 hds => ?_, gx⟩
    obtain ⟨l, gd, hi, q2⟩ := q1
    match ds, hds, hi with
    | [.int j], hds, hi =>
      simp only [itemsD] at hi
      split at hi
      · rename_i c
        cases hi
        obtain ⟨v, rfl, rv⟩ := one_rep hds
        cases int_rep rv
        have hline : (line : Nat) = 1000000 := rfl
        exact ⟨j, rfl, by omega, by omega, g _ _ st1 ms1 H1 _ q2 e1 k1 R1 jok_range⟩
      · cases hi
theorem ri_range2 (hg : Gl X "range") (hm : X.mg "range" = none) (ha : PE X x (RE X.K W xa a)) (hb : PE X y (RE X.K W xa b)) (hns : ∀ v p, x ≠ .Starred v p) (hns2 : ∀ v p, y ≠ .Starred v p) : PI X tg (.Call (.Name "range" p) [x, y] [] pos) (RI X.K W xa .range2 [a, b]) :=
  (pi_range2 hg hm (ra_cons ha (ra_cons hb ra_nil (noStar_cons hns2)) (noStar_cons hns)) (by rw [noStar_cons hns, noStar_cons hns2]; rfl) (noStar_cons hns2)).weak fun σ H Q q => by
    obtain ⟨ms, st, env, Qp, Ex, R, RE', w, g, gx⟩ := q
    refine ⟨ms, st, env, _, Ex, R, RE', w, fun ds st1 ms1 vs H1 hl q1 e1 k1 R1 hds => ?_, gx⟩
    obtain ⟨l, gd, hi, q2⟩ := q1
    match ds, hds, hi with
    | [.int i, .int j], hds, hi =>
      simp only [itemsD] at hi
      split at hi
      · rename_i c
        cases hi
        obtain ⟨v, u, rfl, rv, ru⟩ := two_rep hds
        cases int_rep rv
        cases int_rep ru
        have hline : (line : Nat) = 1000000 := rfl
        exact ⟨i, j, rfl, ⟨by omega, by omega, by omega, by omega⟩, g _ _ st1 ms1 H1 _ q2 e1 k1 R1 jok_range⟩
      · cases hi
theorem ri_enum (hg : Gl X "enumerate") (hm : X.mg "enumerate" = none) (ha : PE X x (RE X.K W xa a)) (hns : ∀ v p, x ≠ .Starred v p) : PI X (.Tuple elts kk tpos) (.Call (.Name "enumerate" p) [x] [] pos) (RI X.K W xa .enum [a]) :=
  (pi_enumA hg hm (ra_cons ha ra_nil (noStar_cons hns)) (noStar_cons hns)).weak fun σ H Q q => by
    obtain ⟨ms, st, env, Qp, Ex, R, RE', w, g, gx⟩ := q
    refine ⟨ms, st, env, _, Ex, R, RE', w, fun ds st1 ms1 vs H1 hl q1 e1 k1 R1 hds => ?_, gx⟩
    obtain ⟨l, gd, hi, q2⟩ := q1
    match ds, hds, hi with
    | [d], hds, hi =>
      simp only [itemsD, Option.map_eq_some_iff, Prod.mk.injEq] at hi
      obtain ⟨l', hl', rfl, rfl⟩ := hi
      obtain ⟨v, rfl, hd⟩ := one_rep hds
      cases d with
      | tup l2 =>
        cases hl'
        obtain ⟨c, xs, rfl, sq, rl⟩ := rv_tup' hd
        exact ⟨c, xs, rfl, .inr ⟨sq, g _ _ st1 ms1 H1 _ q2 e1 k1 R1 (jok_enumT sq rl)⟩⟩
      | ref n =>
        obtain ⟨c, xs, rfl, sq, rl⟩ := R1.sqL hd hl'
        obtain ⟨c', ec, hm'⟩ := rv_ref hd
        cases ec
        exact ⟨c, xs, rfl, .inl ⟨sq, g _ _ st1 ms1 H1 _ q2 e1 k1 R1 (jok_enumL hm')⟩⟩
      | _ => simp [seqD] at hl'
theorem ri_zip (hg : Gl X "zip") (hm : X.mg "zip" = none) (ha : PE X x (RE X.K W xa a)) (hb : PE X y (RE X.K W xa b)) (hns : ∀ v p, x ≠ .Starred v p) (hns2 : ∀ v p, y ≠ .Starred v p) : PI X (.Tuple elts kk tpos) (.Call (.Name "zip" p) [x, y] [] pos) (RI X.K W xa .zip [a, b]) :=
  (pi_zipA hg hm (ra_cons ha (ra_cons hb ra_nil (noStar_cons hns2)) (noStar_cons hns)) (noStar_cons hns) (by rw [noStar_cons hns2]; rfl)).weak fun σ H Q q => by
    obtain ⟨ms, st, env, Qp, Ex, R, RE', w, g, gx⟩ := q
    refine ⟨ms, st, env, _, Ex, R, RE', w, fun ds st1 ms1 vs H1 hl q1 e1 k1 R1 hds => ?_, gx⟩
    obtain ⟨l, gd, hi, q2⟩ := q1
    match ds, hds, hi with
    | [d, f], hds, hi =>
      simp only [itemsD] at hi
      split at hi
      · rename_i sk
        simp only [Option.bind_eq_some_iff, Option.map_eq_some_iff, Prod.mk.injEq] at hi
        obtain ⟨l1, h1, r1, h2, rfl, rfl⟩ := hi
        obtain ⟨v, u, rfl, hd, hf⟩ := two_rep hds
        cases d <;> cases f <;> first | (simp [sameKind] at sk; done) | skip
        · cases h1; cases h2
          obtain ⟨c, xs, rfl, sq, rl⟩ := rv_tup' hd
          obtain ⟨c2, ys, rfl, sq2, rl2⟩ := rv_tup' hf
          exact ⟨c, c2, xs, ys, rfl, .inr ⟨sq, sq2, g _ _ st1 ms1 H1 _ q2 e1 k1 R1 (jok_zipT sq rl sq2 rl2)⟩⟩
        · obtain ⟨c, xs, rfl, sq, rl⟩ := R1.sqL hd h1
          obtain ⟨c2, ys, rfl, sq2, rl2⟩ := R1.sqL hf h2
          obtain ⟨c', ec, hm'⟩ := rv_ref hd
          cases ec
          obtain ⟨c3, ec, hm2⟩ := rv_ref hf
          cases ec
          exact ⟨c, c2, xs, ys, rfl, .inl ⟨sq, sq2, g _ _ st1 ms1 H1 _ q2 e1 k1 R1 (jok_zipL hm' hm2)⟩⟩
      · cases hi
end
end Ev

set_option Elab.async false
set_option linter.all false
set_option maxRecDepth 100000
set_option maxHeartbeats 4000000
/-! Ev4f: comprehensions. -/
namespace Ev
open PySem PySem.Spec PyProof.Rows L2
abbrev W0 : WX := fun _ _ _ _ => False
def RC (K : PySem.W.Frag) (W : WX) (xa : Exc → Addr) (e : Option E) : TT := fun σ H Q => ∃ (ms : List Addr) (st : Store) (env : Env') (Qp : Bool → Store → Prop) (Ex : XPost),
  Rel K ms st H ∧ RelE K ms H env σ ∧ wpC e env st Qp Ex ∧ (∀ (r : Bool) (st' : Store) (ms' : List Addr) (H' : Hp), Qp r st' → ms <+: ms' → Keep H H' → Rel K ms' st' H' → Q r H') ∧ GetsX K ms H W xa σ Ex
section
variable {X : Cx} {W : WX} {xa : Exc → Addr} {e a b : E} {x y : Expr} {pos p : Pos}
theorem _root_.L2.PTs.weak {e : List Expr} {t t' : TT} (h : PTs X e t) (hw : ∀ σ H Q, t' σ H Q → t σ H Q) : PTs X e t' := ⟨fun pins s σ H Q I q => h.run pins s σ H Q I (hw _ _ _ q)⟩
theorem rc_none : PTs X [] (RC X.K W xa none) := pts_nil.weak fun σ H Q q => by
  obtain ⟨ms, st, env, Qp, Ex, R, RE', w, g, gx⟩ := q
  simp only [wpC] at w
  exact g true st ms H w (List.prefix_refl _) (Keep.refl _) R
theorem rc_some (ha : Snd X W xa a x) : PTs X [x] (RC X.K W xa (some a)) := (pts_one ha.pt).weak fun σ H Q q => by
  obtain ⟨ms, st, env, Qp, Ex, R, RE', w, g, gx⟩ := q
  simp only [wpC] at w
  refine ⟨ms, st, env, _, Ex, R, RE', w, fun d st1 ms1 H1 q1 e1 k1 R1 hd => ?_, gx⟩
  obtain ⟨r, hr, q2⟩ := q1
  exact ⟨r, hr, g r st1 ms1 H1 q2 e1 k1 R1⟩
theorem snd_lc {tg : Tgt} {k : IK} {its : List E} {cond : Option E} {elt : E} {xt xi xe : Expr} {ifs : List Expr} {scope : Scope} {own : List (Str × Nat)} (hc : X.calm = true) (hN : X.N.Nodup) (hi : PI X xt xi (RI X.K W xa k its)) (ok : BlkOk X.N X.env.scope scope own) (hown : own.map (·.2) = tgSlots tg)
    (hg : ∀ (s : Shared) (H : Hp) (C : Addr) (cl : List (Str × Addr)) (fp : List Addr), PG (X.blk s H scope (compEnvC scope cl C X.env) fp) xt (gT X.K tg))
    (ht : ∀ (s : Shared) (H : Hp) (C : Addr) (cl : List (Str × Addr)) (fp : List Addr), PTs (X.blk s H scope (compEnvC scope cl C X.env) fp) ifs (RC X.K W0 xa cond))
    (he : ∀ (s : Shared) (H : Hp) (C : Addr) (cl : List (Str × Addr)) (fp : List Addr), PE (X.blk s H scope (compEnvC scope cl C X.env) fp) xe (RE X.K W0 xa elt)) (hs : ∀ x, foldedSetIterable xi X.env x = pure x) :
    PE X (.ListComp xe [⟨xt, xi, ifs, 0⟩] scope pos) (RE X.K W xa (.lc tg k its cond elt)) ∧
    ∀ {i : Nat} {y : Str} {py spos : Pos} (hy : X.N[i]? = some y) (hyl : X.env.scope.names.lookup y = some .local) (hsw : swapsWith (.ListComp xe [⟨xt, xi, ifs, 0⟩] scope pos) (some (.Name y py)) spos.line X.env = pure true),
      PS X (.Assign [.Name y py] (.ListComp xe [⟨xt, xi, ifs, 0⟩] scope pos) spos) (tAsg (RE X.K W xa (.lc tg k its cond elt)) (gName i)) := by
  have rd : ∀ (σ : L2.St) (H : Hp) (Q : VK), RE X.K W xa (.lc tg k its cond elt) σ H Q → tLc (RI X.K W xa k its) (gT X.K tg) (RC X.K W0 xa cond) (RE X.K W0 xa elt) (own.map (·.2)) σ H Q := by
    intro σ H Q q
    obtain ⟨ms, st, env, Qp, Ex, R, RE', w, g, gx⟩ := q
    simp only [wpE] at w
    refine ⟨ms, st, env, (fun l gd st1 => lcN st1.length gd _ (Qp (.ref st1.length)) l (st1 ++ [.lst []])), Ex, R, RE', w, fun l gd st1 ms1 H1 J q1 e1 k1 R1 JO => ?_, gx⟩
    intro D hD
    have q1 : lcN st1.length gd _ (Qp (.ref st1.length)) l (st1 ++ [.lst []]) := q1
    have R2 : Rel X.K (ms1 ++ [D]) (st1 ++ [.lst []]) (upd H1 D (.lst [])) := R1.newLst hD .nil
    have e12 : ms1 <+: ms1 ++ [D] := List.prefix_append _ _
    have hat : ∀ {ms2 : List Addr}, ms1 ++ [D] <+: ms2 → ms2[st1.length]? = some D := fun e => by
      refine pre_at e ?_
      rw [← R1.len]; simp
    generalize hstep : (fun (x : Ev.D) (next : Store → Prop) (st2 : Store) => asgD tg x env fun env' => wpC cond env' st2 (fun r st3 => (r = true → wpE elt env' st3 (fun y st4 => ∃ acc, st4[st1.length]? = some (MO.lst acc) ∧ acc.length < line ∧ next (st4.set st1.length (MO.lst (acc ++ [y])))) (fun _ _ => False)) ∧ (r = false → next st3)) (fun _ _ => False)) = step at q1
    refine ⟨fun i m H2 => m = l.length - i ∧ i ≤ l.length ∧ ∃ ms2 st2, ms1 ++ [D] <+: ms2 ∧ Keep (upd H1 D (.lst [])) H2 ∧ Rel X.K ms2 st2 H2 ∧ lcN st1.length gd step (Qp (.ref st1.length)) (l.drop i) st2,
      ⟨l.length, by simp, Nat.zero_le _, ms1 ++ [D], st1 ++ [.lst []], List.prefix_refl _, Keep.refl _, R2, by rw [List.drop_zero]; exact q1⟩, ?_⟩
    rintro i m H2 ⟨rfl, hi, ms2, st2, e2, k2, R3, q2⟩
    have k12 : Keep H1 H2 := (Keep.new hD).trans k2
    have e13 : ms1 <+: ms2 := e12.trans e2
    by_cases hlt : i < l.length
    · right
      rw [List.drop_eq_getElem_cons hlt] at q2
      obtain ⟨gok, q3⟩ := q2
      refine ⟨JO.go ms2 st2 H2 i e13 k12 R3 gok hlt, fun H' => l.length - (i + 1) = l.length - (i + 1) ∧ i + 1 ≤ l.length ∧ ∃ ms3 st3, ms1 ++ [D] <+: ms3 ∧ Keep (upd H1 D (.lst [])) H' ∧ Rel X.K ms3 st3 H' ∧ lcN st1.length gd step (Qp (.ref st1.length)) (l.drop (i + 1)) st3, fun H' n => ⟨_, by omega, n⟩, fun x H3 yl => ?_⟩
      obtain ⟨k3, R4, d, hd, rd⟩ := JO.yld ms2 st2 H2 i x H3 e13 k12 R3 gok hlt yl
      rw [List.getElem?_eq_getElem hlt] at hd
      cases hd
      rw [← hstep] at q3
      rw [hown]
      have kk : Keep H H3 := k1.trans (k12.trans k3)
      refine gT_ok (.inr rfl) (RE'.keep (e1.trans e13) kk) rd q3 fun env' σ' w' re hw => ⟨hw rfl, ?_⟩
      refine ⟨ms2, st2, env', _, _, R4, re, w', fun r st3 ms3 H4 q4 e4 k4 R5 => ?_, fun _ _ _ _ z => z.elim⟩
      have e24 : ms1 ++ [D] <+: ms3 := e2.trans e4
      cases r with
      | false => exact iteF ⟨rfl, hlt, ms3, st3, e24, (k2.trans k3).trans k4, R5, by rw [← hstep]; exact q4.2 rfl⟩
      | true =>
        refine iteT ⟨ms3, st3, env', _, _, R5, re.keep e4 k4, q4.1 rfl, fun y st4 ms4 v H5 q5 e5 k5 R6 hv => ?_, fun _ _ _ _ z => z.elim⟩
        obtain ⟨acc, ha, hz, nx⟩ := q5
        have hD4 := hat (e24.trans e5)
        obtain ⟨us, hu, ru⟩ := R6.lst hD4 ha
        have hl := lineS
        refine ⟨us, hu, by rw [← ru.length]; exact Nat.lt_of_lt_of_le hz hl, rfl, hlt, ms4, _, e24.trans e5, (((k2.trans k3).trans k4).trans k5).trans (Keep.lst hu), R6.set hD4 ha hu (Paired.snoc ru hv), by rw [← hstep]; exact nx⟩
    · left
      have hi' : i = l.length := by omega
      subst hi'
      rw [List.drop_length] at q2
      obtain ⟨gok, q3⟩ := q2
      exact ⟨JO.stop ms2 st2 H2 e13 k12 R3 gok, g _ st2 ms2 _ H2 q3 (e1.trans e13) (k1.trans k12) R3 (by simp only [RepV]; exact ⟨D, rfl, hat e2⟩)⟩
  refine ⟨(pe_lc hc hN hi ok hg ht he hs).weak rd, fun hy hyl hsw => ?_⟩
  have h := ps_setLc hc hN hy hyl hsw hi ok hg ht he hs
  exact ⟨fun pins s σ H N I q => h.run pins s σ H N I (rd _ _ _ q)⟩
end
end Ev

set_option Elab.async false
set_option linter.all false
set_option maxRecDepth 100000
set_option maxHeartbeats 8000000
/-! Ev5: the look (tr) at a program's expression beside the small language's, and: what passes the look does what is wanted. -/
namespace Ev
open PySem PySem.Spec PyProof.Rows L2

def notDbg (x : Str) : Bool := !(x == ("__debug__" : Str)) && !(x == ("__classdict__" : Str))
def visB (sc : Scope) (x : Str) : Bool := match sc.names.lookup x with
  | some .local => true
  | some .cell => true
  | some .free => true
  | _ => false
def gloB (sc : Scope) (x : Str) : Bool := match sc.names.lookup x with
  | some .globalImplicit => true
  | _ => false
def nmB (N : List Str) (fn : Str → Bool) (sc : Scope) (i : Nat) (x : Str) : Bool := decide (N[i]? = some x) && match sc.names.lookup x with
  | some .local => true
  | some .cell => fn x
  | _ => false
def nmsB (N : List Str) (fn : Str → Bool) (sc : Scope) : List Nat → List Expr → Bool
  | [], [] => true
  | i :: is, .Name x _ :: xs => nmB N fn sc i x && nmsB N fn sc is xs
  | _, _ => false
def tgB (N : List Str) (fn : Str → Bool) (sc : Scope) : Tgt → Expr → Bool
  | .nm i, .Name x _ => nmB N fn sc i x
  | .nms is, .Tuple xs _ _ => nmsB N fn sc is xs
  | _, _ => false
def isNms : Tgt → Bool
  | .nms _ => true
  | _ => false
def tgOwn (N : List Str) (tg : Tgt) : List (Str × Nat) := (tgSlots tg).filterMap fun i => (N[i]?).map fun x => (x, i)
def constB : D → Const → Bool
  | .int i, .int j => decide (i = j)
  | .bl a, .bool b => a == b
  | .non, .none => true
  | .str x, .str y => decide (x = y)
  | _, _ => false
def primB : Prim → Option (Str × String × Bool)
  | .len => some ("len", "len", false)
  | .tuple => some ("tuple", "tuple", true)
  | .list => some ("list", "list", true)
  | .sum => some ("sum", "sum", false)
  | .max => some ("max", "max", false)
  | .min => some ("min", "min", false)
  | .min2 => some ("min", "min", false)
  | .abs => some ("abs", "abs", false)
  | .int => some ("int", "int", true)
  | .all => some ("all", "all", false)
  | .any => some ("any", "any", false)
  | _ => none
def tyB (sc : Scope) : Ty → Expr → Bool
  | .int, .Name y _ => decide (y = "int") && gloB sc y
  | .bool, .Name y _ => decide (y = "bool") && gloB sc y
  | .tuple, .Name y _ => decide (y = "tuple") && gloB sc y
  | .list, .Name y _ => decide (y = "list") && gloB sc y
  | .str, .Name y _ => decide (y = "str") && gloB sc y
  | .listtuple, .Tuple [.Name y _, .Name z _] _ _ => decide (y = "list") && decide (z = "tuple") && gloB sc y && gloB sc z
  | .boolstr, .Tuple [.Name y _, .Name z _] _ _ => decide (y = "bool") && decide (z = "str") && gloB sc y && gloB sc z
  | _, _ => false
def mthB : Mth → Str
  | .append => "append"
  | .pop => "pop"
  | .popat => "pop"
  | .extend => "extend"
def plainIxB : Expr → Bool
  | .Slice _ _ _ _ => false
  | _ => true
def nameB : Expr → Bool
  | .Name _ _ => true
  | .Subscript _ _ _ => true
  | _ => false
mutual
def trE (N : List Str) : E → Scope → Expr → Bool
  | .var i, sc, x => match x with
    | .Name y _ => decide (N[i]? = some y) && visB sc y && notDbg y
    | _ => false
  | .k d, _, x => match x with
    | .Constant c _ _ => constB d c
    | _ => false
  | .glob n _, sc, x => match x with
    | .Name y _ => decide (y = n) && gloB sc y && notDbg y
    | _ => false
  | .bin o a b, sc, x => match x with
    | .BinOp l op r _ => decide (opB op = some o) && trE N a sc l && trE N b sc r
    | _ => false
  | .cmp o a b, sc, x => match x with
    | .Compare l [op] [r] _ => decide (opC op = some o) && !behindInMarks op r && trE N a sc l && trE N b sc r
    | _ => false
  | .chain o p a b c, sc, x => match x with
    | .Compare l [op, op'] [m, r] _ => decide (opC op = some o) && decide (opC op' = some p) && !lastMarks [op, op'] [m, r] && trE N a sc l && trE N b sc m && trE N c sc r
    | _ => false
  | .isN a, sc, x => match x with
    | .Compare l [.Is] [.Constant .none _ _] _ => trE N a sc l
    | _ => false
  | .notN a, sc, x => match x with
    | .Compare l [.IsNot] [.Constant .none _ _] _ => trE N a sc l
    | _ => false
  | .and a b, sc, x => match x with
    | .BoolOp .And (l :: m :: r) p => trE N a sc l && trE N b sc (match r with | [] => m | _ :: _ => .BoolOp .And (m :: r) p)
    | _ => false
  | .or a b, sc, x => match x with
    | .BoolOp .Or (l :: m :: r) p => trE N a sc l && trE N b sc (match r with | [] => m | _ :: _ => .BoolOp .Or (m :: r) p)
    | _ => false
  | .not a, sc, x => match x with
    | .UnaryOp .Not l _ => trE N a sc l
    | _ => false
  | .neg a, sc, x => match x with
    | .UnaryOp .USub l _ => trE N a sc l
    | _ => false
  | .ife c a b, sc, x => match x with
    | .IfExp t l r _ => trE N c sc t && trE N a sc l && trE N b sc r
    | _ => false
  | .tup es, sc, x => match x with
    | .Tuple xs _ _ => trEs N es sc xs
    | _ => false
  | .lst es, sc, x => match x with
    | .List xs _ => trEs N es sc xs
    | _ => false
  | .ix a b, sc, x => match x with
    | .Subscript l r _ => plainIxB r && trE N a sc l && trE N b sc r
    | _ => false
  | .sl a lo hi, sc, x => match x with
    | .Subscript l (.Slice xl xh none _) _ => trE N a sc l && trO N lo sc xl && trO N hi sc xh
    | _ => false
  | .rev a, sc, x => match x with
    | .Subscript l (.Slice none none (some (.UnaryOp .USub (.Constant (.int 1) _ _) _)) _) _ => trE N a sc l
    | _ => false
  | .call f es, sc, x => match x with
    | .Call (.Name y _) xs [] _ => decide (y = f.name) && gloB sc y && notDbg y && decide (es.length = f.ps.length) && trEs N es sc xs
    | _ => false
  | .callk f es ks perm kes, sc, x => match x with
    | .Call (.Name y _) xs kws _ => decide (y = f.name) && gloB sc y && notDbg y && decide (kws.map (·.arg) = ks.map some) && decide (kes.length = ks.length) && perm.all (fun i => decide (i < kes.length)) && decide (es.length + perm.length = f.ps.length) && trEs N es sc xs && trEs N kes sc (kws.map (·.value))
    | _ => false
  | .prim p es, sc, x => match p with
    | .isi t => (match x with
      | .Call (.Name y _) [l, ty] [] _ => decide (y = "isinstance") && gloB sc y && tyB sc t ty && trEs N es sc [l]
      | _ => false)
    | .listrange => (match x with
      | .Call (.Name y _) [.Call (.Name z _) [l] [] _] [] _ => decide (y = "list") && gloB sc y && decide (z = "range") && gloB sc z && trEs N es sc [l]
      | _ => false)
    | p => (match x, primB p with
      | .Call (.Name y _) (l :: xs) [] _, some (n, _, _) => decide (y = n) && gloB sc y && trEs N es sc (l :: xs)
      | _, _ => false)
  | .meth m o es, sc, x => match x with
    | .Call (.Attribute l nm ap) xs [] cp => nameB l && decide (nm = mthB m) && (ap.endLine == cp.line) && decide (xs.length < 30) && trE N o sc l && trEs N es sc xs
    | _ => false
  | .lc tg k its cond elt, sc, x => match x with
    | .ListComp xe [⟨xt, xi, ifs, 0⟩] scope _ => blkC N sc scope (tgOwn N tg) && decide ((tgOwn N tg).map (·.2) = tgSlots tg) && tgB N (fun x => scope.names.lookup x == some .cell) (relS scope sc) tg xt &&
      (match k, xi with
      | .seq, xi => trEs N its sc [xi]
      | .range1, .Call (.Name y _) [l] [] _ => decide (y = "range") && gloB sc y && trEs N its sc [l]
      | .range2, .Call (.Name y _) [l, r] [] _ => decide (y = "range") && gloB sc y && trEs N its sc [l, r]
      | .enum, .Call (.Name y _) [l] [] _ => decide (y = "enumerate") && gloB sc y && isNms tg && trEs N its sc [l]
      | .zip, .Call (.Name y _) [l, r] [] _ => decide (y = "zip") && gloB sc y && isNms tg && trEs N its sc [l, r]
      | _, _ => false) && trC N cond (relS scope sc) ifs && trE N elt (relS scope sc) xe
    | _ => false
  | .tmp e, sc, x => trE N e sc x
def trEs (N : List Str) : List E → Scope → List Expr → Bool
  | [], _, xs => xs.isEmpty
  | e :: es, sc, xs => match xs with
    | x :: xs => trE N e sc x && trEs N es sc xs
    | [] => false
def trO (N : List Str) : Option E → Scope → Option Expr → Bool
  | none, _, x => x.isNone
  | some e, sc, x => match x with
    | some x => trE N e sc x
    | none => false
def trC (N : List Str) : Option E → Scope → List Expr → Bool
  | none, _, xs => xs.isEmpty
  | some e, sc, xs => match xs with
    | [x] => trE N e sc x
    | _ => false
end
/-! ### what must be known of the names -/
section
variable (PF : Fn → Prop) (PK : Fn → Nat → List Str → List Nat → Prop) (PG : Str → Int → Prop)
mutual
def KnE : E → Prop
  | .var _ => True
  | .k _ => True
  | .glob x i => PG x i
  | .bin _ a b => KnE a ∧ KnE b
  | .cmp _ a b => KnE a ∧ KnE b
  | .chain _ _ a b c => KnE a ∧ KnE b ∧ KnE c
  | .isN a => KnE a
  | .notN a => KnE a
  | .and a b => KnE a ∧ KnE b
  | .or a b => KnE a ∧ KnE b
  | .not a => KnE a
  | .neg a => KnE a
  | .ife c a b => KnE c ∧ KnE a ∧ KnE b
  | .tup es => KnEs es
  | .lst es => KnEs es
  | .ix a b => KnE a ∧ KnE b
  | .sl a lo hi => KnE a ∧ KnO lo ∧ KnO hi
  | .rev a => KnE a
  | .call f es => PF f ∧ KnEs es
  | .callk f es ks perm kes => PK f es.length ks perm ∧ KnEs es ∧ KnEs kes
  | .prim _ es => KnEs es
  | .meth _ o es => KnE o ∧ KnEs es
  | .lc _ _ its cond elt => KnEs its ∧ KnO cond ∧ KnE elt
  | .tmp e => KnE e
def KnEs : List E → Prop
  | [] => True
  | e :: es => KnE e ∧ KnEs es
def KnO : Option E → Prop
  | none => True
  | some e => KnE e
end
end
def bltNames : List Str := ["len", "tuple", "list", "sum", "max", "min", "abs", "int", "all", "any", "isinstance", "bool", "str", "range", "enumerate", "zip"]
/-- where X stands, and what is known there -/
structure Ctx (X : Cx) (W : WX) (xa : Exc → Addr) (PF : Fn → Prop) (PK : Fn → Nat → List Str → List Nat → Prop) (PG : Str → Int → Prop) : Prop where
  hN : X.N.Nodup
  calm : X.calm = true
  units : X.A.units + 65 < cLine
  tk : Takes X W
  kind : X.env.scope.kind = .function
  free : ∀ x ∈ bltNames, X.mg x = none
  fn : ∀ f, PF f → FnK X xa f
  fk : ∀ f n ks perm, PK f n ks perm → KwK X xa f n ks perm
  gl : ∀ x i, PG x i → ∃ t, X.mg x = some (.int i t)
end Ev

set_option Elab.async false
set_option linter.all false
set_option maxRecDepth 100000
set_option maxHeartbeats 16000000
/-! Ev5b: what passes the look does what is wanted (expressions). -/
namespace Ev
open PySem PySem.Spec PyProof.Rows L2

theorem noStar_of (N : List Str) : ∀ (e : E) (sc : Scope) (v : Expr) (p : Pos), trE N e sc (.Starred v p) = false
  | .tmp e, sc, v, p => by simp only [trE]; exact noStar_of N e sc v p
  | .prim q es, sc, v, p => by cases q <;> simp [trE]
  | .var _, _, _, _ | .k _, _, _, _ | .glob _ _, _, _, _ | .bin _ _ _, _, _, _ | .cmp _ _ _, _, _, _ | .chain _ _ _ _ _, _, _, _ | .isN _, _, _, _ | .notN _, _, _, _ => by simp [trE]
  | .and _ _, _, _, _ | .or _ _, _, _, _ | .not _, _, _, _ | .neg _, _, _, _ | .ife _ _ _, _, _, _ | .tup _, _, _, _ | .lst _, _, _, _ | .ix _ _, _, _, _ | .sl _ _ _, _, _, _ | .rev _, _, _, _ => by simp [trE]
  | .call _ _, _, _, _ | .callk _ _ _ _ _, _, _, _ | .meth _ _ _, _, _, _ | .lc _ _ _ _ _, _, _, _ => by simp [trE]
theorem noSet_of (N : List Str) : ∀ (e : E) (sc : Scope) (v : List Expr) (k : Nat) (p : Pos), trE N e sc (.Set v k p) = false
  | .tmp e, sc, v, k, p => by simp only [trE]; exact noSet_of N e sc v k p
  | .prim q es, sc, v, k, p => by cases q <;> simp [trE]
  | .var _, _, _, _, _ | .k _, _, _, _, _ | .glob _ _, _, _, _, _ | .bin _ _ _, _, _, _, _ | .cmp _ _ _, _, _, _, _ | .chain _ _ _ _ _, _, _, _, _ | .isN _, _, _, _, _ | .notN _, _, _, _, _ => by simp [trE]
  | .and _ _, _, _, _, _ | .or _ _, _, _, _, _ | .not _, _, _, _, _ | .neg _, _, _, _, _ | .ife _ _ _, _, _, _, _ | .tup _, _, _, _, _ | .lst _, _, _, _, _ | .ix _ _, _, _, _, _ | .sl _ _ _, _, _, _, _ | .rev _, _, _, _, _ => by simp [trE]
  | .call _ _, _, _, _, _ | .callk _ _ _ _ _, _, _, _, _ | .meth _ _ _, _, _, _, _ | .lc _ _ _ _ _, _, _, _, _ => by simp [trE]
theorem notStar {N : List Str} {e : E} {sc : Scope} {x : Expr} (h : trE N e sc x = true) : ∀ v p, x ≠ .Starred v p := fun v p q => by
  subst q
  rw [noStar_of] at h
  cases h
theorem notSet {N : List Str} {e : E} {sc : Scope} {x : Expr} (h : trE N e sc x = true) : ∀ v k p, x ≠ .Set v k p := fun v k p q => by
  subst q
  rw [noSet_of] at h
  cases h
theorem fold_of {x : Expr} {env : PySem.Env} (h : ∀ v k p, x ≠ .Set v k p) : ∀ v, foldedSetIterable x env v = pure v := fun v => by
  cases x <;> first | rfl | exact absurd rfl (h _ _ _)
theorem plain_of {y : Expr} (h : plainIxB y = true) : PlainIx y := by
  cases y <;> first | (intro o i; rfl) | cases h
theorem base_of {x : Expr} {nm : Str} {env : PySem.Env} (h : nameB x = true) : attributeBase x nm env (eval x env) = eval x env := by
  cases x <;> first | rfl | cases h
theorem dbg_of {y : Str} (h : notDbg y = true) : (y == ("__debug__" : Str)) = false ∧ (y == ("__classdict__" : Str)) = false := by
  unfold notDbg at h
  simp only [Bool.and_eq_true, Bool.not_eq_true'] at h
  exact h
theorem vis_of {sc : Scope} {y : Str} (h : visB sc y = true) : Vis sc y := by
  unfold visB at h
  split at h
  · exact .inl (by assumption)
  · exact .inr (.inl (by assumption))
  · exact .inr (.inr (by assumption))
  · cases h
section
variable {X : Cx} {W : WX} {xa : Exc → Addr} {sc : Scope}
theorem glo_of (hsc : X.env.scope = sc) {y : Str} (h : gloB sc y = true) : Gl X y := by
  unfold gloB at h
  split at h
  · rename_i q
    show X.env.scope.names.lookup y = some .globalImplicit
    rw [hsc]; exact q
  · cases h
theorem nm_pg {N : List Str} {fn : Str → Bool} {i : Nat} {x : Str} {p : Pos} (hN : X.N.Nodup) (hNe : X.N = N) (hsc : X.env.scope = sc) (hfn : ∀ x, fn x = true → X.fn x = true) (h : nmB N fn sc i x = true) : PG X (.Name x p) (gName i) := by
  unfold nmB at h
  simp only [Bool.and_eq_true, decide_eq_true_eq] at h
  obtain ⟨h1, h2⟩ := h
  split at h2
  · rename_i q
    exact pg_name hN (by rw [hNe]; exact h1) (.inl (by rw [hsc]; exact q)) (.inr (by rw [hsc]; exact q))
  · rename_i q
    exact pg_name hN (by rw [hNe]; exact h1) (.inr (by rw [hsc]; exact q)) (.inl (hfn _ h2))
  · cases h2
theorem nms_pg {N : List Str} {fn : Str → Bool} (hN : X.N.Nodup) (hNe : X.N = N) (hsc : X.env.scope = sc) (hfn : ∀ x, fn x = true → X.fn x = true) : ∀ {is : List Nat} {xs : List Expr}, nmsB N fn sc is xs = true → PGs X xs (gsT is) ∧ (assignEach xs X.env).length = is.length ∧ (assignEach xs X.env).findIdx? (·.1) = none
  | [], [], _ => ⟨pgs_nil, rfl, rfl⟩
  | i :: is, .Name x p :: xs, h => by
    simp only [nmsB, Bool.and_eq_true] at h
    obtain ⟨h1, h2, h3⟩ := nms_pg hN hNe hsc hfn h.2
    refine ⟨pgs_cons (nm_pg hN hNe hsc hfn h.1) h1, ?_, ?_⟩
    · show ((false, assign (.Name x p) X.env) :: assignEach xs X.env).length = _
      simp [h2]
    · show ((false, assign (.Name x p) X.env) :: assignEach xs X.env).findIdx? (·.1) = none
      rw [List.findIdx?_cons]
      simp only [Bool.false_eq_true, if_false]
      rw [h3]; rfl
  | [], _ :: _, h => by simp [nmsB] at h
  | _ :: _, [], h => by simp [nmsB] at h
  | i :: is, x :: xs, h => by
    cases x
    case Name y p =>
      simp only [nmsB, Bool.and_eq_true] at h
      obtain ⟨h1, h2, h3⟩ := nms_pg hN hNe hsc hfn h.2
      refine ⟨pgs_cons (nm_pg hN hNe hsc hfn h.1) h1, ?_, ?_⟩
      · show ((false, assign (.Name y p) X.env) :: assignEach xs X.env).length = _
        simp [h2]
      · show ((false, assign (.Name y p) X.env) :: assignEach xs X.env).findIdx? (·.1) = none
        rw [List.findIdx?_cons]
        simp only [Bool.false_eq_true, if_false]
        rw [h3]; rfl
    all_goals (simp [nmsB] at h)
theorem tg_pg {N : List Str} {fn : Str → Bool} {tg : Tgt} {x : Expr} (hN : X.N.Nodup) (hc : X.calm = true) (hNe : X.N = N) (hsc : X.env.scope = sc) (hfn : ∀ x, fn x = true → X.fn x = true) (h : tgB N fn sc tg x = true) : PG X x (gT X.K tg) := by
  cases tg with
  | nm i =>
    cases x <;> first | (simp [tgB] at h; done) | skip
    exact nm_pg hN hNe hsc hfn h
  | nms is =>
    cases x <;> first | (simp [tgB] at h; done) | skip
    obtain ⟨h1, h2, h3⟩ := nms_pg hN hNe hsc hfn (by simpa [tgB] using h)
    exact pg_tup hc h1 h2 h3
theorem snds_pa {es : List E} {xs : List Expr} (h : Paired (Snd X W xa) es xs) (hns : ∀ x ∈ xs, ∀ v p, x ≠ .Starred v p) : PA X xs (RA X.K W xa es) := by
  induction h with
  | nil => exact ra_nil
  | cons a t ih => exact ra_cons a.pe (ih fun x hx => hns x (List.mem_cons_of_mem _ hx)) (noStar_cons (hns _ List.mem_cons_self))
theorem snds_pk {es : List E} : ∀ {kws : List Keyword}, Paired (Snd X W xa) es (kws.map (·.value)) → PK X kws (RA X.K W xa es) := by
  intro kws
  induction kws generalizing es with
  | nil => intro h; cases h; exact rk_nil
  | cons k kws ih =>
    intro h
    cases h with
    | cons a t =>
      obtain ⟨nm, v, p⟩ := k
      exact rk_cons a.pe (ih t)
theorem bltIn {mg : Str → Option Value} (h : ∀ x ∈ bltNames, mg x = none) {x : Str} (hx : x ∈ bltNames := by decide) : mg x = none := h x hx
end
theorem notStars {N : List Str} {sc : Scope} : ∀ {es : List E} {xs : List Expr}, trEs N es sc xs = true → (∀ x ∈ xs, ∀ v p, x ≠ .Starred v p) ∧ es.length = xs.length
  | [], xs, h => by
    simp only [trEs, List.isEmpty_iff] at h
    subst h
    exact ⟨fun x hx => absurd hx (by simp), rfl⟩
  | e :: es, xs, h => by
    cases xs with
    | nil => simp [trEs] at h
    | cons x xs =>
      simp only [trEs, Bool.and_eq_true] at h
      obtain ⟨h1, h2⟩ := notStars h.2
      refine ⟨fun y hy => ?_, by simp [h2]⟩
      rcases List.mem_cons.mp hy with e' | hy
      · rw [e']; exact notStar h.1
      · exact h1 y hy
/-- the blocks of a comprehension: known as the place around -/
theorem Ctx.blk {X : Cx} {W : WX} {xa : Exc → Addr} {PF : Fn → Prop} {PK : Fn → Nat → List Str → List Nat → Prop} {PG : Str → Int → Prop} (C : Ctx X W xa PF PK PG) {scope : Scope} (hk : scope.kind = .function) (s : Shared) (H : Hp) (c : Addr) (cl : List (Str × Addr)) (fp : List Addr) :
    Ctx (X.blk s H scope (compEnvC scope cl c X.env) fp) W0 xa PF PK PG :=
  ⟨C.hN, C.calm, C.units, takes0, hk, C.free, C.fn, C.fk, C.gl⟩
end Ev

set_option Elab.async false
set_option linter.all false
set_option maxRecDepth 100000
set_option maxHeartbeats 16000000
/-! Ev5c: the theorem for expressions. -/
namespace Ev
open PySem PySem.Spec PyProof.Rows L2
section
variable {xa : Exc → Addr} {PF : Fn → Prop} {PK : Fn → Nat → List Str → List Nat → Prop} {PG : Str → Int → Prop}
theorem prim_sound {X : Cx} {W : WX} {sc : Scope} {p : Prim} {n : Str} {id : String} {ty : Bool} {es : List E} {l : Expr} {xs : List Expr} {pn pos : Pos} (C : Ctx X W xa PF PK PG) (hb : primB p = some (n, id, ty)) (hg : Gl X n) (h : Paired (Snd X W xa) es (l :: xs)) (hns : ∀ x ∈ l :: xs, ∀ v p, x ≠ .Starred v p) :
    Snd X W xa (.prim p es) (.Call (.Name n pn) (l :: xs) [] pos) := by
  have ha := snds_pa h hns
  cases p <;> simp only [primB, Option.some.injEq, Prod.mk.injEq, reduceCtorEq] at hb <;> obtain ⟨rfl, rfl, rfl⟩ := hb
  · exact snd_primB pr_len hg (bltIn C.free) (by decide +kernel) ha (by decide) (by decide) hns
  · exact snd_primT pr_tuple hg (bltIn C.free) (by decide +kernel) ha (by decide) (by decide) hns
  · exact snd_primT pr_list hg (bltIn C.free) (by decide +kernel) ha (by decide) (by decide) hns
  · exact snd_primB (pr_sum C.calm) hg (bltIn C.free) (by decide +kernel) ha (by decide) (by decide) hns
  · exact snd_primB (pr_max C.calm C.units) hg (bltIn C.free) (by decide +kernel) ha (by decide) (by decide) hns
  · exact snd_primB (pr_min C.calm C.units) hg (bltIn C.free) (by decide +kernel) ha (by decide) (by decide) hns
  · exact snd_primB (pr_min2 C.calm) hg (bltIn C.free) (by decide +kernel) ha (by decide) (by decide) hns
  · exact snd_primB pr_abs hg (bltIn C.free) (by decide +kernel) ha (by decide) (by decide) hns
  · exact snd_primT pr_int hg (bltIn C.free) (by decide +kernel) ha (by decide) (by decide) hns
  · exact snd_primB (pr_all C.calm) hg (bltIn C.free) (by decide +kernel) ha (by decide) (by decide) hns
  · exact snd_primB (pr_any C.calm) hg (bltIn C.free) (by decide +kernel) ha (by decide) (by decide) hns
theorem isi_sound {X : Cx} {W : WX} {sc : Scope} {t : Ty} {a : E} {l ty : Expr} {pn pos : Pos} (C : Ctx X W xa PF PK PG) (hsc : X.env.scope = sc) (hg : Gl X "isinstance") (ht : tyB sc t ty = true) (h : Snd X W xa a l) (hns : ∀ v p, l ≠ .Starred v p) :
    Snd X W xa (.prim (.isi t) [a]) (.Call (.Name "isinstance" pn) [l, ty] [] pos) := by
  have hm : X.mg "isinstance" = none := bltIn C.free
  cases t
  case listtuple =>
    cases ty <;> first | (simp [tyB] at ht; done) | skip
    rename_i xs k p3
    match xs, ht with
    | [.Name y p1, .Name z p2], ht =>
      simp only [tyB, Bool.and_eq_true, decide_eq_true_eq] at ht
      obtain ⟨⟨⟨rfl, rfl⟩, g1⟩, g2⟩ := ht
      exact snd_isi2 (n := "list") (m := "tuple") rfl (by simp) (by simp) hg hm (glo_of hsc g1) (bltIn C.free) (by decide +kernel) (by decide) (by decide) (glo_of hsc g2) (bltIn C.free) (by decide +kernel) (by decide) (by decide) h hns
  case boolstr =>
    cases ty <;> first | (simp [tyB] at ht; done) | skip
    rename_i xs k p3
    match xs, ht with
    | [.Name y p1, .Name z p2], ht =>
      simp only [tyB, Bool.and_eq_true, decide_eq_true_eq] at ht
      obtain ⟨⟨⟨rfl, rfl⟩, g1⟩, g2⟩ := ht
      exact snd_isi2 (n := "bool") (m := "str") rfl (by simp) (by simp) hg hm (glo_of hsc g1) (bltIn C.free) (by decide +kernel) (by decide) (by decide) (glo_of hsc g2) (bltIn C.free) (by decide +kernel) (by decide) (by decide) h hns
  all_goals
    cases ty <;> first | (simp [tyB] at ht; done) | skip
    simp only [tyB, Bool.and_eq_true, decide_eq_true_eq] at ht
    obtain ⟨rfl, g1⟩ := ht
  · exact snd_isi (n := "int") rfl (by simp) hg hm (glo_of hsc g1) (bltIn C.free) (by decide +kernel) (by decide) (by decide) h hns
  · exact snd_isi (n := "bool") rfl (by simp) hg hm (glo_of hsc g1) (bltIn C.free) (by decide +kernel) (by decide) (by decide) h hns
  · exact snd_isi (n := "tuple") rfl (by simp) hg hm (glo_of hsc g1) (bltIn C.free) (by decide +kernel) (by decide) (by decide) h hns
  · exact snd_isi (n := "list") rfl (by simp) hg hm (glo_of hsc g1) (bltIn C.free) (by decide +kernel) (by decide) (by decide) h hns
  · exact snd_isi (n := "str") rfl (by simp) hg hm (glo_of hsc g1) (bltIn C.free) (by decide +kernel) (by decide) (by decide) h hns
theorem meth_sound {X : Cx} {W : WX} {m : Mth} {a : E} {es : List E} {l : Expr} {xs : List Expr} {ap pos : Pos} (hl : nameB l = true) (hline : (ap.endLine == pos.line) = true) (hfew : xs.length < 30) (ho : Snd X W xa a l) (h : Paired (Snd X W xa) es xs) (hns : ∀ x ∈ xs, ∀ v p, x ≠ .Starred v p) (hx : es.length = xs.length) :
    Snd X W xa (.meth m a es) (.Call (.Attribute l (mthB m) ap) xs [] pos) := by
  have ha := snds_pa h hns
  cases m
  · exact snd_meth PySem.F.plainAttrs_list PySem.F.slot_list_append PySem.F.type_list_append mt_appendD ho.pe ha (base_of hl) hline hfew hns hx
  · exact snd_meth PySem.F.plainAttrs_list PySem.F.slot_list_pop PySem.F.type_list_pop mt_popD ho.pe ha (base_of hl) hline hfew hns hx
  · exact snd_meth PySem.F.plainAttrs_list PySem.F.slot_list_pop PySem.F.type_list_pop mt_popatD ho.pe ha (base_of hl) hline hfew hns hx
  · exact snd_meth PySem.F.plainAttrs_list PySem.F.slot_list_extend PySem.F.type_list_extend mt_extendD ho.pe ha (base_of hl) hline hfew hns hx
theorem iter_sound {X : Cx} {W : WX} {N : List Str} {sc : Scope} {tg : Tgt} {k : IK} {its : List E} {xt xi : Expr} (C : Ctx X W xa PF PK PG) (hsc : X.env.scope = sc) (ht : isNms tg = true → ∃ xs kk p, xt = .Tuple xs kk p)
    (ih : ∀ xs, trEs N its sc xs = true → Paired (Snd X W xa) its xs)
    (h : (match k, xi with
      | .seq, xi => trEs N its sc [xi]
      | .range1, .Call (.Name y _) [l] [] _ => decide (y = "range") && gloB sc y && trEs N its sc [l]
      | .range2, .Call (.Name y _) [l, r] [] _ => decide (y = "range") && gloB sc y && trEs N its sc [l, r]
      | .enum, .Call (.Name y _) [l] [] _ => decide (y = "enumerate") && gloB sc y && isNms tg && trEs N its sc [l]
      | .zip, .Call (.Name y _) [l, r] [] _ => decide (y = "zip") && gloB sc y && isNms tg && trEs N its sc [l, r]
      | _, _ => false) = true) : PI X xt xi (RI X.K W xa k its) ∧ (∀ v k p, xi ≠ .Set v k p) := by
  have one : ∀ {l : Expr}, trEs N its sc [l] = true → ∃ a, its = [a] ∧ Snd X W xa a l ∧ (∀ v p, l ≠ .Starred v p) ∧ ∀ v k p, l ≠ .Set v k p := fun {l} h => by
    have q := ih _ h
    cases q with
    | cons a t =>
      cases t
      simp only [trEs, Bool.and_eq_true] at h
      exact ⟨_, rfl, a, notStar h.1, notSet h.1⟩
  have two : ∀ {l r : Expr}, trEs N its sc [l, r] = true → ∃ a b, its = [a, b] ∧ Snd X W xa a l ∧ Snd X W xa b r ∧ (∀ v p, l ≠ .Starred v p) ∧ (∀ v p, r ≠ .Starred v p) := fun {l r} h => by
    have q := ih _ h
    cases q with
    | cons a t =>
      cases t with
      | cons b t =>
        cases t
        simp only [trEs, Bool.and_eq_true] at h
        exact ⟨_, _, rfl, a, b, notStar h.1, notStar h.2.1⟩
  split at h
  · obtain ⟨a, rfl, s, n1, n2⟩ := one h
    exact ⟨ri_seq s.pe, n2⟩
  · simp only [Bool.and_eq_true, decide_eq_true_eq] at h
    obtain ⟨⟨rfl, g⟩, h⟩ := h
    obtain ⟨a, rfl, s, n1, n2⟩ := one h
    exact ⟨ri_range1 (glo_of hsc g) (bltIn C.free) s.pe n1, fun _ _ _ q => nomatch q⟩
  · simp only [Bool.and_eq_true, decide_eq_true_eq] at h
    obtain ⟨⟨rfl, g⟩, h⟩ := h
    obtain ⟨a, b, rfl, s1, s2, n1, n2⟩ := two h
    exact ⟨ri_range2 (glo_of hsc g) (bltIn C.free) s1.pe s2.pe n1 n2, fun _ _ _ q => nomatch q⟩
  · simp only [Bool.and_eq_true, decide_eq_true_eq] at h
    obtain ⟨⟨⟨rfl, g⟩, ht'⟩, h⟩ := h
    obtain ⟨a, rfl, s, n1, n2⟩ := one h
    obtain ⟨xs, kk, p, rfl⟩ := ht ht'
    exact ⟨ri_enum (glo_of hsc g) (bltIn C.free) s.pe n1, fun _ _ _ q => nomatch q⟩
  · simp only [Bool.and_eq_true, decide_eq_true_eq] at h
    obtain ⟨⟨⟨rfl, g⟩, ht'⟩, h⟩ := h
    obtain ⟨a, b, rfl, s1, s2, n1, n2⟩ := two h
    obtain ⟨xs, kk, p, rfl⟩ := ht ht'
    exact ⟨ri_zip (glo_of hsc g) (bltIn C.free) s1.pe s2.pe n1 n2, fun _ _ _ q => nomatch q⟩
  · cases h
theorem tg_tuple {N : List Str} {fn : Str → Bool} {sc : Scope} {tg : Tgt} {x : Expr} (h : tgB N fn sc tg x = true) : isNms tg = true → ∃ xs kk p, x = .Tuple xs kk p := fun ht => by
  cases tg with
  | nm i => cases ht
  | nms is =>
    cases x <;> first | (simp [tgB] at h; done) | skip
    exact ⟨_, _, _, rfl⟩

/-- a comprehension, of what is known of its parts -/
theorem lc_sound {X : Cx} {W : WX} {sc : Scope} (N : List Str) (hNe : X.N = N) (C : Ctx X W xa PF PK PG) (hsc : X.env.scope = sc) {tg : Tgt} {k : IK} {its : List E} {cond : Option E} {elt : E} {x : Expr}
    (hi : ∀ xs, trEs N its sc xs = true → Paired (Snd X W xa) its xs)
    (hc : ∀ {X' : Cx} {sc' : Scope}, X'.N = N → Ctx X' W0 xa PF PK PG → X'.env.scope = sc' → ∀ xs, trC N cond sc' xs = true → PTs X' xs (RC X'.K W0 xa cond))
    (he : ∀ {X' : Cx} {sc' : Scope}, X'.N = N → Ctx X' W0 xa PF PK PG → X'.env.scope = sc' → ∀ y, trE N elt sc' y = true → Snd X' W0 xa elt y)
    (h : trE N (.lc tg k its cond elt) sc x = true) :
    PE X x (RE X.K W xa (.lc tg k its cond elt)) ∧ ∃ xe gs scope pos, x = .ListComp xe gs scope pos ∧ 
    ∀ {i : Nat} {y : Str} {py spos : Pos} (hy : X.N[i]? = some y) (hyl : X.env.scope.names.lookup y = some .local) (hsw : swapsWith x (some (.Name y py)) spos.line X.env = pure true),
      PS X (.Assign [.Name y py] x spos) (tAsg (RE X.K W xa (.lc tg k its cond elt)) (gName i)) := by
    simp only [trE] at h
    split at h
    · rename_i xe xt xi ifs scope pos
      simp only [Bool.and_eq_true, decide_eq_true_eq] at h
      obtain ⟨⟨⟨⟨⟨h1, h2⟩, h3⟩, h4⟩, h5⟩, h6⟩ := h
      have ok : BlkOk X.N X.env.scope scope (tgOwn N tg) := by rw [hNe, hsc]; exact blkOk_by h1
      have hit := iter_sound (W := W) C hsc (tg_tuple h3) hi h4
      have q := snd_lc (W := W) (pos := pos) C.calm C.hN hit.1 ok h2
        (fun s H c cl fp => tg_pg (N := N) (sc := relS scope sc) C.hN C.calm hNe (by show relS scope X.env.scope = _; rw [hsc]) (fun y hy => hy) h3)
        (fun s H c cl fp => hc (by exact hNe) (C.blk (by show (relS scope X.env.scope).kind = _; exact ok.kind) s H c cl fp) (by show relS scope X.env.scope = _; rw [hsc]) ifs h5)
        (fun s H c cl fp => (he (by exact hNe) (C.blk (by show (relS scope X.env.scope).kind = _; exact ok.kind) s H c cl fp) (by show relS scope X.env.scope = _; rw [hsc]) xe h6).pe)
        (fold_of hit.2)
      exact ⟨q.1, _, _, _, _, rfl, fun hy hyl hsw => q.2 hy hyl hsw⟩
    · cases h
theorem lc_isTrue {X : Cx} {xe : Expr} {gs : List Comprehension} {scope : Scope} {pos : Pos} : ∀ whole, isTrue (Expr.ListComp xe gs scope pos) X.env whole = (do let v ← whole; standAt (Expr.ListComp xe gs scope pos).pos; holding [v] (truthy v)) := fun _ => rfl
theorem snd_ife {X : Cx} {W : WX} {c a b : E} {z x y : Expr} {pos : Pos} (hc : Snd X W xa c z) (ha : Snd X W xa a x) (hb : Snd X W xa b y) : Snd X W xa (.ife c a b) (.IfExp z x y pos) := by
  refine ⟨snd_ife_pe hc ha hb, ⟨fun pins s σ H Q I q => ?_⟩⟩
  obtain ⟨ms, st, env, Qp, Ex, R, RE', w, g, gx⟩ := q
  simp only [wpE] at w
  refine isTrue_IfExp (thn (hc.pt.run pins s σ H (fun r H1 => if r = true then RT X.K W xa a σ H1 Q else RT X.K W xa b σ H1 Q) I ⟨ms, st, env, _, Ex, R, RE', w, fun d st1 ms1 H1 q1 e1 k1 R1 hd => ?_, gx⟩) fun d s1 ⟨H1, I1, q1⟩ => ?_)
  · obtain ⟨r, hr, q2, q3⟩ := q1
    refine ⟨r, hr, ?_⟩
    cases r with
    | true => exact iteT ⟨ms1, st1, env, _, Ex, R1, RE'.keep e1 k1, q2 rfl, g.go e1 k1, gx.go e1 k1⟩
    | false => exact iteF ⟨ms1, st1, env, _, Ex, R1, RE'.keep e1 k1, q3 rfl, g.go e1 k1, gx.go e1 k1⟩
  · cases d with
    | true => exact ha.pt.run pins s1 σ H1 Q I1 q1
    | false => exact hb.pt.run pins s1 σ H1 Q I1 q1
/-! ### the theorem -/
mutual
theorem soundE {X : Cx} {W : WX} {sc : Scope} (N : List Str) (hNe : X.N = N) (C : Ctx X W xa PF PK PG) (hsc : X.env.scope = sc) : ∀ (e : E) (x : Expr), KnE PF PK PG e → trE N e sc x = true → Snd X W xa e x
  | .var i, x, hk, h => by
    simp only [trE] at h
    split at h
    · simp only [Bool.and_eq_true, decide_eq_true_eq] at h
      obtain ⟨⟨h1, h2⟩, h3⟩ := h
      have v := vis_of h2
      exact snd_var (by rw [hNe]; exact h1) (by rw [hsc]; exact v) (dbg_of h3).1 (dbg_of h3).2
    · cases h
  | .k d, x, hk, h => by
    simp only [trE] at h
    split at h
    · rename_i c j p
      cases d <;> cases c <;> simp [constB] at h
      · exact snd_const (v := .non) pe_non fun _ _ => rv_non
      · subst h; exact snd_const pe_bl fun _ _ => rv_bl
      · subst h; exact snd_const pe_int fun _ _ => rv_int
      · subst h; exact snd_const pe_str fun _ _ => by simp [RepV]
    · cases h
  | .glob n i, x, hk, h => by
    simp only [trE] at h
    split at h
    · simp only [Bool.and_eq_true, decide_eq_true_eq] at h
      obtain ⟨⟨rfl, h2⟩, h3⟩ := h
      obtain ⟨t, ht⟩ := C.gl _ _ (by simpa [KnE] using hk)
      exact snd_glob (glo_of hsc h2) ht (dbg_of h3).1
    · cases h
  | .bin o a b, x, hk, h => by
    simp only [trE] at h
    simp only [KnE] at hk
    split at h
    · simp only [Bool.and_eq_true, decide_eq_true_eq] at h
      obtain ⟨⟨h1, h2⟩, h3⟩ := h
      exact snd_bin h1 (soundE N hNe C hsc a _ hk.1 h2) (soundE N hNe C hsc b _ hk.2 h3)
    · cases h
  | .cmp o a b, x, hk, h => by
    simp only [trE] at h
    simp only [KnE] at hk
    split at h
    · simp only [Bool.and_eq_true, decide_eq_true_eq, Bool.not_eq_true'] at h
      obtain ⟨⟨⟨h1, h2⟩, h3⟩, h4⟩ := h
      exact snd_cmp C.units h1 h2 (soundE N hNe C hsc a _ hk.1 h3) (soundE N hNe C hsc b _ hk.2 h4)
    · cases h
  | .chain o p a b c, x, hk, h => by
    simp only [trE] at h
    simp only [KnE] at hk
    split at h
    · simp only [Bool.and_eq_true, decide_eq_true_eq, Bool.not_eq_true'] at h
      obtain ⟨⟨⟨⟨⟨h1, h2⟩, h3⟩, h4⟩, h5⟩, h6⟩ := h
      exact snd_chain C.units h1 h2 h3 (soundE N hNe C hsc a _ hk.1 h4) (soundE N hNe C hsc b _ hk.2.1 h5) (soundE N hNe C hsc c _ hk.2.2 h6)
    · cases h
  | .isN a, x, hk, h => by
    simp only [trE] at h
    split at h
    · exact snd_isN (soundE N hNe C hsc a _ (by simpa [KnE] using hk) h)
    · cases h
  | .notN a, x, hk, h => by
    simp only [trE] at h
    split at h
    · exact snd_notN (soundE N hNe C hsc a _ (by simpa [KnE] using hk) h)
    · cases h
  | .and a b, x, hk, h => by
    simp only [trE] at h
    simp only [KnE] at hk
    split at h
    · rename_i l m r p
      simp only [Bool.and_eq_true] at h
      have sa := soundE N hNe C hsc a _ hk.1 h.1
      have sb := soundE N hNe C hsc b _ hk.2 h.2
      cases r with
      | nil => exact (snd_and sa (sndB_one_and sb)).snd
      | cons r1 r2 => exact (snd_and sa (sndB_of sb)).snd
    · cases h
  | .or a b, x, hk, h => by
    simp only [trE] at h
    simp only [KnE] at hk
    split at h
    · rename_i l m r p
      simp only [Bool.and_eq_true] at h
      have sa := soundE N hNe C hsc a _ hk.1 h.1
      have sb := soundE N hNe C hsc b _ hk.2 h.2
      cases r with
      | nil => exact (snd_or sa (sndB_one_or sb)).snd
      | cons r1 r2 => exact (snd_or sa (sndB_of sb)).snd
    · cases h
  | .not a, x, hk, h => by
    simp only [trE] at h
    split at h
    · exact snd_not (soundE N hNe C hsc a _ (by simpa [KnE] using hk) h)
    · cases h
  | .neg a, x, hk, h => by
    simp only [trE] at h
    split at h
    · exact snd_neg (soundE N hNe C hsc a _ (by simpa [KnE] using hk) h)
    · cases h
  | .ife c a b, x, hk, h => by
    simp only [trE] at h
    simp only [KnE] at hk
    split at h
    · simp only [Bool.and_eq_true] at h
      obtain ⟨⟨h1, h2⟩, h3⟩ := h
      exact snd_ife (soundE N hNe C hsc c _ hk.1 h1) (soundE N hNe C hsc a _ hk.2.1 h2) (soundE N hNe C hsc b _ hk.2.2 h3)
    · cases h
  | .tup es, x, hk, h => by
    simp only [trE] at h
    simp only [KnE] at hk
    split at h
    · exact snd_tup (snds_pa (soundEs N hNe C hsc es _ hk h) (notStars h).1)
    · cases h
  | .lst es, x, hk, h => by
    simp only [trE] at h
    simp only [KnE] at hk
    split at h
    · exact snd_lst (snds_pa (soundEs N hNe C hsc es _ hk h) (notStars h).1)
    · cases h
  | .ix a b, x, hk, h => by
    simp only [trE] at h
    simp only [KnE] at hk
    split at h
    · simp only [Bool.and_eq_true] at h
      obtain ⟨⟨h1, h2⟩, h3⟩ := h
      exact snd_ix (plain_of h1) (soundE N hNe C hsc a _ hk.1 h2) (soundE N hNe C hsc b _ hk.2 h3)
    · cases h
  | .sl a lo hi, x, hk, h => by
    simp only [trE] at h
    simp only [KnE] at hk
    split at h
    · simp only [Bool.and_eq_true] at h
      obtain ⟨⟨h1, h2⟩, h3⟩ := h
      exact snd_sl (soundE N hNe C hsc a _ hk.1 h1) (soundO N hNe C hsc lo _ hk.2.1 h2) (soundO N hNe C hsc hi _ hk.2.2 h3)
    · cases h
  | .rev a, x, hk, h => by
    simp only [trE] at h
    simp only [KnE] at hk
    split at h
    · exact snd_rev (soundE N hNe C hsc a _ hk h)
    · cases h
  | .call f es, x, hk, h => by
    simp only [trE] at h
    simp only [KnE] at hk
    split at h
    · simp only [Bool.and_eq_true, decide_eq_true_eq] at h
      obtain ⟨⟨⟨⟨rfl, h2⟩, h3⟩, h4⟩, h5⟩ := h
      exact snd_call C.tk (C.fn f hk.1) (glo_of hsc h2) (dbg_of h3).1 (notStars h5).1 (snds_pa (soundEs N hNe C hsc es _ hk.2 h5) (notStars h5).1) h4 (notStars h5).2
    · cases h
  | .callk f es ks perm kes, x, hk, h => by
    simp only [trE] at h
    simp only [KnE] at hk
    split at h
    · simp only [Bool.and_eq_true, decide_eq_true_eq, List.all_eq_true] at h
      obtain ⟨⟨⟨⟨⟨⟨⟨⟨rfl, h2⟩, h3⟩, h4⟩, h5⟩, h6⟩, h7⟩, h8⟩, h9⟩ := h
      refine snd_callk C.tk (C.fk f _ ks perm hk.1) (glo_of hsc h2) (dbg_of h3).1 (notStars h8).1 (snds_pa (soundEs N hNe C hsc es _ hk.2.1 h8) (notStars h8).1) (snds_pk (soundEs N hNe C hsc kes _ hk.2.2 h9)) h4 h5 (fun us ws l1 l2 => ?_) (notStars h8).2
      have : ∀ perm : List Nat, (∀ i ∈ perm, i < kes.length) → (perm.filterMap fun i => ws[i]?).length = perm.length := by
        intro perm
        induction perm with
        | nil => intro _; rfl
        | cons i p ih =>
          intro hp
          have hi : i < ws.length := by rw [l2]; exact hp i List.mem_cons_self
          rw [List.filterMap_cons, List.getElem?_eq_getElem hi]
          simp [ih fun j hj => hp j (List.mem_cons_of_mem _ hj)]
      unfold reord
      rw [List.length_append, this perm h6, l1, h7]
    · cases h
  | .prim p es, x, hk, h => by
    simp only [KnE] at hk
    cases p
    case isi t =>
      simp only [trE] at h
      split at h
      · simp only [Bool.and_eq_true, decide_eq_true_eq] at h
        obtain ⟨⟨⟨rfl, h2⟩, h3⟩, h4⟩ := h
        have q := soundEs N hNe C hsc es _ hk h4
        cases q with
        | cons a t =>
          cases t
          exact isi_sound C hsc (glo_of hsc h2) h3 a ((notStars h4).1 _ List.mem_cons_self)
      · cases h
    case listrange =>
      simp only [trE] at h
      split at h
      · simp only [Bool.and_eq_true, decide_eq_true_eq] at h
        obtain ⟨⟨⟨⟨rfl, h2⟩, rfl⟩, h4⟩, h5⟩ := h
        have q := soundEs N hNe C hsc es _ hk h5
        cases q with
        | cons a t =>
          cases t
          exact snd_listrange C.calm (glo_of hsc h2) (bltIn C.free) (glo_of hsc h4) (bltIn C.free) a ((notStars h5).1 _ List.mem_cons_self)
      · cases h
    all_goals
      simp only [trE] at h
      split at h
      · rename_i hb
        simp only [Bool.and_eq_true, decide_eq_true_eq] at h
        obtain ⟨⟨rfl, h2⟩, h3⟩ := h
        exact prim_sound (sc := sc) C hb (glo_of hsc h2) (soundEs N hNe C hsc es _ hk h3) (notStars h3).1
      · cases h
  | .meth m o es, x, hk, h => by
    simp only [trE] at h
    simp only [KnE] at hk
    split at h
    · simp only [Bool.and_eq_true, decide_eq_true_eq] at h
      obtain ⟨⟨⟨⟨⟨h1, rfl⟩, h3⟩, h4⟩, h5⟩, h6⟩ := h
      exact meth_sound h1 h3 h4 (soundE N hNe C hsc o _ hk.1 h5) (soundEs N hNe C hsc es _ hk.2 h6) (notStars h6).1 (notStars h6).2
    · cases h
  | .lc tg k its cond elt, x, hk, h => by
    simp only [KnE] at hk
    obtain ⟨pe, xe, gs, scope, pos, rfl, _⟩ := lc_sound N hNe C hsc (fun xs q => soundEs N hNe C hsc its xs hk.1 q) (fun n' c' s' xs q => soundC N n' c' s' cond xs hk.2.1 q) (fun n' c' s' y q => soundE N n' c' s' elt y hk.2.2 q) h
    exact ⟨pe, pt_of pe lc_isTrue⟩
  | .tmp e, x, hk, h => by
    simp only [trE] at h
    exact snd_tmp (soundE N hNe C hsc e x (by simpa [KnE] using hk) h)
theorem soundEs {X : Cx} {W : WX} {sc : Scope} (N : List Str) (hNe : X.N = N) (C : Ctx X W xa PF PK PG) (hsc : X.env.scope = sc) : ∀ (es : List E) (xs : List Expr), KnEs PF PK PG es → trEs N es sc xs = true → Paired (Snd X W xa) es xs
  | [], xs, hk, h => by
    simp only [trEs, List.isEmpty_iff] at h
    subst h
    exact .nil
  | e :: es, xs, hk, h => by
    simp only [KnEs] at hk
    cases xs with
    | nil => simp [trEs] at h
    | cons x xs =>
      simp only [trEs, Bool.and_eq_true] at h
      exact .cons (soundE N hNe C hsc e x hk.1 h.1) (soundEs N hNe C hsc es xs hk.2 h.2)
theorem soundO {X : Cx} {W : WX} {sc : Scope} (N : List Str) (hNe : X.N = N) (C : Ctx X W xa PF PK PG) (hsc : X.env.scope = sc) : ∀ (e : Option E) (x : Option Expr), KnO PF PK PG e → trO N e sc x = true → PO X x (RO X.K W xa e)
  | none, x, hk, h => by
    simp only [trO, Option.isNone_iff_eq_none] at h
    subst h
    exact ro_none
  | some e, x, hk, h => by
    simp only [KnO] at hk
    cases x with
    | none => simp [trO] at h
    | some x =>
      simp only [trO] at h
      exact ro_some (soundE N hNe C hsc e x hk h)
theorem soundC {X : Cx} {W : WX} {sc : Scope} (N : List Str) (hNe : X.N = N) (C : Ctx X W xa PF PK PG) (hsc : X.env.scope = sc) : ∀ (e : Option E) (xs : List Expr), KnO PF PK PG e → trC N e sc xs = true → PTs X xs (RC X.K W xa e)
  | none, xs, hk, h => by
    simp only [trC, List.isEmpty_iff] at h
    subst h
    exact rc_none
  | some e, xs, hk, h => by
    simp only [KnO] at hk
    simp only [trC] at h
    split at h
    · exact rc_some (soundE N hNe C hsc e _ hk h)
    · cases h
end
theorem soundLc {X : Cx} {W : WX} {sc : Scope} (N : List Str) (hNe : X.N = N) (C : Ctx X W xa PF PK PG) (hsc : X.env.scope = sc) {tg : Tgt} {k : IK} {its : List E} {cond : Option E} {elt : E} {x : Expr} (hk : KnE PF PK PG (.lc tg k its cond elt)) (h : trE N (.lc tg k its cond elt) sc x = true) :
    PE X x (RE X.K W xa (.lc tg k its cond elt)) ∧ ∃ xe gs scope pos, x = .ListComp xe gs scope pos ∧ 
    ∀ {i : Nat} {y : Str} {py spos : Pos} (hy : X.N[i]? = some y) (hyl : X.env.scope.names.lookup y = some .local) (hsw : swapsWith x (some (.Name y py)) spos.line X.env = pure true),
      PS X (.Assign [.Name y py] x spos) (tAsg (RE X.K W xa (.lc tg k its cond elt)) (gName i)) := by
  simp only [KnE] at hk
  exact lc_sound N hNe C hsc (fun xs q => soundEs N hNe C hsc its xs hk.1 q) (fun n' c' s' xs q => soundC N n' c' s' cond xs hk.2.1 q) (fun n' c' s' y q => soundE N n' c' s' elt y hk.2.2 q) h
end
end Ev

set_option Elab.async false
set_option linter.all false
set_option maxRecDepth 100000
set_option maxHeartbeats 16000000
/-! Ev6: statements. -/
namespace Ev
open PySem PySem.Spec PyProof.Rows L2

/-! ### readings -/
def GetsE (K : PySem.W.Frag) (ms : List Addr) (H : Hp) (P : Env' → Store → Prop) (Q : L2.St → Hp → Prop) : Prop :=
  ∀ (env' : Env') (st' : Store) (ms' : List Addr) (σ' : L2.St) (H' : Hp), P env' st' → ms <+: ms' → Keep H H' → Rel K ms' st' H' → RelE K ms' H' env' σ' → Q σ' H'
def GetsXE (K : PySem.W.Frag) (ms : List Addr) (H : Hp) (W : WX) (xa : Exc → Addr) (Ex : Exc → Env' → Store → Prop) : Prop :=
  ∀ (x : Exc) (env' : Env') (st' : Store) (ms' : List Addr) (σ' : L2.St) (H' : Hp), Ex x env' st' → ms <+: ms' → Keep H H' → Rel K ms' st' H' → RelE K ms' H' env' σ' → W (.ref (xa x)) none σ' H'
structure GetsN (K : PySem.W.Frag) (ms : List Addr) (H : Hp) (W : WX) (xa : Exc → Addr) (N : En) (D : Ends) : Prop where
  nx : GetsE K ms H N.nx D.nx
  rt : Gets K ms H N.rt D.rt
  bk : GetsE K ms H N.bk D.bk
  ct : GetsE K ms H N.ct D.ct
  ex : GetsXE K ms H W xa N.ex
def RS (K : PySem.W.Frag) (W : WX) (xa : Exc → Addr) (s : S) : TS := fun D σ H => ∃ (ms : List Addr) (st : Store) (env : Env') (N : En),
  Rel K ms st H ∧ RelE K ms H env σ ∧ wpS s env st N ∧ GetsN K ms H W xa N D
def RSs (K : PySem.W.Frag) (W : WX) (xa : Exc → Addr) (s : List S) : TS := fun D σ H => ∃ (ms : List Addr) (st : Store) (env : Env') (N : En),
  Rel K ms st H ∧ RelE K ms H env σ ∧ wpSs s env st N ∧ GetsN K ms H W xa N D
section
variable {K : PySem.W.Frag} {ms ms1 : List Addr} {H H1 : Hp} {W : WX} {xa : Exc → Addr}
theorem GetsE.go {P : Env' → Store → Prop} {Q : L2.St → Hp → Prop} (g : GetsE K ms H P Q) (e : ms <+: ms1) (k : Keep H H1) : GetsE K ms1 H1 P Q :=
  fun env' st' ms' σ' H' q e' k' r r' => g env' st' ms' σ' H' q (e.trans e') (k.trans k') r r'
theorem GetsXE.go {Ex : Exc → Env' → Store → Prop} (g : GetsXE K ms H W xa Ex) (e : ms <+: ms1) (k : Keep H H1) : GetsXE K ms1 H1 W xa Ex :=
  fun x env' st' ms' σ' H' q e' k' r r' => g x env' st' ms' σ' H' q (e.trans e') (k.trans k') r r'
theorem GetsN.go {N : En} {D : Ends} (g : GetsN K ms H W xa N D) (e : ms <+: ms1) (k : Keep H H1) : GetsN K ms1 H1 W xa N D := ⟨g.nx.go e k, g.rt.go e k, g.bk.go e k, g.ct.go e k, g.ex.go e k⟩
theorem GetsN.gx {N : En} {D : Ends} {env : Env'} {σ : L2.St} (g : GetsN K ms H W xa N D) (re : RelE K ms H env σ) : GetsX K ms H W xa σ (fun x st1 => N.ex x env st1) :=
  fun x st' ms' H' q e k R => g.ex x env st' ms' σ H' q e k R (re.keep e k)
theorem _root_.L2.PS.weak {X : Cx} {s : Stmt} {t t' : TS} (h : PS X s t) (hw : ∀ D σ H, t' D σ H → t D σ H) : PS X s t' := ⟨fun pins s σ H D I q => h.run pins s σ H D I (hw _ _ _ q)⟩
theorem _root_.L2.PSs.weak {X : Cx} {s : List Stmt} {t t' : TS} (h : PSs X s t) (hw : ∀ D σ H, t' D σ H → t D σ H) : PSs X s t' := ⟨fun pins s σ H D I q => h.run pins s σ H D I (hw _ _ _ q)⟩
end

/-! ### from the right -/
theorem rel_setBack {K : PySem.W.Frag} {ms : List Addr} {H : Hp} {env : Env'} {σ : L2.St} (r : RelE K ms H env σ) : ∀ {is : List Nat} {ds : List D} {vs : List V}, RepL K ms H ds vs → RelE K ms H (setBack is ds env) (setBack is vs σ)
  | [], ds, vs, h => by
    cases h <;> exact r
  | i :: is, ds, vs, h => by
    cases h with
    | nil => exact r
    | cons a t => exact (rel_setBack r t).set a
def tPars (is : List Nat) (ta : TA) : TS := fun D σ H => ta σ H fun vs H1 => vs.length = is.length ∧ D.nx (setBack is vs σ) H1
theorem store_back {X : Cx} {pins : List (Addr × Obj)} {H : Hp} {M : Model} {A : Around} {E : Value → Shared → Prop} {Q : Unit → Shared → Prop} (hN : X.N.Nodup) :
    ∀ {is : List Nat} {ns : List Str} {vs : List V} {us : List Value} {σ : L2.St} {s : Shared} (fs : List (Value → Sem Unit)) (xs : List Value),
      Paired (fun i x => X.N[i]? = some x ∧ X.env.scope.names.lookup x = some .local) is ns → Vals vs us → vs.length = is.length → Inv X pins σ H s →
      (∀ s', Inv X pins (setBack is vs σ) H s' → wpAny M A (assignInOrder fs xs) Q E s') → wpAny M A (assignInOrder ((ns.reverse.map fun n => bindName X.env n) ++ fs) (us.reverse ++ xs)) Q E s
  | [], ns, vs, us, σ, s, fs, xs, hp, hv, hl, I, h => by
    cases hp
    cases vs with
    | nil => cases hv; exact h s I
    | cons a b => simp at hl
  | i :: is, ns, vs, us, σ, s, fs, xs, hp, hv, hl, I, h => by
    cases vs with
    | nil => simp at hl
    | cons v vs =>
      cases hp with
      | cons p hp =>
        rename_i x ns
        cases hv with
        | cons rv hv =>
          rename_i u us
          have := store_back hN (s := s) ((fun w => bindName X.env x w) :: fs) (u :: xs) hp hv (by simpa using hl) I fun s' I' =>
            assignInOrder_cons (wpAny_bindName (store_ok I' hN p.1 (.inl p.2) rv (fun s2 I2 => h s2 I2) (.inr p.2)))
          simpa using this
theorem ps_pars {X : Cx} {is : List Nat} {ns : List Str} {ts vs : List Expr} {ta : TA} {pt : Pos} {kt k2 pt2} {pos : Pos} (hc : X.calm = true) (hN : X.N.Nodup) (hp : Paired (fun i x => X.N[i]? = some x ∧ X.env.scope.names.lookup x = some .local) is ns) (hsz : is.length ≤ 30)
    (ha : PA X vs ta) (hw : swappedStores [.Tuple ts kt pt] (.Tuple vs k2 pt2) X.env = pure (some ns))
    (hs : swapsWithSole [.Tuple ts kt pt] (.Tuple vs k2 pt2) pos.line X.env = pure false := by rfl) :
    PS X (.Assign [.Tuple ts kt pt] (.Tuple vs k2 pt2) pos) (tPars is ta) := by
  refine ⟨fun pins s σ H D I h => ?_⟩
  rw [exec_Assign_arm]
  refine wpAny_bind (wpAny_standAt ?_)
  rw [hs]
  refine wpAny_bind (wpAny_pure ?_)
  rw [if_neg (by decide)]
  refine wpAny_bind (Tuple_ (thn (ha.run _ pins s σ H _ I h) fun us s1 ⟨vs, H1, I1, r1, q1⟩ => ?_))
  obtain ⟨e1, q1⟩ := q1
  have el : us.length = ns.length := by rw [← r1.length, e1, hp.length]
  refine wpAny_newObj_type ?_ (by show us.length ≤ sizeLine; rw [← r1.length, e1, sizeLine_eq]; omega)
  have I2 : Inv X pins σ H1 { s1 with heap := s1.heap.push { cls := .type "tuple", data := .seq us.toArray } } := I1.kept (t' := s1.toks) fun b o e => Heap.get?_push_of_some _ e
  rw [hw]
  refine wpAny_bind (wpAny_pure ?_)
  show wpAny (model X.prog X.w) X.A (do rule "assign.swapped-stores"; let items ← unpackItems (.ref s1.heap.objs.size) ns.length none; assignInOrder (ns.reverse.map fun n => bindName X.env n) items.reverse; pure Flow.next) _ _ _
  have eS : ns.length = us.toArray.size := by simp [el]
  rw [eS]
  refine wpAny_bind (wpAny_rule (wpAny_bind (unpackItems_tuple (items := us.toArray) (I.ok.hd hc) (IsTup.new s1.heap _) fun h' hx' => ?_)))
  have I3 := I2.kept (h' := h') (t' := s1.toks) fun b o e => hx' b o (Nat.ne_of_lt (Heap.lt_size e)) e
  refine wpAny_bind ?_
  have q := store_back (M := model X.prog X.w) (A := X.A) (E := X.xe) (Q := fun _ s' => wpAny (model X.prog X.w) X.A (pure Flow.next) (SP X pins D) X.xe s') hN [] [] hp r1 e1 I3 fun s' I' => assignInOrder_nil (wpAny_pure ⟨_, H1, I', q1⟩)
  simpa using q
/-- what swappedStores says of it -/
def swNames (sc : Scope) (ts : List Expr) : List Str := ts.filterMap fun
    | .Name id pos => if sc.names.lookup id == some .local && pos.line == (ts.head?.map (·.pos.line)).getD 0 then some id else none
    | _ => none
def swB (sc : Scope) (ts vs : List Expr) : Bool := (ts.length == 2 || ts.length == 3) && vs.length == ts.length && !(vs.any fun | .Starred .. => true | _ => false) && (swNames sc ts).length == ts.length && (swNames sc ts).eraseDups.length == (swNames sc ts).length &&
  !(vs.all (foldedForSure 8)) && !(vs.all (constantsAlone 8))
theorem sw_some {env : Env} {ts vs : List Expr} {kt k2 pt pt2} (hk : env.scope.kind = .function) (h : swB env.scope ts vs = true) : swappedStores [.Tuple ts kt pt] (.Tuple vs k2 pt2) env = pure (some (swNames env.scope ts)) := by
  have hb : env.blockKind = .function := by unfold Env.blockKind; rw [hk]; rfl
  unfold swB at h
  simp only [Bool.and_eq_true, Bool.not_eq_true'] at h
  obtain ⟨⟨⟨⟨⟨⟨h1, h2⟩, h3⟩, h4⟩, h5⟩, h6⟩, h7⟩ := h
  have h2' : (vs.length != ts.length) = false := by simp [bne, h2]
  have h4' : ((swNames env.scope ts).length != ts.length) = false := by simp only [bne, h4]; rfl
  have h5' : ((swNames env.scope ts).eraseDups.length != (swNames env.scope ts).length) = false := by simp only [bne, h5]; rfl
  have hb' : (env.blockKind != .function) = false := by rw [hb]; rfl
  unfold swappedStores
  simp only [h1, h2', hb', Bool.not_true, Bool.or_false, Bool.false_eq_true, if_false]
  refine Eq.trans (if_neg (fun q => Bool.false_ne_true (h3.symm.trans q))) ?_
  show (if (swNames env.scope ts).length != ts.length || (swNames env.scope ts).eraseDups.length != (swNames env.scope ts).length then _ else _) = _
  rw [h4', h5']
  simp only [Bool.or_false, Bool.false_eq_true, if_false]
  rw [if_neg (by rw [h6]; decide), if_neg (by rw [h7]; decide)]
  rfl
theorem sw_none {env : Env} {ts vs : List Expr} {kt k2 pt pt2} (h : ((swNames env.scope ts).length != ts.length) = true) : swappedStores [.Tuple ts kt pt] (.Tuple vs k2 pt2) env = pure none := by
  unfold swappedStores
  dsimp only
  split
  · rfl
  · refine Eq.trans (ite_congr rfl (fun _ => rfl) fun _ => ?_) (ite_self _)
    show (if (swNames env.scope ts).length != ts.length || (swNames env.scope ts).eraseDups.length != (swNames env.scope ts).length then _ else _) = _
    rw [h]
    rfl
/-- .. and swapsWith of a comprehension -/
def swLc (sc : Scope) (y : Str) (py cp : Pos) (scope : Scope) : Bool := sc.names.lookup y == some .local && py.line == cp.line && !(scope.names.any fun (n, k) => n == y && (k == .local || k == .cell))
theorem sw_lc {elt : Expr} {gs : List Comprehension} {scope : Scope} {pos py : Pos} {y : Str} {l : Nat} {env : Env} (hk : env.scope.kind = .function) : swapsWith (.ListComp elt gs scope pos) (some (.Name y py)) l env = pure (swLc env.scope y py pos scope) := by
  have hb : env.blockKind = .function := by unfold Env.blockKind; rw [hk]; rfl
  unfold swapsWith
  simp only [hb, Expr.pos]
  rfl
end Ev

set_option Elab.async false
set_option linter.all false
set_option maxRecDepth 100000
set_option maxHeartbeats 16000000
/-! Ev6b: statements, one by one. -/
namespace Ev
open PySem PySem.Spec PyProof.Rows L2
section
variable {X : Cx} {W : WX} {xa : Exc → Addr} {e a b c : E} {x y : Expr} {pos p : Pos} {st : Stmt}
theorem rs_set {tg : Tgt} (h : PS X st (tAsg (RE X.K W xa e) (gT X.K tg))) : PS X st (RS X.K W xa (.set tg e)) := h.weak fun D σ H q => by
  obtain ⟨ms, st, env, N, R, re, w, g⟩ := q
  simp only [wpS] at w
  exact ⟨ms, st, env, _, _, R, re, w, fun d st1 ms1 v H1 q1 e1 k1 R1 hd => gT_ok (vs := []) (.inl rfl) (re.keep e1 k1) hd q1 fun env' σ' w' re' _ => g.nx env' st1 ms1 σ' H1 w' e1 k1 R1 re', g.gx re⟩
theorem rs_par {is : List Nat} {es : List E} (hl : es.length = is.length) (h : PS X st (tPars is (RA X.K W xa es))) : PS X st (RS X.K W xa (.par is es)) := h.weak fun D σ H q => by
  obtain ⟨ms, st, env, N, R, re, w, g⟩ := q
  simp only [wpS] at w
  exact ⟨ms, st, env, _, _, R, re, w, fun ds st1 ms1 vs H1 hn q1 e1 k1 R1 hd => ⟨by rw [← hd.length, hn, hl], g.nx _ st1 ms1 _ H1 q1 e1 k1 R1 (rel_setBack (re.keep e1 k1) hd)⟩, g.gx re⟩
theorem rs_seti {o i : E} (h : PS X st (tAsg (RE X.K W xa e) (gSub (RE X.K W xa o) (RE X.K W xa i) (rSetD X.K)))) : PS X st (RS X.K W xa (.seti o i e)) := h.weak fun D σ H q => by
  obtain ⟨ms, st, env, N, R, re, w, g⟩ := q
  simp only [wpS] at w
  refine ⟨ms, st, env, _, _, R, re, w, fun d st1 ms1 v H1 q1 e1 k1 R1 hd => ?_, g.gx re⟩
  refine ⟨ms1, st1, env, _, _, R1, re.keep e1 k1, q1, fun d2 st2 ms2 v2 H2 q2 e2 k2 R2 hd2 => ?_, (g.go e1 k1).gx (re.keep e1 k1)⟩
  refine ⟨ms2, st2, env, _, _, R2, (re.keep e1 k1).keep e2 k2, q2, fun d3 st3 ms3 v3 H3 q3 e3 k3 R3 hd3 => ?_, ((g.go e1 k1).go e2 k2).gx ((re.keep e1 k1).keep e2 k2)⟩
  obtain ⟨n, l, z, rfl, h1, rfl, h2, h3, q4⟩ := q3
  refine ⟨ms3, st3, n, l, z, d, R3, hd2.keep e3 k3, int_rep hd3, (hd.keep e2 k2).keep e3 k3, h1, h2, h3, fun H' k4 R4 => ?_⟩
  exact g.nx _ _ ms3 _ H' q4 ((e1.trans e2).trans e3) (((k1.trans k2).trans k3).trans k4) R4 ((((re.keep e1 k1).keep e2 k2).keep e3 k3).keep (List.prefix_refl _) k4)
theorem rs_ret (h : PS X st (tRet (RE X.K W xa e))) : PS X st (RS X.K W xa (.ret e)) := h.weak fun D σ H q => by
  obtain ⟨ms, st, env, N, R, re, w, g⟩ := q
  simp only [wpS] at w
  exact ⟨ms, st, env, _, _, R, re, w, g.rt, g.gx re⟩
theorem rs_retN (h : PS X st tRetN) : PS X st (RS X.K W xa .retN) := h.weak fun D σ H q => by
  obtain ⟨ms, st, env, N, R, re, w, g⟩ := q
  simp only [wpS] at w
  exact g.rt .non st ms .non H w (List.prefix_refl _) (Keep.refl _) R rv_non
theorem rs_expr (h : PS X st (tDrop (RE X.K W xa e))) : PS X st (RS X.K W xa (.expr e)) := h.weak fun D σ H q => by
  obtain ⟨ms, st, env, N, R, re, w, g⟩ := q
  simp only [wpS] at w
  exact ⟨ms, st, env, _, _, R, re, w, fun d st1 ms1 v H1 q1 e1 k1 R1 hd => g.nx env st1 ms1 σ H1 q1 e1 k1 R1 (re.keep e1 k1), g.gx re⟩
theorem rs_pass (h : PS X st tNext) : PS X st (RS X.K W xa .pass) := h.weak fun D σ H q => by
  obtain ⟨ms, st, env, N, R, re, w, g⟩ := q
  simp only [wpS] at w
  exact g.nx env st ms σ H w (List.prefix_refl _) (Keep.refl _) R re
theorem rs_brk (h : PS X st tBreak) : PS X st (RS X.K W xa .brk) := h.weak fun D σ H q => by
  obtain ⟨ms, st, env, N, R, re, w, g⟩ := q
  simp only [wpS] at w
  exact g.bk env st ms σ H w (List.prefix_refl _) (Keep.refl _) R re
theorem rs_cont (h : PS X st tCont) : PS X st (RS X.K W xa .cont) := h.weak fun D σ H q => by
  obtain ⟨ms, st, env, N, R, re, w, g⟩ := q
  simp only [wpS] at w
  exact g.ct env st ms σ H w (List.prefix_refl _) (Keep.refl _) R re
theorem rs_raise {x : Exc} (h : PS X st (fun _ σ H => W (.ref (xa x)) none σ H)) : PS X st (RS X.K W xa (.raise x)) := h.weak fun D σ H q => by
  obtain ⟨ms, st, env, N, R, re, w, g⟩ := q
  simp only [wpS] at w
  exact g.ex x env st ms σ H w (List.prefix_refl _) (Keep.refl _) R re
theorem rs_ife {A B : List S} (h : PS X st (tIfS (RT X.K W xa c) (RSs X.K W xa A) (RSs X.K W xa B))) : PS X st (RS X.K W xa (.ife c A B)) := h.weak fun D σ H q => by
  obtain ⟨ms, st, env, N, R, re, w, g⟩ := q
  simp only [wpS] at w
  refine ⟨ms, st, env, _, _, R, re, w, fun d st1 ms1 H1 q1 e1 k1 R1 hd => ?_, g.gx re⟩
  obtain ⟨r, hr, q2, q3⟩ := q1
  refine ⟨r, hr, ?_⟩
  cases r with
  | true => exact iteT ⟨ms1, st1, env, N, R1, re.keep e1 k1, q2 rfl, g.go e1 k1⟩
  | false => exact iteF ⟨ms1, st1, env, N, R1, re.keep e1 k1, q3 rfl, g.go e1 k1⟩
theorem rss_nil : PSs X [] (RSs X.K W xa []) := pss_nil.weak fun D σ H q => by
  obtain ⟨ms, st, env, N, R, re, w, g⟩ := q
  simp only [wpSs] at w
  exact g.nx env st ms σ H w (List.prefix_refl _) (Keep.refl _) R re
theorem rss_cons {s : S} {ss : List S} {rest : List Stmt} (h1 : PS X st (RS X.K W xa s)) (h2 : PSs X rest (RSs X.K W xa ss)) : PSs X (st :: rest) (RSs X.K W xa (s :: ss)) := (pss_cons h1 h2).weak fun D σ H q => by
  obtain ⟨ms, st, env, N, R, re, w, g⟩ := q
  simp only [wpSs] at w
  exact ⟨ms, st, env, _, R, re, w, ⟨fun env' st' ms' σ' H' q e k R' re' => ⟨ms', st', env', N, R', re', q, g.go e k⟩, g.rt, g.bk, g.ct, g.ex⟩⟩
theorem rs_aug {i : Nat} {o : Bop} {f : Int → Int → Int} (h : PS X st (tAug i (RE X.K W xa e) (ipI f))) (hf : ∀ (a b : Int) (st : Store) (Q : Post), binD o (.int a) (.int b) st Q → Q (.int (f a b)) st) : PS X st (RS X.K W xa (.aug i o e)) := h.weak fun D σ H q => by
  obtain ⟨ms, st, env, N, R, re, w, g⟩ := q
  simp only [wpS] at w
  obtain ⟨d, hd, w⟩ := w
  obtain ⟨v, hv, rv⟩ := re.2 i d hd
  refine ⟨v, hv, ms, st, env, _, _, R, re, w, fun d2 st1 ms1 v2 H1 q1 e1 k1 R1 hd2 => ?_, g.gx re⟩
  obtain ⟨a, b, rfl, rfl, q2⟩ := q1
  refine ⟨a, b, int_rep rv, int_rep hd2, ?_⟩
  exact g.nx _ st1 ms1 _ H1 (hf _ _ _ _ q2) e1 k1 R1 ((re.keep e1 k1).set rv_int)
theorem rs_while {B : List S} (h : PS X st (tWhile (RT X.K W xa c) (RSs X.K W xa B))) : PS X st (RS X.K W xa (.while c B)) := h.weak fun D σ H q => by
  obtain ⟨ms, st, env, N, R, re, w, g⟩ := q
  simp only [wpS] at w
  obtain ⟨n, w⟩ := w
  generalize hstep : (fun (next : Env' → Store → Prop) (env1 : Env') (st1 : Store) => wpE c env1 st1 (fun x st2 => ∃ r, truthD st2 x = some r ∧
      (r = true → wpSs B env1 st2 { N with nx := next, ct := next, bk := N.nx }) ∧ (r = false → N.nx env1 st2)) (fun x st1 => N.ex x env1 st1)) = step at w
  refine ⟨fun m σ1 H1 => ∃ ms1 st1 env1, ms <+: ms1 ∧ Keep H H1 ∧ Rel X.K ms1 st1 H1 ∧ RelE X.K ms1 H1 env1 σ1 ∧ loopN step m env1 st1, ⟨n, ms, st, env, List.prefix_refl _, Keep.refl _, R, re, w⟩, ?_⟩
  rintro m σ1 H1 ⟨ms1, st1, env1, e1, k1, R1, re1, w1⟩
  cases m with
  | zero => exact w1.elim
  | succ m =>
    have w1 : step (loopN step m) env1 st1 := w1
    rw [← hstep] at w1
    refine ⟨ms1, st1, env1, _, _, R1, re1, w1, fun d st2 ms2 H2 q2 e2 k2 R2 hd => ?_, (g.go e1 k1).gx re1⟩
    obtain ⟨r, hr, q3, q4⟩ := q2
    refine ⟨r, hr, ?_⟩
    cases r with
    | false => exact iteF (g.nx env1 st2 ms2 σ1 H2 (q4 rfl) (e1.trans e2) (k1.trans k2) R2 (re1.keep e2 k2))
    | true =>
      refine iteT ⟨fun σ' H' => ∃ ms' st' env', ms <+: ms' ∧ Keep H H' ∧ Rel X.K ms' st' H' ∧ RelE X.K ms' H' env' σ' ∧ loopN step m env' st', fun σ' H' n => ⟨m, Nat.lt_succ_self m, n⟩, ms2, st2, env1, _, R2, re1.keep e2 k2, q3 rfl, ?_⟩
      have e02 := e1.trans e2
      have k02 := k1.trans k2
      have nxt : GetsE X.K ms2 H2 (loopN step m) fun σ' H' => ∃ ms' st' env', ms <+: ms' ∧ Keep H H' ∧ Rel X.K ms' st' H' ∧ RelE X.K ms' H' env' σ' ∧ loopN step m env' st' :=
        fun env' st' ms' σ' H' q e' k' R' re' => ⟨ms', st', env', e02.trans e', k02.trans k', R', re', q⟩
      exact ⟨by rw [hstep]; exact nxt, (g.rt).go e02 k02, g.nx.go e02 k02, by rw [hstep]; exact nxt, g.ex.go e02 k02⟩
theorem rs_for {tg : Tgt} {k : IK} {its : List E} {B : List S} (h : PS X st (tFor (RI X.K W xa k its) (gT X.K tg) (RSs X.K W xa B))) : PS X st (RS X.K W xa (.forr tg k its B)) := h.weak fun D σ H q => by
  obtain ⟨ms, st, env, N, R, re, w, g⟩ := q
  simp only [wpS] at w
  refine ⟨ms, st, env, (fun l gd st1 => forN gd _ N.nx l env st1), _, R, re, w, fun l gd st1 ms1 H1 J q1 e1 k1 R1 JO => ?_, g.gx re⟩
  have q1 : forN gd _ N.nx l env st1 := q1
  generalize hstep : (fun (x : Ev.D) (next : Env' → Store → Prop) (env1 : Env') (st2 : Store) => asgD tg x env1 fun env' => wpSs B env' st2 { N with nx := next, ct := next, bk := N.nx }) = step at q1
  refine ⟨fun i m σ2 H2 => m = l.length - i ∧ i ≤ l.length ∧ ∃ ms2 st2 env2, ms1 <+: ms2 ∧ Keep H1 H2 ∧ Rel X.K ms2 st2 H2 ∧ RelE X.K ms2 H2 env2 σ2 ∧ forN gd step N.nx (l.drop i) env2 st2,
    ⟨l.length, by simp, Nat.zero_le _, ms1, st1, env, List.prefix_refl _, Keep.refl _, R1, re.keep e1 k1, by rw [List.drop_zero]; exact q1⟩, ?_⟩
  rintro i m σ2 H2 ⟨rfl, hi, ms2, st2, env2, e2, k2, R2, re2, q2⟩
  by_cases hlt : i < l.length
  · right
    rw [List.drop_eq_getElem_cons hlt] at q2
    obtain ⟨gok, q3⟩ := q2
    refine ⟨JO.go ms2 st2 H2 i e2 k2 R2 gok hlt, fun σ' H' => l.length - (i + 1) = l.length - (i + 1) ∧ i + 1 ≤ l.length ∧ ∃ ms3 st3 env3, ms1 <+: ms3 ∧ Keep H1 H' ∧ Rel X.K ms3 st3 H' ∧ RelE X.K ms3 H' env3 σ' ∧ forN gd step N.nx (l.drop (i + 1)) env3 st3, fun σ' H' n => ⟨_, by omega, n⟩, fun x H3 yl => ?_⟩
    obtain ⟨k3, R3, d, hd, rd⟩ := JO.yld ms2 st2 H2 i x H3 e2 k2 R2 gok hlt yl
    rw [List.getElem?_eq_getElem hlt] at hd
    cases hd
    rw [← hstep] at q3
    refine gT_ok (vs := []) (.inl rfl) (re2.keep (List.prefix_refl _) k3) rd q3 fun env' σ' w' re' _ => ?_
    refine ⟨ms2, st2, env', _, R3, re', w', ?_⟩
    have e02 := e1.trans e2
    have k02 := (k1.trans k2).trans k3
    have nxt : GetsE X.K ms2 H3 (forN gd step N.nx (l.drop (i + 1))) fun σ' H' => l.length - (i + 1) = l.length - (i + 1) ∧ i + 1 ≤ l.length ∧ ∃ ms3 st3 env3, ms1 <+: ms3 ∧ Keep H1 H' ∧ Rel X.K ms3 st3 H' ∧ RelE X.K ms3 H' env3 σ' ∧ forN gd step N.nx (l.drop (i + 1)) env3 st3 :=
      fun env' st' ms' σ' H' q e' k' R' re' => ⟨rfl, hlt, ms', st', env', e2.trans e', (k2.trans k3).trans k', R', re', q⟩
    exact ⟨by rw [hstep]; exact nxt, g.rt.go e02 k02, g.nx.go e02 k02, by rw [hstep]; exact nxt, g.ex.go e02 k02⟩
  · left
    have hi' : i = l.length := by omega
    subst hi'
    rw [List.drop_length] at q2
    obtain ⟨gok, q3⟩ := q2
    exact ⟨JO.stop ms2 st2 H2 e2 k2 R2 gok, g.nx env2 st2 ms2 σ2 H2 q3 (e1.trans e2) (k1.trans k2) R2 re2⟩
/-! ### raise -/
def exN : Exc → Str
  | .tooMany => "TooMany"
  | .unfit => "Unfit"
  | .canNot => "CanNot"
/-- an exception's class, where X is -/
def ExK (X : Cx) (xa : Exc → Addr) (x : Exc) : Prop := ∃ (bmB : List Value) (B newId initId : String), ExcBaseFacts B newId initId bmB ∧ PySem.W.excIn X.K (xa x) bmB newId = true ∧ X.mg (exN x) = some (.ref (xa x)) ∧ PySem.W.keepIn X.K (.ref (xa x)) = true ∧ Raises X (.ref (xa x))
theorem pmk_own0 {C : Addr} {bmB : List Value} {B newId initId : String} {x : Str} {p pos : Pos} (F : ExcBaseFacts B newId initId bmB) (q : PySem.W.excIn X.K C bmB newId = true) (gC : X.mg x = some (.ref C))
    (kC : PySem.W.keepIn X.K (.ref C) = true) (r : Raises X (.ref C)) (hg : Gl X x) (hdb : (x == ("__debug__" : Str)) = false) :
    PMk X (.Call (.Name x p) [] [] pos) (fun σ H Q => Q (.ref C) none H) := by
  intro pins s σ H Q I h
  refine wpAny_Call_Name_kw (ld_glob I hg gC ?_ hdb)
  refine PySem.W.callWith_K0 I.kIn kC ?_
  show wpAny _ _ (call (.ref C) []) _ _ _
  obtain ⟨bm, N, nm, qn, bs, hdct, sn, sub, ab, col, dd, k0, k1, k2, k3, k5, mN, hC, hN, hni, T⟩ := exc_obj I.kIn q
  refine wpAny_call_exc_subT F T hC hN hni (fun h' e hm => ?_) (by show 0 ≤ sizeLine; omega)
  exact mk_of I hm r h (I.hok.gone hm.new)
end
end Ev

set_option Elab.async false
set_option linter.all false
set_option maxRecDepth 100000
set_option maxHeartbeats 16000000
/-! Ev6c: the look at statements; and: what passes it does what is wanted. -/
namespace Ev
open PySem PySem.Spec PyProof.Rows L2
def allT : Str → Bool := fun _ => true
def eIsLc : E → Bool
  | .lc _ _ _ _ _ => true
  | _ => false
def isName : Expr → Bool
  | .Name _ _ => true
  | _ => false
def noSwap (sc : Scope) : Expr → Bool
  | .Tuple ts _ _ => (swNames sc ts).length != ts.length
  | _ => false
def setB (N : List Str) (sc : Scope) (tg : Tgt) (e : E) (xt x : Expr) : Bool := match x with
  | .ListComp _ _ scope cp => (match tg, xt with
    | .nm i, .Name y py => nmB N allT sc i y && (!(swLc sc y py cp scope) || eIsLc e)
    | _, _ => false)
  | .SetComp _ _ _ _ => false
  | .DictComp _ _ _ _ _ => false
  | .Tuple _ _ _ => (isName xt || noSwap sc xt) && tgB N allT sc tg xt
  | .List _ _ => isName xt && tgB N allT sc tg xt
  | _ => tgB N allT sc tg xt
def noComp : Expr → Bool
  | .ListComp _ _ _ _ => false
  | .SetComp _ _ _ _ => false
  | .DictComp _ _ _ _ _ => false
  | _ => true
def parB (N : List Str) (sc : Scope) : List Nat → List Str → Bool
  | [], [] => true
  | i :: is, y :: ys => decide (N[i]? = some y) && decide (sc.names.lookup y = some .local) && parB N sc is ys
  | _, _ => false
def itB (N : List Str) (sc : Scope) (tg : Tgt) (k : IK) (its : List E) (xi : Expr) : Bool := match k, xi with
  | .seq, xi => trEs N its sc [xi]
  | .range1, .Call (.Name y _) [l] [] _ => decide (y = "range") && gloB sc y && trEs N its sc [l]
  | .range2, .Call (.Name y _) [l, r] [] _ => decide (y = "range") && gloB sc y && trEs N its sc [l, r]
  | .enum, .Call (.Name y _) [l] [] _ => decide (y = "enumerate") && gloB sc y && isNms tg && trEs N its sc [l]
  | .zip, .Call (.Name y _) [l, r] [] _ => decide (y = "zip") && gloB sc y && isNms tg && trEs N its sc [l, r]
  | _, _ => false
mutual
def trS (N : List Str) (sc : Scope) : S → Stmt → Bool
  | .set tg e, x => match x with
    | .Assign [xt] v _ => setB N sc tg e xt v && trE N e sc v
    | _ => false
  | .par is es, x => match x with
    | .Assign [.Tuple ts _ _] (.Tuple vs _ _) _ => swB sc ts vs && parB N sc is (swNames sc ts) && decide (es.length = is.length) && decide (is.length ≤ 30) && trEs N es sc vs
    | _ => false
  | .seti o i e, x => match x with
    | .Assign [.Subscript xo xi _] v _ => plainIxB xi && trE N e sc v && trE N o sc xo && trE N i sc xi
    | _ => false
  | .aug i o e, x => match x with
    | .AugAssign (.Name y _) op v _ => nmB N allT sc i y && (match o, op with | .add, .Add => true | .sub, .Sub => true | _, _ => false) && trE N e sc v
    | _ => false
  | .ret e, x => match x with
    | .Return (some v) _ => trE N e sc v
    | _ => false
  | .retN, x => match x with
    | .Return none _ => true
    | _ => false
  | .ife c a b, x => match x with
    | .If xc xa xb _ => trE N c sc xc && trSs N sc a xa && trSs N sc b xb
    | _ => false
  | .forr tg k its b, x => match x with
    | .For xt xi xb [] _ => tgB N allT sc tg xt && itB N sc tg k its xi && trSs N sc b xb
    | _ => false
  | .while c b, x => match x with
    | .While xc xb [] _ => trE N c sc xc && trSs N sc b xb
    | _ => false
  | .expr e, x => match x with
    | .Expr v _ => noComp v && trE N e sc v
    | _ => false
  | .raise e, x => match x with
    | .Raise (some (.Call (.Name y _) [] [] _)) none _ => decide (y = exN e) && gloB sc y
    | _ => false
  | .pass, x => match x with
    | .Pass _ => true
    | .Expr (.Constant (.str _) _ _) _ => true
    | _ => false
  | .brk, x => match x with
    | .Break _ => true
    | _ => false
  | .cont, x => match x with
    | .Continue _ => true
    | _ => false
def trSs (N : List Str) (sc : Scope) : List S → List Stmt → Bool
  | [], xs => xs.isEmpty
  | s :: ss, xs => match xs with
    | x :: xs => trS N sc s x && trSs N sc ss xs
    | [] => false
end
section
variable (PF : Fn → Prop) (PK : Fn → Nat → List Str → List Nat → Prop) (PG : Str → Int → Prop) (PX : Exc → Prop)
mutual
def KnS : S → Prop
  | .set _ e => KnE PF PK PG e
  | .par _ es => KnEs PF PK PG es
  | .seti o i e => KnE PF PK PG o ∧ KnE PF PK PG i ∧ KnE PF PK PG e
  | .aug _ _ e => KnE PF PK PG e
  | .ret e => KnE PF PK PG e
  | .retN => True
  | .ife c a b => KnE PF PK PG c ∧ KnSs a ∧ KnSs b
  | .forr _ _ its b => KnEs PF PK PG its ∧ KnSs b
  | .while c b => KnE PF PK PG c ∧ KnSs b
  | .expr e => KnE PF PK PG e
  | .raise x => PX x
  | .pass => True
  | .brk => True
  | .cont => True
def KnSs : List S → Prop
  | [] => True
  | s :: ss => KnS s ∧ KnSs ss
end
end
structure CtxS (X : Cx) (W : WX) (xa : Exc → Addr) (PF : Fn → Prop) (PK : Fn → Nat → List Str → List Nat → Prop) (PG : Str → Int → Prop) (PX : Exc → Prop) : Prop where
  base : Ctx X W xa PF PK PG
  passes : PassesOwn (model X.prog X.w) X.A X.env X.xe
  fnA : ∀ x, X.fn x = true
  ex : ∀ x, PX x → ExK X xa x
section
variable {X : Cx} {W : WX} {xa : Exc → Addr} {PF : Fn → Prop} {PK : Fn → Nat → List Str → List Nat → Prop} {PG : Str → Int → Prop} {PX : Exc → Prop} {sc : Scope} {N : List Str}
theorem par_of {N : List Str} (hNe : X.N = N) (hsc : X.env.scope = sc) : ∀ {is : List Nat} {ns : List Str}, parB N sc is ns = true → Paired (fun i x => X.N[i]? = some x ∧ X.env.scope.names.lookup x = some .local) is ns
  | [], [], _ => .nil
  | i :: is, y :: ys, h => by
    simp only [parB, Bool.and_eq_true, decide_eq_true_eq] at h
    exact .cons ⟨by rw [hNe]; exact h.1.1, by rw [hsc]; exact h.1.2⟩ (par_of hNe hsc h.2)
  | [], _ :: _, h => by simp [parB] at h
  | _ :: _, [], h => by simp [parB] at h
theorem set_sound (C : CtxS X W xa PF PK PG PX) (hNe : X.N = N) (hsc : X.env.scope = sc) {tg : Tgt} {e : E} {xt x : Expr} {pos : Pos} (hk : KnE PF PK PG e) (h : setB N sc tg e xt x = true) (hx : trE N e sc x = true) :
    PS X (.Assign [xt] x pos) (tAsg (RE X.K W xa e) (gT X.K tg)) := by
  have tg_ok : tgB N allT sc tg xt = true → L2.PG X xt (gT X.K tg) := fun q => tg_pg (fn := allT) C.base.hN C.base.calm hNe hsc (fun y _ => C.fnA y) q
  have he := (soundE N hNe C.base hsc e x hk hx).pe
  have tgs : tgB N allT sc tg xt = true → (∃ y p, xt = .Name y p) ∨ ∃ l k p, xt = .Tuple l k p := fun q => by
    cases tg <;> cases xt <;> first | (simp [tgB] at q; done) | exact .inl ⟨_, _, rfl⟩ | exact .inr ⟨_, _, _, rfl⟩
  cases x
  case ListComp xe gs scope cp =>
    simp only [setB] at h
    split at h
    · rename_i i y py
      simp only [Bool.and_eq_true, Bool.or_eq_true, Bool.not_eq_true'] at h
      obtain ⟨h1, h2⟩ := h
      have sw := sw_lc (elt := xe) (gs := gs) (scope := scope) (pos := cp) (py := py) (y := y) (l := pos.line) C.base.kind
      rw [hsc] at sw
      cases hb : swLc sc y py cp scope with
      | false =>
        rw [hb] at sw
        exact ps_asg he (tg_ok (by simpa [tgB] using h1)) sw
      | true =>
        rw [hb] at sw
        rcases h2 with h2 | h2
        · rw [hb] at h2; cases h2
        · cases e <;> first | (simp [eIsLc] at h2; done) | skip
          obtain ⟨_, xe', gs', scope', pos', e', f⟩ := soundLc N hNe C.base hsc hk hx
          cases e'
          have hn : X.N[i]? = some y := by
            rw [hNe]
            simp only [nmB, Bool.and_eq_true, decide_eq_true_eq] at h1
            exact h1.1
          have hl : X.env.scope.names.lookup y = some .local := by
            rw [hsc]
            simp only [swLc, Bool.and_eq_true, beq_iff_eq] at hb
            exact hb.1.1
          exact f hn hl sw
    · cases h
  case SetComp => simp [setB] at h
  case DictComp => simp [setB] at h
  case Tuple =>
    simp only [setB, Bool.and_eq_true, Bool.or_eq_true] at h
    obtain ⟨h1, h2⟩ := h
    rcases tgs h2 with ⟨y, p, rfl⟩ | ⟨l, k, p, rfl⟩
    · exact ps_asg he (tg_ok h2)
    · rcases h1 with h1 | h1
      · simp [isName] at h1
      · simp only [noSwap] at h1
        exact ps_asg he (tg_ok h2) rfl (sw_none (by rw [hsc]; exact h1))
  case List =>
    simp only [setB, Bool.and_eq_true] at h
    cases xt <;> first | (simp [isName] at h; done) | skip
    exact ps_asg he (tg_ok h.2)
  all_goals
    have h : tgB N allT sc tg xt = true := h
    rcases tgs h with ⟨y, p, rfl⟩ | ⟨l, k, p, rfl⟩
    · exact ps_asg he (tg_ok h)
    · exact ps_asg he (tg_ok h)
mutual
theorem soundS (hNe : X.N = N) (C : CtxS X W xa PF PK PG PX) (hsc : X.env.scope = sc) : ∀ (s : S) (x : Stmt), KnS PF PK PG PX s → trS N sc s x = true → PS X x (RS X.K W xa s)
  | .set tg e, x, hk, h => by
    simp only [trS] at h
    simp only [KnS] at hk
    split at h
    · simp only [Bool.and_eq_true] at h
      exact rs_set (set_sound C hNe hsc hk h.1 h.2)
    · cases h
  | .par is es, x, hk, h => by
    simp only [trS] at h
    simp only [KnS] at hk
    split at h
    · simp only [Bool.and_eq_true, decide_eq_true_eq] at h
      obtain ⟨⟨⟨⟨h1, h2⟩, h3⟩, h4⟩, h5⟩ := h
      exact rs_par h3 (ps_pars C.base.calm C.base.hN (par_of hNe hsc h2) h4 (snds_pa (soundEs N hNe C.base hsc es _ hk h5) (notStars h5).1) (by have := sw_some (env := X.env) (kt := by assumption) (k2 := by assumption) (pt := by assumption) (pt2 := by assumption) C.base.kind (by rw [hsc]; exact h1); rw [hsc] at this; exact this))
    · cases h
  | .seti o i e, x, hk, h => by
    simp only [trS] at h
    simp only [KnS] at hk
    split at h
    · rename_i xo xi p v pos
      simp only [Bool.and_eq_true] at h
      obtain ⟨⟨⟨h1, h2⟩, h3⟩, h4⟩ := h
      have so := (soundE N hNe C.base hsc o _ hk.1 h3).pe
      have si := (soundE N hNe C.base hsc i _ hk.2.1 h4).pe
      have se := (soundE N hNe C.base hsc e _ hk.2.2 h2).pe
      refine rs_seti (ps_asg se (pg_sub so si set_D (by cases xi <;> first | (simp [plainIxB] at h1; done) | (intro _; rfl))) (by cases v <;> rfl) (by cases v <;> rfl) (by rfl))
    · cases h
  | .aug i o e, x, hk, h => by
    simp only [trS] at h
    simp only [KnS] at hk
    split at h
    · rename_i y _ _ _ _
      simp only [Bool.and_eq_true] at h
      obtain ⟨⟨h1, h2⟩, h3⟩ := h
      have se := (soundE N hNe C.base hsc e _ hk h3).pe
      simp only [nmB, Bool.and_eq_true, decide_eq_true_eq] at h1
      obtain ⟨hn, h1⟩ := h1
      have hl : Loc X.env.scope y := by
        rw [hsc]
        show _ ∨ _
        split at h1
        · rename_i q; exact .inl q
        · rename_i q; exact .inr q
        · cases h1
      split at h2
      · exact rs_aug (ps_aug C.base.hN (by rw [hNe]; exact hn) hl se ip_add (.inl (C.fnA _))) fun a b st Q q => q
      · exact rs_aug (ps_aug C.base.hN (by rw [hNe]; exact hn) hl se ip_sub (.inl (C.fnA _))) fun a b st Q q => q
      · cases h2
    · cases h
  | .ret e, x, hk, h => by
    simp only [trS] at h
    simp only [KnS] at hk
    split at h
    · exact rs_ret (ps_ret (soundE N hNe C.base hsc e _ hk h).pe)
    · cases h
  | .retN, x, hk, h => by
    simp only [trS] at h
    split at h
    · exact rs_retN ps_retN
    · cases h
  | .ife c a b, x, hk, h => by
    simp only [trS] at h
    simp only [KnS] at hk
    split at h
    · simp only [Bool.and_eq_true] at h
      exact rs_ife (ps_if (soundE N hNe C.base hsc c _ hk.1 h.1.1).pt (soundSs hNe C hsc a _ hk.2.1 h.1.2) (soundSs hNe C hsc b _ hk.2.2 h.2))
    · cases h
  | .forr tg k its b, x, hk, h => by
    simp only [trS] at h
    simp only [KnS] at hk
    split at h
    · simp only [Bool.and_eq_true] at h
      obtain ⟨⟨h1, h2⟩, h3⟩ := h
      have hit := iter_sound (W := W) C.base hsc (tg_tuple h1) (fun xs q => soundEs N hNe C.base hsc its xs hk.1 q) (by unfold itB at h2; exact h2)
      exact rs_for (ps_for C.passes C.base.calm hit.1 (tg_pg (fn := allT) C.base.hN C.base.calm hNe hsc (fun y _ => C.fnA y) h1) (soundSs hNe C hsc b _ hk.2 h3) (fold_of hit.2))
    · cases h
  | .while c b, x, hk, h => by
    simp only [trS] at h
    simp only [KnS] at hk
    split at h
    · simp only [Bool.and_eq_true] at h
      exact rs_while (ps_while C.passes (soundE N hNe C.base hsc c _ hk.1 h.1).pt (soundSs hNe C hsc b _ hk.2 h.2))
    · cases h
  | .expr e, x, hk, h => by
    simp only [trS] at h
    simp only [KnS] at hk
    split at h
    · rename_i v pos
      simp only [Bool.and_eq_true] at h
      exact rs_expr (ps_expr (soundE N hNe C.base hsc e _ hk h.2).pe (by cases v <;> first | rfl | (simp [noComp] at h)))
    · cases h
  | .raise e, x, hk, h => by
    simp only [trS] at h
    simp only [KnS] at hk
    split at h
    · simp only [Bool.and_eq_true, decide_eq_true_eq] at h
      obtain ⟨rfl, h2⟩ := h
      obtain ⟨bmB, B, newId, initId, F, q, gC, kC, r⟩ := C.ex e hk
      exact rs_raise (ps_raise C.base.calm C.base.tk (pmk_own0 F q gC kC r (glo_of hsc h2) (by cases e <;> decide)))
    · cases h
  | .pass, x, hk, h => by
    simp only [trS] at h
    split at h
    · exact rs_pass ps_pass
    · exact rs_pass ps_doc
    · cases h
  | .brk, x, hk, h => by
    simp only [trS] at h
    split at h
    · exact rs_brk ps_break
    · cases h
  | .cont, x, hk, h => by
    simp only [trS] at h
    split at h
    · exact rs_cont ps_continue
    · cases h
theorem soundSs (hNe : X.N = N) (C : CtxS X W xa PF PK PG PX) (hsc : X.env.scope = sc) : ∀ (ss : List S) (xs : List Stmt), KnSs PF PK PG PX ss → trSs N sc ss xs = true → PSs X xs (RSs X.K W xa ss)
  | [], xs, hk, h => by
    simp only [trSs, List.isEmpty_iff] at h
    subst h
    exact rss_nil
  | s :: ss, xs, hk, h => by
    simp only [KnSs] at hk
    cases xs with
    | nil => simp [trSs] at h
    | cons x xs =>
      simp only [trSs, Bool.and_eq_true] at h
      exact rss_cons (soundS hNe C hsc s x hk.1 h.1) (soundSs hNe C hsc ss xs hk.2 h.2)
end
end
end Ev

set_option Elab.async false
set_option linter.all false
set_option maxRecDepth 100000
set_option maxHeartbeats 16000000
/-! Ev7: a def keeps its contract. -/
namespace Ev
open PySem PySem.Spec PyProof.Rows L2
def startD (N : List Str) (ds : List D) : Env' := ds.map some ++ List.replicate (N.length - ds.length) none
/-- a value in the store as it is; or a pure one, and what was laid meanwhile is forgotten -/
def orP (st : Store) (Q : Post) : Post := fun d st' => Q d st' ∨ (D.pure d = true ∧ st <+: st' ∧ Q d st)
def endF (st : Store) (Q : Post) (Ex : XPost) : En := ⟨fun _ st' => orP st Q .non st', orP st Q, fun _ _ => False, fun _ _ => False, fun x _ st' => Ex x st' ∨ (st <+: st' ∧ Ex x st)⟩
/-- a def at level k, without its binding -/
def FnG (P : Program) (w : World) (K : PySem.W.Frag) (mg : Str → Option Value) (base : Heap) (xa : Exc → Addr) (k : Nat) (f : Fn) : Prop := ∃ (a : Addr) (fd : FuncData), mg f.name = some (.ref a) ∧ PySem.W.keepIn K (.ref a) = true ∧
  FnOk P w K mg base (L2.CX P w) k a fd f.ps (spD K xa f.ps.length f.con) ∧ Binds K fd f.ps []
def KwG (P : Program) (w : World) (K : PySem.W.Frag) (mg : Str → Option Value) (base : Heap) (xa : Exc → Addr) (k : Nat) (f : Fn) (n : Nat) (ks : List Str) (perm : List Nat) : Prop := ∃ (a : Addr) (fd : FuncData), mg f.name = some (.ref a) ∧ PySem.W.keepIn K (.ref a) = true ∧
  FnOk P w K mg base (L2.CX P w) k a fd f.ps (spD K xa f.ps.length f.con) ∧
  ∀ (s : Shared) (us ws : List Value), K.In s.heap → us.length = n → ws.length = ks.length → BindsTo s fd ⟨us, ks.zip ws⟩ (f.ps.zip (reord us ws perm))
def ExG (K : PySem.W.Frag) (mg : Str → Option Value) (xa : Exc → Addr) (x : Exc) : Prop := ∃ (bmB : List Value) (B newId initId : String), ExcBaseFacts B newId initId bmB ∧ PySem.W.excIn K (xa x) bmB newId = true ∧ mg (exN x) = some (.ref (xa x)) ∧ PySem.W.keepIn K (.ref (xa x)) = true ∧
  PySem.W.subIn K (.ref (xa x)) (.type "BaseException") = some true ∧ PySem.W.typeIn K (.ref (xa x)) = some (.type "type")
abbrev KnG (P : Program) (w : World) (K : PySem.W.Frag) (mg : Str → Option Value) (base : Heap) (xa : Exc → Addr) (k : Nat) (b : List S) : Prop :=
  KnSs (FnG P w K mg base xa k) (KwG P w K mg base xa k) (fun x i => ∃ t, mg x = some (.int i t)) (ExG K mg xa) b
theorem relE_start {K : PySem.W.Frag} {ms : List Addr} {H : Hp} {N : List Str} {ds : List D} {vs : List V} (h : RepL K ms H ds vs) : RelE K ms H (startD N ds) (start N vs) := by
  have hl := h.length
  refine ⟨by simp [startD, L2.start, hl], fun i d hi => ?_⟩
  unfold startD at hi
  by_cases hlt : i < ds.length
  · rw [List.getElem?_append_left (by simpa using hlt)] at hi
    simp only [List.getElem?_map, List.getElem?_eq_getElem hlt, Option.map_some, Option.some.injEq] at hi
    subst hi
    have hv : i < vs.length := by omega
    refine ⟨vs[i], ?_, ?_⟩
    · unfold L2.start
      rw [List.getElem?_append_left (by simpa using hv)]
      simp [hv]
    · have : ∀ {ds : List D} {vs : List V} (h : RepL K ms H ds vs) (i : Nat) (h1 : i < ds.length) (h2 : i < vs.length), RepV K ms H ds[i] vs[i] := by
        intro ds vs h
        induction h with
        | nil => intro i h1; simp at h1
        | cons a t ih =>
          intro i h1 h2
          cases i with
          | zero => exact a
          | succ i => exact ih i (by simpa using h1) (by simpa using h2)
      exact this h i hlt hv
  · rw [List.getElem?_append_right (by simpa using hlt)] at hi
    rw [List.getElem?_replicate] at hi
    split at hi <;> simp at hi
theorem fn_ok {P : Program} {w : World} {K : PySem.W.Frag} {mg : Str → Option Value} {base : Heap} {xa : Exc → Addr} {x qual : Str} {params : Arguments} {body : List Stmt} {scope : Scope} {f : Addr} {fd : FuncData} {N ps : List Str} {k : Nat} {con : Con} {b : List S}
    (free : ∀ x ∈ bltNames, mg x = none) (F : FunD K x qual params body scope [] [] f fd) (S : FnScope N ps scope) (tr : trSs N scope b body = true) (kn : KnG P w K mg base xa k b)
    (law : ∀ (ds : List D) (st : Store) (Q : Post) (Ex : XPost), ds.length = ps.length → con ds st Q Ex → wpSs b (startD N ds) st (endF st Q Ex)) :
    FnOk P w K mg base (L2.CX P w) (k + 1) f fd ps (spD K xa ps.length con) := by
  refine F.ok S (fun vs H Q E h => h.1) (fun cdv A outer s H vs Q E hr h => ?_)
  have C : CtxS (cxOf (L2.CX P w) P w K mg base N qual scope f cdv A outer s H E) (fun cls d _ H => E cls d H) xa (FnG P w K mg base xa k) (KwG P w K mg base xa k) (fun x i => ∃ t, mg x = some (.int i t)) (ExG K mg xa) := by
    refine ⟨⟨S.nd, rfl, ?_, takes_of rfl rfl rfl rfl, S.kind, free, ?_, ?_, fun x i h => h⟩, passes_of rfl, fun _ => rfl, ?_⟩
    · have := hr.un
      show (A.deeper (envOfC qual scope s.heap.objs.size f cdv)).units + 65 < cLine
      omega
    · rintro g ⟨a, gd, h1, h2, h3, h4⟩
      exact ⟨a, gd, k, h1, h2, hr, h3, h4⟩
    · rintro g n ks perm ⟨a, gd, h1, h2, h3, h4⟩
      exact ⟨a, gd, k, h1, h2, hr, h3, h4⟩
    · rintro e ⟨bmB, B, newId, initId, h1, h2, h3, h4, h5, h6⟩
      exact ⟨bmB, B, newId, initId, h1, h2, h3, h4, raises_own h5 h6⟩
  refine ⟨_, soundSs (sc := scope) (N := N) rfl C rfl b body kn tr, ?_⟩
  obtain ⟨hl, ms, st, ds, Qp, Ex, R, rl, hc, g, gx⟩ := h
  refine ⟨ms, st, startD N ds, _, R, relE_start rl, law ds st Qp Ex (by rw [rl.length, hl]) hc, ?_⟩
  have g2 : Gets K ms H (orP st Qp) Q := fun d st' ms' v H' q e k' R' hv => by
    rcases q with q | ⟨pu, es, q⟩
    · exact g d st' ms' v H' q e k' R' hv
    · exact g d st ms v H' q (List.prefix_refl _) k' (R.back R' e es) (hv.pure pu)
  refine ⟨fun env' st' ms' σ' H' q e k' R' re' => g2 .non st' ms' .non H' q e k' R' rv_non, g2, fun _ _ _ _ _ q => q.elim, fun _ _ _ _ _ q => q.elim, fun x env' st' ms' σ' H' q e k' R' re' => ?_⟩
  rcases q with q | ⟨es, q⟩
  · exact gx x st' ms' H' q e k' R'
  · exact gx x st ms H' q (List.prefix_refl _) k' (R.back R' e es)
section
variable {P : Program} {w : World} {K : PySem.W.Frag} {mg : Str → Option Value} {base : Heap} {xa : Exc → Addr} {k j : Nat} {f : Fn}
theorem FnG.mono (h : FnG P w K mg base xa j f) (hj : j ≤ k) : FnG P w K mg base xa k f := by
  obtain ⟨a, fd, h1, h2, h3, h4⟩ := h
  exact ⟨a, fd, h1, h2, h3.mono hj, h4⟩
theorem KwG.mono {n : Nat} {ks : List Str} {perm : List Nat} (h : KwG P w K mg base xa j f n ks perm) (hj : j ≤ k) : KwG P w K mg base xa k f n ks perm := by
  obtain ⟨a, fd, h1, h2, h3, h4⟩ := h
  exact ⟨a, fd, h1, h2, h3.mono hj, h4⟩
end
/-- what a law's head tells -/
structure Ux (fa : List He.Fa) (fn : List He.DefD) (K : PySem.W.Frag) (h : Heap) (mg : Str → Option Value) : Prop where
  X : K.In h
  G : h.Ns mainGlobals mg
  c : He.SaysD fa fn K
  free : ∀ x ∈ bltNames, mg x = none
def xaK (K : PySem.W.Frag) (x : Exc) : Addr := He.ga K (exN x)
section
variable {fa : List He.Fa} {fn : List He.DefD} {K : PySem.W.Frag} {h : Heap} {mg : Str → Option Value}
theorem Ux.exc (U : Ux fa fn K h mg) (x : Exc) (i j : Nat) (hi : fa[i]? = some (.glo (exN x))) (hj : fa[j]? = some (.exc (exN x))) : ExG K mg (xaK K) x := by
  obtain ⟨h1, h2, h3, h4⟩ := He.exc_ok (U.c.fact j hj)
  exact ⟨_, _, _, _, PySem.F.excBase_ValueError, h1, He.glo_ok U.X U.G (U.c.fact i hi), h2, h3, h4⟩
theorem Ux.int (U : Ux fa fn K h mg) (i : Nat) {x : Str} {n : Int} (hi : fa[i]? = some (.int x n)) : ∃ t, mg x = some (.int n t) := He.int_ok U.X U.G (U.c.fact i hi)
theorem Ux.glo (U : Ux fa fn K h mg) (i : Nat) {x : Str} (hi : fa[i]? = some (.glo x)) : mg x = some (.ref (He.ga K x)) := He.glo_ok U.X U.G (U.c.fact i hi)
end
end Ev

set_option Elab.async false
set_option linter.all false
set_option maxRecDepth 100000
set_option maxHeartbeats 4000000
/-! Ev8: calls by keywords; the law's own end. -/
namespace Ev
open PySem PySem.Spec PyProof.Rows L2
theorem kb_of {K : PySem.W.Frag} {x qual : Str} {params : Arguments} {body : List Stmt} {scope : Scope} {f : Addr} {fd : FuncData} {ps : List Str} {n : Nat} {ks : List Str} {perm : List Nat} (F : FunD K x qual params body scope [] [] f fd)
    (h : ∀ (kV doc pm : Value) (an : Option Addr) (cdv ct : Value) (us ws : List Value), us.length = n → ws.length = ks.length →
      bindArgs (PySem.W.fnOf x qual params body scope .none kV doc pm an cdv ct) ⟨us, ks.zip ws⟩ = pure (ps.zip (reord us ws perm))) (s : Shared) (us ws : List Value) (X : K.In s.heap) (l1 : us.length = n) (l2 : ws.length = ks.length) :
    BindsTo s fd ⟨us, ks.zip ws⟩ (ps.zip (reord us ws perm)) := by
  obtain ⟨_, _, dV, kV, doc, pm, an, cdv, ct, _, rfl, _, _, hD, _⟩ := F.ex
  rcases hD with ⟨_, rfl⟩ | ⟨e, _⟩
  · exact .of_eq (h kV doc pm an cdv ct us ws l1 l2)
  · exact absurd rfl e
theorem rep_ints {K : PySem.W.Frag} {ms : List Addr} {H : Hp} : ∀ ns : List Int, RepL K ms H (ns.map D.int) (ns.map V.int)
  | [] => .nil
  | _ :: ns => .cons rv_int (rep_ints ns)
/-- what a law's contract gives at its call -/
theorem spD_law {K : PySem.W.Frag} {xa : Exc → Addr} {H : Hp} {a : Addr} {ns : List Int} {con : Con} (hO : Only H) (hS : SqL K H a (ns.map V.int)) (hc : con [.ref 0] [.ro (ns.map D.int)] (fun d _ => d = .bl true) (fun _ _ => False)) :
    spD K xa 1 con [.ref a] H (fun v _ => v = .bl true) (fun _ _ _ => False) := by
  have ro : RoL K H a (ns.map V.int) := by
    rcases hS with (h | h) | h
    · rcases hO a with e | ⟨o, xs, e⟩ <;> rw [e] at h <;> cases h
    · exact .inl h
    · exact .inr h
  refine ⟨rfl, [a], [.ro (ns.map D.int)], [.ref 0], _, _, ⟨fun n k b l r h1 => ?_, rfl, fun n o h => ?_⟩, .cons ⟨a, rfl, rfl⟩ .nil, hc, fun d st' ms' v H' q _ _ _ hv => ?_, fun _ _ _ _ q => q.elim⟩
  · cases n <;> simp at h1
  · cases n with
    | zero =>
      simp at h
      subst h
      exact ⟨a, rfl, _, ro, rep_ints ns⟩
    | succ n => simp at h
  · subst q
    simpa [RepV] using hv
theorem no_exc {P : Program} {w : World} (H : Hp) (s : Shared) (e : Value) (s' : Shared) (h : L2.CX P w [] H s (fun _ _ _ => False) e s') : False := by
  obtain ⟨_, _, _, _, _, _, _, _, _, _, _, _, q⟩ := h
  exact q
/-- a law's end: the contract's world may stand in what is raised -/
theorem ends_with {law : PySem.W.OpenLaw} {most k : Nat} {q : Program} {ls : List Str} {XP : (Str → Option Value) → Heap → Prop} {YP : World → Heap → Prop} {d : DefRec} {px : Str}
    (h1 : law.most = some most) (h2 : most ≤ sizeLine) (h3 : d.params.defaults = []) (h4 : Room k callerA)
    (F : ∀ (w : World) (mg : Str → Option Value) (fa : Addr) (h : Heap), YP w h → h.Ns mainGlobals mg → mg d.name = some (.ref fa) → ∃ (K : PySem.W.Frag) (fd : FuncData) (sp : Sp),
      K.In h ∧ (∀ (s : Shared) (u : Value), BindsTo s fd ⟨[u], []⟩ [(px, u)]) ∧
      (∀ (H : Hp) (a : Addr) (ns : List Int), ns.length ≤ most → Only H → SqL K H a (ns.map V.int) → sp [.ref a] H (fun v _ => v = .bl true) fun _ _ _ => False) ∧
      ∀ base : Heap, K.In base → base.Ns mainGlobals mg → FnOk law.prog w K mg base (L2.CX law.prog w) k fa fd [px] sp) :
    PySem.W.WalkO q ls XP YP law.row.toRowW d [] (fun f vs => PySem.call f vs) := by
  refine Att.attach_call h1 h3 ?_
  intro w _ t mg _ fa _ _ _ _ a vs ns G Y _ _ _ g1 g2 g3 g4 g5
  obtain ⟨K, fd, sp, X, b, hs, ok⟩ := F w mg fa t.heap Y G.T.g g1
  refine law_call X G.T.g G.T.b G.T.builtins G.T.nolimit g5 g2 g3 (Nat.le_trans g4 h2) h4 ok b ?_ ?_
  · intro H o S
    exact hs H a ns g4 o S
  · intro H e s'
    exact no_exc H t e s'
end Ev

set_option Elab.async false
set_option linter.all false
set_option maxRecDepth 100000
set_option maxHeartbeats 4000000
/-! Lg0: plain lemmas about the small language's meaning. -/
namespace Ev
/-! ### loops -/
theorem forN_of {g : Guard} {step : D → (Env' → Store → Prop) → Env' → Store → Prop} {fin : Env' → Store → Prop} (P : Nat → Env' → Store → Prop) :
    ∀ {l : List D} {env : Env'} {st : Store} (h0 : P 0 env st) (hg : ∀ i env st, i ≤ l.length → P i env st → gOk g st)
      (hs : ∀ i x env st next, l[i]? = some x → P i env st → (∀ env' st', P (i + 1) env' st' → next env' st') → step x next env st) (hf : ∀ env st, P l.length env st → fin env st), forN g step fin l env st := by
  intro l
  induction l generalizing P with
  | nil => intro env st h0 hg hs hf; exact ⟨hg 0 env st (Nat.le_refl _) h0, hf env st h0⟩
  | cons x l ih =>
    intro env st h0 hg hs hf
    refine ⟨hg 0 env st (Nat.zero_le _) h0, hs 0 x env st _ rfl h0 fun env' st' h1 => ?_⟩
    exact ih (fun i => P (i + 1)) h1 (fun i env st hi h => hg (i + 1) env st (by simpa using hi) h) (fun i y env st next hy h hn => hs (i + 1) y env st next (by simpa using hy) h hn) (fun env st h => hf env st (by simpa using h))
theorem lcN_of {n0 : Nat} {g : Guard} {step : D → (Store → Prop) → Store → Prop} {fin : Store → Prop} (P : Nat → Store → Prop) :
    ∀ {l : List D} {st : Store} (h0 : P 0 st) (hg : ∀ i st, i ≤ l.length → P i st → gOk g st)
      (hs : ∀ i x st next, l[i]? = some x → P i st → (∀ st', P (i + 1) st' → next st') → step x next st) (hf : ∀ st, P l.length st → fin st), lcN n0 g step fin l st := by
  intro l
  induction l generalizing P with
  | nil => intro st h0 hg hs hf; exact ⟨hg 0 st (Nat.le_refl _) h0, hf st h0⟩
  | cons x l ih =>
    intro st h0 hg hs hf
    refine ⟨hg 0 st (Nat.zero_le _) h0, hs 0 x st _ rfl h0 fun st' h1 => ?_⟩
    exact ih (fun i => P (i + 1)) h1 (fun i st hi h => hg (i + 1) st (by simpa using hi) h) (fun i y st next hy h hn => hs (i + 1) y st next (by simpa using hy) h hn) (fun st h => hf st (by simpa using h))
/-- what stands in a store stands in a longer one -/
theorem pre_st {st st' : Store} (h : st <+: st') {n : Nat} {o : MO} (e : st[n]? = some o) : st'[n]? = some o := by
  obtain ⟨r, rfl⟩ := h
  have hl : n < st.length := by
    rcases Nat.lt_or_ge n st.length with q | q
    · exact q
    · rw [List.getElem?_eq_none q] at e; cases e
  rw [List.getElem?_append_left hl]
  exact e
theorem pre_seq {st st' : Store} (h : st <+: st') {d : D} {l : List D} (e : seqD st d = some l) : seqD st' d = some l := by
  cases d with
  | ref n =>
    simp only [seqD] at e ⊢
    cases q : st[n]? with
    | none => rw [q] at e; cases e
    | some o => rw [pre_st h q]; rw [q] at e; exact e
  | tup l => exact e
  | _ => cases e
theorem pre_gOk {st st' : Store} (h : st <+: st') {g : Guard} (e : gOk g st) : gOk g st' := fun p hp => pre_seq h (e p hp)
/-! ### a comprehension whose parts are pure -/
/-- e gives d at env, whatever stands behind st -/
def Gives (st : Store) (env : Env') (e : E) (d : D) : Prop := ∀ (st2 : Store) (Q : Post) (Ex : XPost), st <+: st2 → Q d st2 → wpE e env st2 Q Ex
def GivesC (st : Store) (env : Env') (c : Option E) (r : Bool) : Prop := ∀ (st2 : Store) (Q : Bool → Store → Prop) (Ex : XPost), st <+: st2 → Q r st2 → wpC c env st2 Q Ex
theorem givesC_none {st : Store} {env : Env'} : GivesC st env none true := fun st2 Q Ex h q => by simpa only [wpC] using q
theorem givesC_some {st : Store} {env : Env'} {e : E} {d : D} {r : Bool} (h : Gives st env e d) (hr : ∀ st2, st <+: st2 → truthD st2 d = some r) : GivesC st env (some e) r := fun st2 Q Ex hp q => by
  simp only [wpC]
  exact h st2 _ _ hp ⟨r, hr st2 hp, q⟩
/-- items l, each kept or not (b) and turned into f -/
theorem wp_lc {tg : Tgt} {k : IK} {its : List E} {cond : Option E} {elt : E} {env : Env'} {st : Store} {Q : Post} {Ex : XPost} {ds : List D} {l : List D} {g : Guard} (f : D → D) (b : D → Bool)
    (hi : ∀ (Q : List D → Store → Prop), Q ds st → wpEs its env st Q Ex) (hit : itemsD k ds st = some (l, g)) (hg : gOk g st) (hl : l.length ≤ line)
    (hx : ∀ x ∈ l, ∃ env', (∀ P : Env' → Prop, P env' → asgD tg x env P) ∧ GivesC st env' cond (b x) ∧ (b x = true → Gives st env' elt (f x)))
    (hQ : Q (.ref st.length) (st ++ [.lst ((l.filter b).map f)])) : wpE (.lc tg k its cond elt) env st Q Ex := by
  simp only [wpE]
  refine hi _ ⟨l, g, hit, ?_⟩
  refine lcN_of (fun i st' => st' = st ++ [.lst (((l.take i).filter b).map f)]) rfl (fun i st' _ e => by rw [e]; exact pre_gOk (List.prefix_append _ _) hg) (fun i x st' next hxi e hn => ?_) (fun st' e => by rw [e, List.take_length]; exact hQ)
  subst e
  obtain ⟨env', ha, hc, he⟩ := hx x (List.mem_of_getElem? hxi)
  refine ha _ (hc _ _ _ (List.prefix_append _ _) ⟨fun hb => he hb _ _ _ (List.prefix_append _ _) ⟨((l.take i).filter b).map f, by simp, ?_, ?_⟩, fun hb => ?_⟩)
  · have h1 : ((l.take i).filter b).length ≤ (l.take i).length := List.length_filter_le _ _
    have hi' : i < l.length := by
      rcases Nat.lt_or_ge i l.length with q | q
      · exact q
      · rw [List.getElem?_eq_none q] at hxi; cases hxi
    rw [List.length_map]
    rw [List.length_take] at h1
    omega
  · refine hn _ ?_
    rw [List.take_succ, hxi]
    simp [List.filter_append, hb]
  · refine hn _ ?_
    rw [List.take_succ, hxi]
    simp [List.filter_append, hb]
/-! ### sizes -/
theorem mulOk_of {i j : Int} {a b : Nat} (ha : i.natAbs < 2 ^ a) (hb : j.natAbs < 2 ^ b) (h : a + b + 2 ≤ 1000000) : MulOk i j := by
  refine .inr (L2.wide_mul (a := a + 1) (b := b + 1) ?_ ?_ (by omega) (by omega) (by omega))
  · exact Nat.lt_trans ha (Nat.pow_lt_pow_right (by decide) (by omega))
  · exact Nat.lt_trans hb (Nat.pow_lt_pow_right (by decide) (by omega))
/-- ints in a tuple -/
def tI (l : List Int) : D := .tup (l.map D.int)
theorem intsD_map (l : List Int) : intsD (l.map D.int) = some l := by
  induction l with
  | nil => rfl
  | cons a l ih => simp [intsD, ih]
theorem intsOf_tI (st : Store) (l : List Int) : intsOf st (tI l) = some l := by simp [intsOf, tI, seqD, intsD_map]
def prodI (l : List Int) : Int := l.foldl (· * ·) 1
end Ev

set_option Elab.async false
set_option linter.all false
set_option maxRecDepth 100000
set_option maxHeartbeats 4000000
/-! EvQ: the meaning, row by row, for simp. -/
namespace Ev
@[simp] theorem wpE_q0 {i} {env} {st} {Q} {x4} : wpE (.var i) env st Q x4 = (∃ d, env[i]? = some (some d) ∧ Q d st) := by simp only [wpE]
@[simp] theorem wpE_q1 {d} {x1} {st} {Q} {x4} : wpE (.k d) x1 st Q x4 = (Q d st) := by simp only [wpE]
@[simp] theorem wpE_q2 {i} {x1} {st} {Q} {x4} {u1} : wpE (.glob u1 i) x1 st Q x4 = (Q (.int i) st) := by simp only [wpE]
@[simp] theorem wpE_q3 {o} {a} {b} {env} {st} {Q} {Ex} : wpE (.bin o a b) env st Q Ex = (wpE a env st (fun x st1 => wpE b env st1 (fun y st2 => binD o x y st2 Q) Ex) Ex) := by simp only [wpE]
@[simp] theorem wpE_q4 {o} {a} {b} {env} {st} {Q} {Ex} : wpE (.cmp o a b) env st Q Ex = (wpE a env st (fun x st1 => wpE b env st1 (fun y st2 => ∃ r, cmpD o x y st2 = some r ∧ Q (.bl r) st2) Ex) Ex) := by simp only [wpE]
@[simp] theorem wpE_q5 {o} {p} {a} {b} {c} {env} {st} {Q} {Ex} : wpE (.chain o p a b c) env st Q Ex = (wpE a env st (fun x st1 => wpE b env st1 (fun y st2 => ∃ r, cmpD o x y st2 = some r ∧       (r = true → wpE c env st2 (fun z st3 => ∃ r', cmpD p y z st3 = some r' ∧ Q (.bl r') st3) Ex) ∧ (r = false → Q (.bl false) st2)) Ex) Ex) := by simp only [wpE]
@[simp] theorem wpE_q6 {a} {env} {st} {Q} {Ex} : wpE (.isN a) env st Q Ex = (wpE a env st (fun x st1 => Q (.bl (isNonD x)) st1) Ex) := by simp only [wpE]
@[simp] theorem wpE_q7 {a} {env} {st} {Q} {Ex} : wpE (.notN a) env st Q Ex = (wpE a env st (fun x st1 => Q (.bl (!isNonD x)) st1) Ex) := by simp only [wpE]
@[simp] theorem wpE_q8 {a} {b} {env} {st} {Q} {Ex} : wpE (.and a b) env st Q Ex = (wpE a env st (fun x st1 => ∃ r, truthD st1 x = some r ∧ (r = true → wpE b env st1 Q Ex) ∧ (r = false → Q x st1)) Ex) := by simp only [wpE]
@[simp] theorem wpE_q9 {a} {b} {env} {st} {Q} {Ex} : wpE (.or a b) env st Q Ex = (wpE a env st (fun x st1 => ∃ r, truthD st1 x = some r ∧ (r = true → Q x st1) ∧ (r = false → wpE b env st1 Q Ex)) Ex) := by simp only [wpE]
@[simp] theorem wpE_q10 {a} {env} {st} {Q} {Ex} : wpE (.not a) env st Q Ex = (wpE a env st (fun x st1 => ∃ r, truthD st1 x = some r ∧ Q (.bl (!r)) st1) Ex) := by simp only [wpE]
@[simp] theorem wpE_q11 {a} {env} {st} {Q} {Ex} : wpE (.neg a) env st Q Ex = (wpE a env st (fun x st1 => ∃ i, x = .int i ∧ Q (.int (-i)) st1) Ex) := by simp only [wpE]
@[simp] theorem wpE_q12 {c} {a} {b} {env} {st} {Q} {Ex} : wpE (.ife c a b) env st Q Ex = (wpE c env st (fun x st1 => ∃ r, truthD st1 x = some r ∧ (r = true → wpE a env st1 Q Ex) ∧ (r = false → wpE b env st1 Q Ex)) Ex) := by simp only [wpE]
@[simp] theorem wpE_q13 {es} {env} {st} {Q} {Ex} : wpE (.tup es) env st Q Ex = (wpEs es env st (fun ds st1 => ds.length ≤ line ∧ Q (.tup ds) st1) Ex) := by simp only [wpE]
@[simp] theorem wpE_q14 {es} {env} {st} {Q} {Ex} : wpE (.lst es) env st Q Ex = (wpEs es env st (fun ds st1 => ds.length ≤ line ∧ Q (.ref st1.length) (st1 ++ [.lst ds])) Ex) := by simp only [wpE]
@[simp] theorem wpE_q15 {a} {b} {env} {st} {Q} {Ex} : wpE (.ix a b) env st Q Ex = (wpE a env st (fun x st1 => wpE b env st1 (fun y st2 => ∃ d, ixD x y st2 = some d ∧ Q d st2) Ex) Ex) := by simp only [wpE]
@[simp] theorem wpE_q16 {a} {lo} {hi} {env} {st} {Q} {Ex} : wpE (.sl a lo hi) env st Q Ex = (wpE a env st (fun x st1 => wpO lo env st1 (fun l st2 => wpO hi env st2 (fun h st3 => slD x l h st3 Q) Ex) Ex) Ex) := by simp only [wpE]
@[simp] theorem wpE_q17 {a} {env} {st} {Q} {Ex} : wpE (.rev a) env st Q Ex = (wpE a env st (fun x st1 => revD x st1 Q) Ex) := by simp only [wpE]
@[simp] theorem wpE_q18 {f} {es} {env} {st} {Q} {Ex} : wpE (.call f es) env st Q Ex = (wpEs es env st (fun ds st1 => f.con ds st1 Q Ex) Ex) := by simp only [wpE]
@[simp] theorem wpE_q19 {f} {es} {perm} {kes} {env} {st} {Q} {Ex} {u1} : wpE (.callk f es u1 perm kes) env st Q Ex = (wpEs es env st (fun ds st1 => wpEs kes env st1 (fun ds2 st2 => f.con (reord ds ds2 perm) st2 Q Ex) Ex) Ex) := by simp only [wpE]
@[simp] theorem wpE_q20 {p} {es} {env} {st} {Q} {Ex} : wpE (.prim p es) env st Q Ex = (wpEs es env st (fun ds st1 => primD p ds st1 Q) Ex) := by simp only [wpE]
@[simp] theorem wpE_q21 {m} {o} {es} {env} {st} {Q} {Ex} : wpE (.meth m o es) env st Q Ex = (wpE o env st (fun x st1 => (∃ n l, x = .ref n ∧ st1[n]? = some (MO.lst l)) ∧ wpEs es env st1 (fun ds st2 => methD m x ds st2 Q) Ex) Ex) := by simp only [wpE]
@[simp] theorem wpEs_q0 {x1} {st} {Q} {x4} : wpEs [] x1 st Q x4 = (Q [] st) := by simp only [wpEs]
@[simp] theorem wpEs_q1 {e} {es} {env} {st} {Q} {Ex} : wpEs (e :: es) env st Q Ex = (wpE e env st (fun d st1 => wpEs es env st1 (fun ds st2 => Q (d :: ds) st2) Ex) Ex) := by simp only [wpEs]
@[simp] theorem wpO_q0 {x1 : Env'} {st : Store} {Q : Option Int → Store → Prop} {x4 : XPost} : wpO none x1 st Q x4 = Q none st := by simp only [wpO]
@[simp] theorem wpO_q1 {e} {env} {st} {Q} {Ex} : wpO (some e) env st Q Ex = (wpE e env st (fun d st1 => ∃ i, d = .int i ∧ Q (some i) st1) Ex) := by simp only [wpO]
@[simp] theorem wpC_q0 {x1 : Env'} {st : Store} {Q : Bool → Store → Prop} {x4 : XPost} : wpC none x1 st Q x4 = Q true st := by simp only [wpC]
@[simp] theorem wpC_q1 {e} {env} {st} {Q} {Ex} : wpC (some e) env st Q Ex = (wpE e env st (fun d st1 => ∃ r, truthD st1 d = some r ∧ Q r st1) Ex) := by simp only [wpC]
@[simp] theorem wpS_q0 {tg} {e} {env} {st} {N} : wpS (.set tg e) env st N = (wpE e env st (fun d st1 => asgD tg d env fun env' => N.nx env' st1) (fun x st1 => N.ex x env st1)) := by simp only [wpS]
@[simp] theorem wpS_q1 {is} {es} {env} {st} {N} : wpS (.par is es) env st N = (wpEs es env st (fun ds st1 => N.nx (setBack is ds env) st1) (fun x st1 => N.ex x env st1)) := by simp only [wpS]
@[simp] theorem wpS_q2 {o} {i} {e} {env} {st} {N} : wpS (.seti o i e) env st N = (wpE e env st (fun v st1 => wpE o env st1 (fun x st2 => wpE i env st2 (fun y st3 =>       ∃ n l z, x = .ref n ∧ st3[n]? = some (.lst l) ∧ y = .int z ∧ 0 ≤ z ∧ z < l.length ∧ N.nx env (st3.set n (.lst (l.set z.toNat v)))) (fun x st1 => N.ex x env st1)) (fun x st1 => N.ex x env st1)) (fun x st1 => N.ex x env st1)) := by simp only [wpS]
@[simp] theorem wpS_q3 {i} {o} {e} {env} {st} {N} : wpS (.aug i o e) env st N = (∃ x, env[i]? = some (some x) ∧ wpE e env st (fun y st1 => ∃ a b, x = .int a ∧ y = .int b ∧ binD o x y st1 (fun z st2 => N.nx (env.set i (some z)) st2)) (fun x st1 => N.ex x env st1)) := by simp only [wpS]
@[simp] theorem wpS_q4 {e} {env} {st} {N} : wpS (.ret e) env st N = (wpE e env st N.rt (fun x st1 => N.ex x env st1)) := by simp only [wpS]
@[simp] theorem wpS_q5 {env} {st} {N} : wpS (.retN) env st N = (N.rt .non st) := by simp only [wpS]
@[simp] theorem wpS_q6 {c} {a} {b} {env} {st} {N} : wpS (.ife c a b) env st N = (wpE c env st (fun x st1 => ∃ r, truthD st1 x = some r ∧ (r = true → wpSs a env st1 N) ∧ (r = false → wpSs b env st1 N)) (fun x st1 => N.ex x env st1)) := by simp only [wpS]
@[simp] theorem wpS_q7 {tg} {k} {its} {body} {env} {st} {N} : wpS (.forr tg k its body) env st N = (wpEs its env st (fun ds st1 => ∃ l g, itemsD k ds st1 = some (l, g) ∧       forN g (fun x next env1 st2 => asgD tg x env1 fun env' => wpSs body env' st2 { N with nx := next, ct := next, bk := N.nx }) N.nx l env st1) (fun x st1 => N.ex x env st1)) := by simp only [wpS]
@[simp] theorem wpS_q8 {c} {body} {env} {st} {N} : wpS (.while c body) env st N = (∃ n, loopN (fun next env1 st1 => wpE c env1 st1 (fun x st2 => ∃ r, truthD st2 x = some r ∧       (r = true → wpSs body env1 st2 { N with nx := next, ct := next, bk := N.nx }) ∧ (r = false → N.nx env1 st2)) (fun x st1 => N.ex x env1 st1)) n env st) := by simp only [wpS]
@[simp] theorem wpS_q9 {e} {env} {st} {N} : wpS (.expr e) env st N = (wpE e env st (fun _ st1 => N.nx env st1) (fun x st1 => N.ex x env st1)) := by simp only [wpS]
@[simp] theorem wpS_q10 {x} {env} {st} {N} : wpS (.raise x) env st N = (N.ex x env st) := by simp only [wpS]
@[simp] theorem wpS_q11 {env} {st} {N} : wpS (.pass) env st N = (N.nx env st) := by simp only [wpS]
@[simp] theorem wpS_q12 {env} {st} {N} : wpS (.brk) env st N = (N.bk env st) := by simp only [wpS]
@[simp] theorem wpS_q13 {env} {st} {N} : wpS (.cont) env st N = (N.ct env st) := by simp only [wpS]
@[simp] theorem wpSs_q0 {env} {st} {N} : wpSs [] env st N = (N.nx env st) := by simp only [wpSs]
@[simp] theorem wpSs_q1 {s} {ss} {env} {st} {N} : wpSs (s :: ss) env st N = (wpS s env st { N with nx := fun env1 st1 => wpSs ss env1 st1 N }) := by simp only [wpSs]
end Ev

set_option Elab.async false
set_option linter.all false
set_option maxRecDepth 100000
set_option maxHeartbeats 4000000
/-! EvR: the operations on told data, for simp. -/
namespace Ev
section
variable {st : Store} {Q : Post} {i j : Int} {l r : List D} {d e : D} {b : Bool} {t : Ty} {env : Env'} {P : Env' → Prop}
@[simp] theorem bin_addI : binD .add (.int i) (.int j) st Q = Q (.int (i + j)) st := rfl
@[simp] theorem bin_addT : binD .add (.tup l) (.tup r) st Q = (l.length + r.length ≤ line ∧ Q (.tup (l ++ r)) st) := rfl
@[simp] theorem bin_subI : binD .sub (.int i) (.int j) st Q = Q (.int (i - j)) st := rfl
@[simp] theorem bin_mulI : binD .mul (.int i) (.int j) st Q = (MulOk i j ∧ Q (.int (i * j)) st) := rfl
@[simp] theorem bin_mulT : binD .mul (.tup l) (.int j) st Q = (0 ≤ j ∧ j ≤ 1000 ∧ l.length ≤ 1000 ∧ Q (.tup (List.replicate j.toNat l).flatten) st) := rfl
@[simp] theorem rev_tup : revD (.tup l) st Q = Q (.tup l.reverse) st := rfl
@[simp] theorem bin_fdivI : binD .fdiv (.int i) (.int j) st Q = (0 < j ∧ j < bigI ∧ Q (.int (i / j)) st) := rfl
@[simp] theorem bin_modI : binD .mod (.int i) (.int j) st Q = (0 < j ∧ Q (.int (i % j)) st) := rfl
@[simp] theorem bin_powI : binD .pow (.int i) (.int j) st Q = (L2.CPow i j ∧ Q (.int (i ^ j.toNat)) st) := rfl
@[simp] theorem cmp_lt : cmpD .lt (.int i) (.int j) st = some (decide (i < j)) := rfl
@[simp] theorem cmp_le : cmpD .le (.int i) (.int j) st = some (decide (i ≤ j)) := rfl
@[simp] theorem cmp_gt : cmpD .gt (.int i) (.int j) st = some (decide (j < i)) := rfl
@[simp] theorem cmp_ge : cmpD .ge (.int i) (.int j) st = some (decide (j ≤ i)) := rfl
@[simp] theorem cmp_eqI : cmpD .eq (.int i) (.int j) st = some (i == j) := by simp [cmpD, eqD, D.pure, D.depth, D.eqv]
@[simp] theorem cmp_neI : cmpD .ne (.int i) (.int j) st = some (i != j) := by simp [cmpD, eqD, D.pure, D.depth, D.eqv, bne]
@[simp] theorem cmp_eqB {a : Bool} : cmpD .eq (.bl a) (.bl b) st = some (a == b) := by simp [cmpD, eqD, D.pure, D.depth, D.eqv]
@[simp] theorem cmp_neB {a : Bool} : cmpD .ne (.bl a) (.bl b) st = some (a != b) := by simp [cmpD, eqD, D.pure, D.depth, D.eqv, bne]
theorem cmp_eqP (h1 : D.pure d = true) (h2 : D.pure e = true) (h3 : D.depth d ≤ 40) (h4 : D.depth e ≤ 40) : cmpD .eq d e st = some (D.eqv d e) := by
  cases d <;> cases e <;> simp_all [cmpD, eqD, D.pure]
theorem cmp_neP (h1 : D.pure d = true) (h2 : D.pure e = true) (h3 : D.depth d ≤ 40) (h4 : D.depth e ≤ 40) : cmpD .ne d e st = some (!D.eqv d e) := by
  have := cmp_eqP (st := st) h1 h2 h3 h4
  simp only [cmpD] at this ⊢
  rw [this]; rfl
@[simp] theorem truth_bl : truthD st (.bl b) = some b := rfl
@[simp] theorem truth_non : truthD st .non = some false := rfl
@[simp] theorem truth_int : truthD st (.int i) = some (i != 0) := rfl
@[simp] theorem truth_tup : truthD st (.tup l) = some (!l.isEmpty) := rfl
@[simp] theorem seq_tup : seqD st (.tup l) = some l := rfl
@[simp] theorem prim_len : primD .len [d] st Q = ∃ l, seqD st d = some l ∧ Q (.int l.length) st := rfl
@[simp] theorem prim_tuple : primD .tuple [d] st Q = ∃ l, seqD st d = some l ∧ Q (.tup l) st := rfl
@[simp] theorem prim_list : primD .list [d] st Q = ∃ l, seqD st d = some l ∧ Q (.ref st.length) (st ++ [.lst l]) := rfl
@[simp] theorem prim_listrange : primD .listrange [.int j] st Q = (-line ≤ j ∧ j ≤ line ∧ Q (.ref st.length) (st ++ [.lst (rangeD 0 j.toNat)])) := rfl
@[simp] theorem prim_sum : primD .sum [d] st Q = ∃ l, intsOf st d = some l ∧ Q (.int l.sum) st := rfl
@[simp] theorem prim_max : primD .max [d] st Q = ∃ l, intsOf st d = some l ∧ l ≠ [] ∧ Q (.int (maxI l)) st := rfl
@[simp] theorem prim_min : primD .min [d] st Q = ∃ l, intsOf st d = some l ∧ l ≠ [] ∧ Q (.int (minI l)) st := rfl
@[simp] theorem prim_min2 : primD .min2 [.int i, .int j] st Q = Q (.int (if j < i then j else i)) st := rfl
@[simp] theorem prim_abs : primD .abs [.int i] st Q = Q (.int (if i < 0 then -i else i)) st := rfl
@[simp] theorem prim_int : primD .int [.int i] st Q = Q (.int i) st := rfl
@[simp] theorem prim_intB : primD .int [.bl b] st Q = Q (.int (if b then 1 else 0)) st := rfl
@[simp] theorem prim_isi : primD (.isi t) [d] st Q = ∃ b, isTy t d st = some b ∧ Q (.bl b) st := rfl
@[simp] theorem ty_non : isTy t .non st = some false := by cases t <;> rfl
@[simp] theorem ty_bl : isTy t (.bl b) st = some (match t with | .int | .bool | .boolstr => true | _ => false) := by cases t <;> rfl
@[simp] theorem ty_int : isTy t (.int i) st = some (match t with | .int => true | _ => false) := by cases t <;> rfl
@[simp] theorem ty_str {x : PySem.Str} : isTy t (.str x) st = some (match t with | .str | .boolstr => true | _ => false) := by cases t <;> rfl
@[simp] theorem ty_tup : isTy t (.tup l) st = some (match t with | .tuple | .listtuple => true | _ => false) := by cases t <;> rfl
@[simp] theorem sl_tup {lo hi : Option Int} : slD (.tup l) lo hi st Q = Q (.tup (cutD l lo hi)) st := rfl
@[simp] theorem asg_nm {k : Nat} : asgD (.nm k) d env P = P (env.set k (some d)) := by cases d <;> rfl
@[simp] theorem asg_nms {is : List Nat} : asgD (.nms is) (.tup l) env P = ∃ e, setMany is l env = some e ∧ P e := rfl
@[simp] theorem many_nil : setMany [] [] env = some env := rfl
@[simp] theorem many_cons {k : Nat} {is : List Nat} : setMany (k :: is) (d :: l) env = setMany is l (env.set k (some d)) := rfl
@[simp] theorem ix_int : ixD d (.int i) st = (seqD st d).bind fun l => L2.atI l i := rfl
@[simp] theorem items_seq : itemsD .seq [d] st = (seqD st d).map fun l => (l, gOf d l) := rfl
@[simp] theorem isNon_non : isNonD .non = true := rfl
@[simp] theorem isNon_int : isNonD (.int i) = false := rfl
@[simp] theorem isNon_bl : isNonD (.bl b) = false := rfl
@[simp] theorem isNon_tup : isNonD (.tup l) = false := rfl
@[simp] theorem isNon_ref {n : Nat} : isNonD (.ref n) = false := rfl
@[simp] theorem isNon_str {x : PySem.Str} : isNonD (.str x) = false := rfl
@[simp] theorem back_nil {α : Type} {env : List (Option α)} {ds : List α} : setBack [] ds env = env := by cases ds <;> rfl
@[simp] theorem back_cons {α : Type} {env : List (Option α)} {k : Nat} {is : List Nat} {d : α} {l : List α} : setBack (k :: is) (d :: l) env = (setBack is l env).set k (some d) := rfl
end
end Ev

set_option Elab.async false
set_option linter.all false
set_option maxRecDepth 100000
set_option maxHeartbeats 4000000
/-! Lg1: tools for the plain laws of the defs. -/
namespace Ev
/-- pure data not deeper than n, no tuple longer than the line -/
def D.fit : Nat → D → Bool
  | _, .ref _ => false
  | _, .str x => PySem.PyData.strOk x
  | n + 1, .tup l => decide (l.length ≤ line) && l.all (D.fit n)
  | 0, .tup _ => false
  | _, _ => true
theorem D.pureAll_of {l : List D} (h : ∀ x ∈ l, D.pure x = true) : D.pureAll l = true := by
  induction l with
  | nil => rfl
  | cons a l ih => simp [D.pureAll, h a (by simp), ih fun x hx => h x (by simp [hx])]
theorem D.fit_pure : ∀ {n : Nat} {d : D}, D.fit n d = true → D.pure d = true
  | n, .ref _, h => by cases n <;> simp [D.fit] at h
  | n, .str x, h => by cases n <;> simpa [D.fit, D.pure] using h
  | n, .non, h => by simp [D.pure]
  | n, .bl _, h => by simp [D.pure]
  | n, .int _, h => by simp [D.pure]
  | 0, .tup l, h => by simp [D.fit] at h
  | n + 1, .tup l, h => by
    simp only [D.fit, Bool.and_eq_true, List.all_eq_true] at h
    simp only [D.pure]
    exact D.pureAll_of fun x hx => D.fit_pure (h.2 x hx)
theorem fit_tI {l : List Int} {n : Nat} (h : l.length ≤ line) : D.fit (n + 1) (tI l) = true := by
  have : ∀ i : Int, D.fit n (D.int i) = true := fun i => by cases n <;> rfl
  simp [tI, D.fit, h, this]
theorem pure_tI (l : List Int) : D.pure (tI l) = true := by
  simp only [tI, D.pure]
  exact D.pureAll_of fun x hx => by
    obtain ⟨i, _, rfl⟩ := List.mem_map.mp hx
    rfl
def isIntD : D → Bool
  | .int _ => true
  | _ => false
/-- a comprehension over pure parts, closed by a builtin that takes the list -/
theorem wp_tmp {e : E} {env : Env'} {st : Store} {Q : Post} {Ex : XPost} {d : D} (hp : D.pure d = true) (h : ∀ Q' : Post, (∀ st', st <+: st' → Q' d st') → ∀ Ex', wpE e env st Q' Ex') (q : Q d st) : wpE (.tmp e) env st Q Ex := by
  simp only [wpE]
  exact h _ (fun st' hs => ⟨hs, hp, q⟩) _
@[simp] theorem endF_rt {st : Store} {Q : Post} {Ex : XPost} : (endF st Q Ex).rt = orP st Q := rfl
@[simp] theorem endF_nx {st : Store} {Q : Post} {Ex : XPost} : (endF st Q Ex).nx = fun _ st' => orP st Q .non st' := rfl
@[simp] theorem orP_here {st : Store} {Q : Post} {d : D} : orP st Q d st = Q d st := by
  simp only [orP, eq_iff_iff]
  exact ⟨fun h => h.elim id fun x => x.2.2, .inl⟩
theorem orP_pure {st st' : Store} {Q : Post} {d : D} (hp : D.pure d = true) (h : st <+: st') (q : Q d st) : orP st Q d st' := .inr ⟨hp, h, q⟩
theorem prodI_bound : ∀ (l : List Int) (a : Int) (k n : Nat), (∀ x ∈ l, x.natAbs < 2 ^ k) → a.natAbs < 2 ^ n → (l.foldl (· * ·) a).natAbs < 2 ^ (n + k * l.length)
  | [], a, k, n, _, h => by simpa using h
  | x :: l, a, k, n, hx, h => by
    have h1 : (a * x).natAbs < 2 ^ (n + k) := L2.wide_lt h (hx x (by simp))
    have := prodI_bound l (a * x) k (n + k) (fun y hy => hx y (by simp [hy])) h1
    simp only [List.foldl_cons, List.length_cons]
    have e : n + k * (l.length + 1) = n + k + k * l.length := by rw [Nat.mul_add]; omega
    rw [e]; exact this
theorem intsD_some {l : List D} {xs : List Int} (h : intsD l = some xs) : l = xs.map D.int := by
  induction l generalizing xs with
  | nil => simp [intsD] at h; subst h; rfl
  | cons a l ih =>
    cases a <;> simp [intsD] at h
    obtain ⟨ys, hy, rfl⟩ := h
    simp [ih hy]
theorem intsOf_some {st : Store} {d : D} {xs : List Int} (h : intsOf st d = some xs) : seqD st d = some (xs.map D.int) := by
  unfold intsOf at h
  cases e : seqD st d with
  | none => rw [e] at h; cases h
  | some l => rw [e] at h; rw [intsD_some h]
theorem gOk_gOf {st : Store} {d : D} {l : List D} (h : seqD st d = some l) : gOk (gOf d l) st := by
  intro p hp
  cases d <;> simp [gOf] at hp
  subst hp
  exact h
theorem blsD_map (l : List Bool) : blsD (l.map D.bl) = some l := by
  induction l with
  | nil => rfl
  | cons a l ih => simp [blsD, ih]
@[simp] theorem atEnd {st : Store} {o : MO} : (st ++ [o])[st.length]? = some o := by simp
/-- all([..]) -/
theorem wp_all {tg : Tgt} {k : IK} {its : List E} {cond : Option E} {elt : E} {env : Env'} {st : Store} {Q : Post} {Ex : XPost} {ds l : List D} {g : Guard} (f : D → Bool) (b : D → Bool)
    (hi : ∀ (Q : List D → Store → Prop) (Ex : XPost), Q ds st → wpEs its env st Q Ex) (hit : itemsD k ds st = some (l, g)) (hg : gOk g st) (hl : l.length ≤ line)
    (hx : ∀ x ∈ l, ∃ env', (∀ P : Env' → Prop, P env' → asgD tg x env P) ∧ GivesC st env' cond (b x) ∧ (b x = true → Gives st env' elt (.bl (f x))))
    (hQ : Q (.bl ((l.filter b).all f)) st) : wpE (.tmp (.prim .all [.lc tg k its cond elt])) env st Q Ex := by
  refine wp_tmp rfl (fun Q' hq Ex' => ?_) hQ
  simp only [wpE_q20, wpEs_q1, wpEs_q0]
  refine wp_lc (fun x => .bl (f x)) b (fun Q h => hi Q _ h) hit hg hl hx ?_
  show ∃ l', blsOf _ _ = some l' ∧ _
  refine ⟨(l.filter b).map f, ?_, ?_⟩
  · simp only [blsOf, seqD, atEnd, Option.bind_some]
    rw [← blsD_map, List.map_map]; rfl
  · have e : ((l.filter b).map f).all id = (l.filter b).all f := by rw [List.all_map]; rfl
    rw [e]
    exact hq _ (List.prefix_append _ _)
/-- tuple([..]) -/
theorem wp_tupc {tg : Tgt} {k : IK} {its : List E} {cond : Option E} {elt : E} {env : Env'} {st : Store} {Q : Post} {Ex : XPost} {ds l : List D} {g : Guard} (f : D → D) (b : D → Bool)
    (hi : ∀ (Q : List D → Store → Prop) (Ex : XPost), Q ds st → wpEs its env st Q Ex) (hit : itemsD k ds st = some (l, g)) (hg : gOk g st) (hl : l.length ≤ line)
    (hx : ∀ x ∈ l, ∃ env', (∀ P : Env' → Prop, P env' → asgD tg x env P) ∧ GivesC st env' cond (b x) ∧ (b x = true → D.pure (f x) = true ∧ Gives st env' elt (f x)))
    (hQ : Q (.tup ((l.filter b).map f)) st) : wpE (.tmp (.prim .tuple [.lc tg k its cond elt])) env st Q Ex := by
  refine wp_tmp ?_ (fun Q' hq Ex' => ?_) hQ
  · simp only [D.pure]
    refine D.pureAll_of fun x hx' => ?_
    obtain ⟨y, hy, rfl⟩ := List.mem_map.mp hx'
    obtain ⟨hy1, hy2⟩ := List.mem_filter.mp hy
    obtain ⟨_, _, _, h3⟩ := hx y hy1
    exact (h3 hy2).1
  · simp only [wpE_q20, wpEs_q1, wpEs_q0]
    refine wp_lc f b (fun Q h => hi Q _ h) hit hg hl (fun x hx' => ?_) ?_
    · obtain ⟨env', h1, h2, h3⟩ := hx x hx'
      exact ⟨env', h1, h2, fun hb => (h3 hb).2⟩
    · simp only [prim_tuple]
      exact ⟨(l.filter b).map f, by simp [seqD], hq _ (List.prefix_append _ _)⟩
theorem pureAll_mem {l : List D} (h : D.pureAll l = true) : ∀ x ∈ l, D.pure x = true := by
  induction l with
  | nil => intro x hx; simp at hx
  | cons a l ih =>
    simp only [D.pureAll, Bool.and_eq_true] at h
    intro x hx
    rcases List.mem_cons.mp hx with e | hx
    · rw [e]; exact h.1
    · exact ih h.2 x hx
theorem filter_true {α : Type} (l : List α) : l.filter (fun _ => true) = l := by induction l <;> simp_all
@[simp] theorem atI_nat {α : Type} (l : List α) (k : Nat) : L2.atI l (k : Int) = l[k]? := by
  unfold L2.atI L2.ixN
  rw [if_pos (by omega)]
  by_cases h : (k : Int) < l.length
  · rw [if_pos h]; simp
  · rw [if_neg h]
    rw [List.getElem?_eq_none (by omega)]; rfl
@[simp] theorem atI_0 {α : Type} (l : List α) : L2.atI l 0 = l[0]? := atI_nat l 0
@[simp] theorem atI_1 {α : Type} (l : List α) : L2.atI l 1 = l[1]? := atI_nat l 1
@[simp] theorem atI_2 {α : Type} (l : List α) : L2.atI l 2 = l[2]? := atI_nat l 2
theorem wp_allT {tg : Tgt} {k : IK} {its : List E} {elt : E} {env : Env'} {st : Store} {Q : Post} {Ex : XPost} {ds l : List D} {g : Guard}
    (hi : ∀ (Q : List D → Store → Prop) (Ex : XPost), Q ds st → wpEs its env st Q Ex) (hit : itemsD k ds st = some (l, g)) (hg : gOk g st) (hl : l.length ≤ line)
    (hx : ∀ x ∈ l, ∃ env', (∀ P : Env' → Prop, P env' → asgD tg x env P) ∧ Gives st env' elt (.bl true))
    (hQ : Q (.bl true) st) : wpE (.tmp (.prim .all [.lc tg k its none elt])) env st Q Ex :=
  wp_all (fun _ => true) (fun _ => true) hi hit hg hl (fun x h => let ⟨e, h1, h2⟩ := hx x h; ⟨e, h1, givesC_none, fun _ => h2⟩) (by
    rw [filter_true]
    have e : (l.all fun _ => true) = true := List.all_eq_true.mpr fun _ _ => rfl
    rw [e]; exact hQ)
theorem gOk_nil {st : Store} : gOk [] st := fun p hp => by simp at hp
end Ev

set_option Elab.async false
set_option linter.all false
set_option maxRecDepth 100000
set_option maxHeartbeats 4000000
/-! Lg2: the program's things, plainly. -/
namespace Ev
def WOk (w : List Int) : Prop := 3 ≤ w.length ∧ w.length ≤ 6 ∧ ∀ x ∈ w, 1 ≤ x ∧ x ≤ 12
def EqOk (w : List Int) (m : Int) : Prop := WOk w ∧ 1 ≤ m ∧ m ≤ 60 ∧ ∀ x ∈ w, m % x = 0
def eqT (w : List Int) (m : Int) : D := .tup [tI w, .int m]
@[simp] theorem seq_tI {st : Store} (l : List Int) : seqD st (tI l) = some (l.map D.int) := rfl
@[simp] theorem seq_eqT {st : Store} (w : List Int) (m : Int) : seqD st (eqT w m) = some [tI w, .int m] := rfl
theorem all_int (l : List Int) : (l.map D.int).all isIntD = true := by simp [isIntD]
theorem pure_eqT (w : List Int) (m : Int) : D.pure (eqT w m) = true := by simp [eqT, D.pure, D.pureAll, pure_tI]
def shI (w l : List Int) : List Int := List.zipWith (fun a x => a * x * x) w l
/-- small enough for every product -/
def Sm (l : List Int) : Prop := l.length ≤ 100 ∧ ∀ x ∈ l, x.natAbs < 2 ^ 4000
theorem WOk.sm {w : List Int} (h : WOk w) : Sm w := ⟨by have := h.2.1; omega, fun x hx => by
  have := h.2.2 x hx
  have h2 : x.natAbs < 2 ^ 4 := by omega
  exact Nat.lt_trans h2 (Nat.pow_lt_pow_right (by decide) (by decide))⟩
def BN : Int := 10 ^ 400
theorem lt_big {j : Int} (h : j ≤ 1000000000) : j < bigI := Int.lt_of_le_of_lt h (by decide +kernel)
theorem pairUp_ints : ∀ (w l : List Int), pairUp (w.map D.int) (l.map D.int) = (w.zip l).map fun p => D.tup [.int p.1, .int p.2]
  | [], _ => rfl
  | _ :: _, [] => rfl
  | a :: w, b :: l => by
    have := pairUp_ints w l
    simp only [pairUp] at this ⊢
    simp [this]
def SolOk (w : List Int) (m : Int) (l : List Int) : Prop := l.length = w.length ∧ (∀ x ∈ l, 1 ≤ x ∧ x ≤ BN - 1) ∧ (shI w l).sum = m * prodI l
theorem bn_lt : (BN).natAbs < 2 ^ 1400 := by decide +kernel
theorem sm_of {l : List Int} (h : l.length ≤ 100) (hb : ∀ x ∈ l, 1 ≤ x ∧ x ≤ BN - 1) : Sm l := ⟨h, fun x hx => by
  have := hb x hx
  have h3 : x.natAbs < BN.natAbs := by omega
  exact Nat.lt_trans (Nat.lt_trans h3 bn_lt) (Nat.pow_lt_pow_right (by decide) (by decide))⟩
theorem shI_zip : ∀ (w l : List Int), (w.zip l).map (fun p => D.int (p.1 * p.2 * p.2)) = (shI w l).map D.int
  | [], _ => rfl
  | _ :: _, [] => rfl
  | a :: w, b :: l => by
    have := shI_zip w l
    simp only [shI] at this ⊢
    simp [this]
theorem shI_length (w l : List Int) : (shI w l).length = min w.length l.length := by simp [shI]
/-! ### flips -/
def flG (w : List Int) (m : Int) (l : List Int) (k : Nat) : Int := m / w.getD k 1 * prodI (l.take k ++ l.drop (k + 1)) - l.getD k 0
def flI (w : List Int) (m : Int) (l : List Int) (k : Nat) : List Int := l.take k ++ [flG w m l k] ++ l.drop (k + 1)
/-! ### slices, places -/
theorem cut_take {l : List D} {k : Nat} : cutD l none (some (k : Int)) = l.take k := by
  unfold cutD
  rw [HT.sIx_nat, HT.sIx_none]
  simp [List.take_eq_take_iff]
theorem cut_drop {l : List D} {k : Nat} : cutD l (some (k : Int)) none = l.drop k := by
  unfold cutD
  rw [HT.sIx_nat, HT.sIx_none]
  by_cases h : k ≤ l.length
  · rw [Nat.min_eq_left h, List.take_of_length_le (by simp)]
  · rw [Nat.min_eq_right (by omega)]
    simp [List.drop_eq_nil_of_le (Nat.le_of_not_le h)]
theorem ixD_nat {l : List D} {k : Nat} {st : Store} : ixD (.tup l) (.int (k : Int)) st = l[k]? := by simp [ixD, seqD, atI_nat]
theorem ixD_tI {l : List Int} {k : Nat} {st : Store} : ixD (tI l) (.int (k : Int)) st = (l[k]?).map D.int := by simp [tI]
/-- the first place of a list where p holds, as the program tells it -/
def firstD (p : Int → Bool) (l : List Int) : D := match l.findIdx? p with
  | some k => .int k
  | none => .non
theorem sum_bound : ∀ (l : List Int) (b : Nat), (∀ x ∈ l, x.natAbs < b) → l.sum.natAbs ≤ l.length * b
  | [], _, _ => by simp
  | a :: l, b, h => by
    have h1 := sum_bound l b fun x hx => h x (by simp [hx])
    have h2 := h a (by simp)
    rw [List.sum_cons, List.length_cons, Nat.add_mul]
    omega
theorem numUp_get {l : List Int} {i : Nat} {x : D} (h : (numUp (l.map D.int))[i]? = some x) : ∃ hi : i < l.length, x = .tup [.int (i : Nat), .int l[i]] := by
  unfold numUp pairUp at h
  rw [List.getElem?_zipWith] at h
  by_cases hi : i < l.length
  · refine ⟨hi, ?_⟩
    simp [hi] at h
    exact h.symm
  · simp [hi] at h
theorem numUp_length (l : List D) : (numUp l).length = l.length := by simp [numUp, pairUp]
theorem findIdx?_here {p : Int → Bool} : ∀ {l : List Int} {i : Nat} (hi : i < l.length), (∀ j (hj : j < l.length), j < i → p l[j] = false) → p l[i] = true → l.findIdx? p = some i
  | a :: l, 0, hi, _, h => by simp at h; simp [List.findIdx?_cons, h]
  | a :: l, i + 1, hi, h0, h => by
    have a0 : p a = false := h0 0 (by simp) (by omega)
    have := findIdx?_here (l := l) (i := i) (by simpa using hi) (fun j hj hji => h0 (j + 1) (by simp; exact hj) (by omega)) h
    simp [List.findIdx?_cons, a0, this]
theorem findIdx?_none' {p : Int → Bool} {l : List Int} (h0 : ∀ j (hj : j < l.length), p l[j] = false) : l.findIdx? p = none := by
  rw [List.findIdx?_eq_none_iff]
  intro x hx
  obtain ⟨j, hj, rfl⟩ := List.getElem_of_mem hx
  exact h0 j hj
theorem firstD_here {p : Int → Bool} {l : List Int} {i : Nat} (hi : i < l.length) (h0 : ∀ j (hj : j < l.length), j < i → p l[j] = false) (h : p l[i] = true) : firstD p l = .int i := by
  unfold firstD
  rw [findIdx?_here hi h0 h]
theorem firstD_none {p : Int → Bool} {l : List Int} (h0 : ∀ j (hj : j < l.length), p l[j] = false) : firstD p l = .non := by
  unfold firstD
  rw [findIdx?_none' h0]
def kindS (rows : List Int) (k : Nat) : D := if rows.sum - rows.getD k 0 < rows.getD k 0 then .str "lower" else if rows.getD k 0 = rows.sum - rows.getD k 0 then .str "idle" else .str "raise"
/-! ### words -/
def tN (u : List Nat) : D := tI (u.map fun (k : Nat) => (k : Int))
def walkI (w : List Int) (m : Int) (l : List Int) (u : List Nat) : List Int := u.foldl (flI w m) l
def WalkOk (w : List Int) (m : Int) : List Int → List Nat → Prop
  | _, [] => True
  | l, k :: u => k < l.length ∧ Sm l ∧ flG w m l k < BN ∧ WalkOk w m (flI w m l k) u
theorem flI_length {w : List Int} {m : Int} {l : List Int} {k : Nat} (h : k < l.length) : (flI w m l k).length = l.length := by
  simp [flI]
  omega
theorem fit_eqT {w : List Int} {m : Int} (h : w.length ≤ 100) : D.fit 9 (eqT w m) = true := by
  have h1 : D.fit 8 (tI w) = true := fit_tI (by show _ ≤ 1000000; omega)
  simp [eqT, D.fit, h1]
  decide
theorem fit_tI9 {l : List Int} (h : l.length ≤ 100000) : D.fit 9 (tI l) = true := fit_tI (by show _ ≤ 1000000; omega)
theorem EqOk.sm {w : List Int} {m : Int} (h : EqOk w m) : Sm w := h.1.sm
theorem EqOk.m {w : List Int} {m : Int} (h : EqOk w m) : m.natAbs < 2 ^ 4000 := by
  have h1 : m.natAbs < 2 ^ 6 := by have := h.2.1; have := h.2.2.1; omega
  exact Nat.lt_trans h1 (Nat.pow_lt_pow_right (by decide) (by decide))
theorem SolOk.sm {w : List Int} {m : Int} {l : List Int} (hw : EqOk w m) (h : SolOk w m l) : Sm l := sm_of (by have := hw.1.2.1; have := h.1; omega) h.2.1
theorem walkI_succ {w : List Int} {m : Int} {l : List Int} {u : List Nat} {i : Nat} (hi : i < u.length) : walkI w m l (u.take (i + 1)) = flI w m (walkI w m l (u.take i)) u[i] := by
  unfold walkI
  rw [List.take_succ, List.getElem?_eq_getElem hi, List.foldl_append]
  rfl
/-! ### the others; roads -/
def othI (l : List Int) (i j : Nat) : List Int := ((List.range l.length).filter fun k => !(k == i || k == j)).map fun k => l.getD k 0
theorem numUp_range (l : List Int) : numUp (l.map D.int) = (List.range l.length).map fun (k : Nat) => D.tup [.int (k : Int), .int (l.getD k 0)] := by
  apply List.ext_getElem?
  intro k
  unfold numUp pairUp
  rw [List.getElem?_zipWith]
  by_cases h : k < l.length
  · simp [h]
  · simp [h]
@[simp] theorem cmp_notin2 {a i j : Int} {st : Store} : cmpD .notin (.int a) (.tup [.int i, .int j]) st = some (!(i == a || j == a)) := by
  simp [cmpD, inD, D.pure, D.pureAll, D.depth, D.depthAll, D.eqv]
theorem othI_mem {l : List Int} {i j : Nat} {x : Int} (h : x ∈ othI l i j) : x ∈ l := by
  unfold othI at h
  obtain ⟨k, hk, rfl⟩ := List.mem_map.mp h
  have := (List.mem_filter.mp hk).1
  rw [List.mem_range] at this
  simp [this]
theorem othI_length {l : List Int} {i j : Nat} : (othI l i j).length ≤ l.length := by
  unfold othI
  rw [List.length_map]
  have := List.length_filter_le (fun k => !(k == i || k == j)) (List.range l.length)
  simpa using this
def roadR (x y near far : Int) : Nat → Int
  | 0 => x
  | 1 => y
  | k + 2 => (if k % 2 = 0 then near else far) * roadR x y near far (k + 1) - roadR x y near far k
theorem atI_neg {α : Type} (l : List α) (k : Nat) (h : k < l.length) : L2.atI l (-((k : Int) + 1)) = l[l.length - 1 - k]? := by
  unfold L2.atI L2.ixN
  rw [if_neg (by omega)]
  have e : (-((k : Int) + 1) + (l.length : Int)).toNat = l.length - 1 - k := by omega
  by_cases h2 : -(l.length : Int) ≤ -((k : Int) + 1)
  · simp [h2, e]
  · omega
@[simp] theorem atI_m1 {α : Type} (l : List α) (h : 1 ≤ l.length) : L2.atI l (-1) = l[l.length - 1]? := atI_neg l 0 (by omega)
@[simp] theorem atI_m2 {α : Type} (l : List α) (h : 2 ≤ l.length) : L2.atI l (-2) = l[l.length - 2]? := by
  have := atI_neg l 1 (by omega)
  rw [show l.length - 2 = l.length - 1 - 1 by omega]
  exact this
theorem items_range1 {n : Nat} {st : Store} (h : n ≤ line) : itemsD .range1 [.int (n : Int)] st = some ((List.range n).map fun (k : Nat) => D.int (k : Int), []) := by
  have hl : (line : Nat) = 1000000 := rfl
  simp only [itemsD]
  rw [if_pos ⟨by omega, by omega⟩]
  simp [rangeD]
theorem meth_append {n : Nat} {l : List D} {d : D} {st : Store} {Q : Post} (h : st[n]? = some (.lst l)) : methD .append (.ref n) [d] st Q = (l.length < line ∧ Q .non (st.set n (.lst (l ++ [d])))) := by
  simp only [methD, h]
theorem set_end {st : Store} {o o' : MO} : (st ++ [o]).set st.length o' = st ++ [o'] := by simp
@[simp] theorem seq_end {st : Store} {l : List D} : seqD (st ++ [.lst l]) (.ref st.length) = some l := by simp [seqD]
theorem mulL {i j : Int} (h : -(2 ^ 64) < i) (h2 : i < 2 ^ 64) : MulOk i j := .inl (.inl ⟨h, h2⟩)
theorem mulR {i j : Int} (h : -(2 ^ 64) < j) (h2 : j < 2 ^ 64) : MulOk i j := .inl (.inr ⟨h, h2⟩)
theorem get_set {st : Store} {n : Nat} {o o' : MO} (h : st[n]? = some o) : (st.set n o')[n]? = some o' := by
  have hn : n < st.length := by
    rcases Nat.lt_or_ge n st.length with h' | h'
    · exact h'
    · rw [List.getElem?_eq_none h'] at h; cases h
  rw [List.getElem?_set_self hn]
/-! ### the box of draws -/
/-- a box of draws at n: its counter at most c -/
def Tin (st : Store) (n : Nat) (c : Nat) : Prop := ∃ a0 a1 a2 : Int, st[n]? = some (.lst [.int a0, .int a1, .int a2]) ∧ 0 ≤ a0 ∧ 0 ≤ a1 ∧ a1 < 2 ^ 62 ∧ 0 ≤ a2 ∧ a2 ≤ c
/-- what stood elsewhere than at n stands -/
def But (n : Nat) (st st' : Store) : Prop := st.length ≤ st'.length ∧ ∀ k o, k ≠ n → st[k]? = some o → st'[k]? = some o
theorem But.set {n : Nat} {st : Store} {o : MO} : But n st (st.set n o) := ⟨by simp, fun k o' hk h => by rw [List.getElem?_set_ne (Ne.symm hk)]; exact h⟩
theorem But.trans {n : Nat} {a b c : Store} (h : But n a b) (h2 : But n b c) : But n a c := ⟨Nat.le_trans h.1 h2.1, fun k o hk e => h2.2 k o hk (h.2 k o hk e)⟩
theorem But.pre {n : Nat} {a b : Store} (h : a <+: b) : But n a b := ⟨h.length_le, fun k o _ e => pre_st h e⟩
theorem But.refl {n : Nat} {a : Store} : But n a a := ⟨Nat.le_refl _, fun _ _ _ h => h⟩
theorem Tin.pre {n c : Nat} {a b : Store} (t : Tin a n c) (h : a <+: b) : Tin b n c := by
  obtain ⟨a0, a1, a2, hs, r⟩ := t
  exact ⟨a0, a1, a2, pre_st h hs, r⟩
theorem Tin.mono {n c d : Nat} {a : Store} (t : Tin a n c) (h : c ≤ d) : Tin a n d := by
  obtain ⟨a0, a1, a2, hs, r1, r2, r3, r4, r5⟩ := t
  exact ⟨a0, a1, a2, hs, r1, r2, r3, r4, by omega⟩
theorem Tin.lt {n c : Nat} {a : Store} (t : Tin a n c) : n < a.length := by
  obtain ⟨a0, a1, a2, hs, r⟩ := t
  rcases Nat.lt_or_ge n a.length with h' | h'
  · exact h'
  · rw [List.getElem?_eq_none h'] at hs; cases hs
theorem seq_but {st st' : Store} {n : Nat} (h : But n st st') {g : D} {l : List D} (hg : ∀ m, g = .ref m → m ≠ n) (e : seqD st g = some l) : seqD st' g = some l := by
  cases g with
  | ref m =>
    have hm := hg m rfl
    simp only [seqD] at e ⊢
    cases q : st[m]? with
    | none => rw [q] at e; cases e
    | some o => rw [h.2 m o hm q]; rw [q] at e; exact e
  | tup l => exact e
  | _ => cases e
theorem cut_map (l : List Int) (lo hi : Option Int) : ∃ l' : List Int, cutD (l.map D.int) lo hi = l'.map D.int ∧ l'.length ≤ l.length := by
  refine ⟨(l.drop (HT.sIx l.length 0 lo)).take (HT.sIx l.length l.length hi - HT.sIx l.length 0 lo), ?_, ?_⟩
  · simp [cutD]
  · rw [List.length_take, List.length_drop]; omega
theorem pre_set {st st' : Store} {n : Nat} {o : MO} (h : st <+: st') (hn : st.length ≤ n) : st <+: st'.set n o := by
  obtain ⟨r, rfl⟩ := h
  rw [List.set_append_right _ _ hn]
  exact List.prefix_append _ _
theorem sl_ro {g : Nat} {l : List D} {st : Store} {lo hi : Option Int} {Q : Post} (h : st[g]? = some (.ro l)) : slD (.ref g) lo hi st Q = Q (.ref st.length) (st ++ [.lst (cutD l lo hi)]) := by simp only [slD, h]
theorem seq_at {st : Store} {n : Nat} {l : List D} (h : st[n]? = some (.lst l)) : seqD st (.ref n) = some l := by simp only [seqD, h]
theorem items_enum {d : D} {l : List D} {st : Store} (h : seqD st d = some l) : itemsD .enum [d] st = some (numUp l, gOf d l) := by simp only [itemsD, h]; rfl
theorem bin_addL {a b : Nat} {st : Store} {l r : List D} {Q : Post} (h1 : st[a]? = some (.lst l)) (h2 : st[b]? = some (.lst r)) : binD .add (.ref a) (.ref b) st Q = (l.length + r.length ≤ line ∧ Q (.ref st.length) (st ++ [.lst (l ++ r)])) := by simp only [binD, h1, h2]
theorem meth_popat {n : Nat} {l : List D} {i : Nat} {st : Store} {Q : Post} {d : D} (h : st[n]? = some (.lst l)) (hi : l[i]? = some d) (hl : i < line) (q : Q d (st.set n (.lst (l.eraseIdx i)))) : methD .popat (.ref n) [.int (i : Int)] st Q := by
  simp only [methD, h]
  exact ⟨d, by omega, by exact_mod_cast hl, by simpa using hi, by simpa using q⟩
theorem perm_erase {α : Type} : ∀ {l : List α} {r : Nat} (h : r < l.length), (l[r] :: l.eraseIdx r).Perm l
  | a :: l, 0, h => by simp
  | a :: l, r + 1, h => by
    have := perm_erase (l := l) (r := r) (by simpa using h)
    simp only [List.getElem_cons_succ, List.eraseIdx_cons_succ]
    exact (List.Perm.swap _ _ _).trans (List.Perm.cons _ this)
end Ev

set_option Elab.async false
set_option linter.all false
set_option maxRecDepth 100000
set_option maxHeartbeats 4000000
/-! Kx1: flips, ways up, roads, in numbers. -/
namespace Ev
def nearI (w : List Int) (m : Int) (l : List Int) (i j : Nat) : Int := m / w.getD i 1 * prodI (othI l i j)
def tallB (n : Nat) : Nat := [0, 0, 0, 9, 6, 5, 4].getD n 0
end Ev
/-! M1: what a flip does, in numbers. -/
namespace Ev
theorem prodI_fold : ∀ (l : List Int) (a : Int), l.foldl (· * ·) a = a * prodI l
  | [], a => by simp [prodI]
  | x :: l, a => by
    have h1 := prodI_fold l (a * x)
    have h2 := prodI_fold l (1 * x)
    simp only [prodI, List.foldl_cons] at *
    rw [h1, h2]; grind
theorem prodI_nil : prodI [] = 1 := rfl
theorem prodI_cons (x : Int) (l : List Int) : prodI (x :: l) = x * prodI l := by
  have := prodI_fold l (1 * x)
  simp only [prodI, List.foldl_cons] at *
  rw [this]; grind
theorem prodI_append (l r : List Int) : prodI (l ++ r) = prodI l * prodI r := by
  induction l with
  | nil => simp [prodI_nil]
  | cons a l ih => rw [List.cons_append, prodI_cons, prodI_cons, ih]; grind
theorem prodI_pos {l : List Int} (h : ∀ x ∈ l, 1 ≤ x) : 1 ≤ prodI l := by
  induction l with
  | nil => simp [prodI_nil]
  | cons a l ih =>
    rw [prodI_cons]
    have h1 := h a (by simp)
    have h2 := ih fun x hx => h x (by simp [hx])
    have : 0 < a * prodI l := Int.mul_pos (by omega) (by omega)
    omega
theorem shI_nil_right (w : List Int) : shI w [] = [] := by simp [shI]
theorem shI_app {w1 w2 l1 l2 : List Int} (h : w1.length = l1.length) : shI (w1 ++ w2) (l1 ++ l2) = shI w1 l1 ++ shI w2 l2 := by
  simp [shI, List.zipWith_append h]
theorem sum_nonneg {l : List Int} (h : ∀ x ∈ l, 0 ≤ x) : 0 ≤ l.sum := by
  induction l with
  | nil => simp
  | cons a l ih =>
    rw [List.sum_cons]
    have h1 := h a (by simp)
    have h2 := ih fun x hx => h x (by simp [hx])
    omega
theorem sum_pos {l : List Int} (h : ∀ x ∈ l, 1 ≤ x) (hl : l ≠ []) : 1 ≤ l.sum := by
  cases l with
  | nil => exact absurd rfl hl
  | cons a l =>
    rw [List.sum_cons]
    have h1 := h a (by simp)
    have h2 := sum_nonneg (l := l) fun x hx => by have := h x (by simp [hx]); omega
    omega
theorem mem_shI {w l : List Int} (hw : ∀ x ∈ w, 1 ≤ x) (hl : ∀ x ∈ l, 1 ≤ x) : ∀ s ∈ shI w l, 1 ≤ s := by
  intro s hs
  unfold shI at hs
  rw [← List.map_uncurry_zip_eq_zipWith] at hs
  obtain ⟨⟨a, x⟩, hm, rfl⟩ := List.mem_map.mp hs
  obtain ⟨h1, h2⟩ := List.of_mem_zip hm
  have h3 := hw a h1
  have h4 := hl x h2
  have h5 : 0 < a * x := Int.mul_pos (by omega) (by omega)
  have : 0 < a * x * x := Int.mul_pos h5 (by omega)
  show 1 ≤ a * x * x
  omega
/-- a solution, of any size -/
def Solv (w : List Int) (m : Int) (l : List Int) : Prop := l.length = w.length ∧ (∀ x ∈ l, 1 ≤ x) ∧ (shI w l).sum = m * prodI l
/-- a list cut at a place -/
theorem cut_at {l : List Int} {k : Nat} (h : k < l.length) : ∃ l1 x l2, l = l1 ++ x :: l2 ∧ l1.length = k ∧ l[k] = x :=
  ⟨l.take k, l[k], l.drop (k + 1), by simp, by simp; omega, rfl⟩
/-- what a flip does to the two numbers -/
theorem flip_core {w x R P m c g : Int} (hw : 1 ≤ w) (hx : 1 ≤ x) (hm : m = w * c) (hR : 1 ≤ R) (he : R + w * x * x = m * (P * x)) (hg : g = c * P - x) :
    x * g * w = R ∧ 1 ≤ g ∧ R + w * g * g = m * (P * g) ∧ g ≤ R ∧ (w * g * g) * (w * x * x) = R * R := by
  have h1 : x * g * w = R := by subst hm; subst hg; grind
  have hxw : 1 ≤ x * w := by have := Int.mul_pos (a := x) (b := w) (by omega) (by omega); omega
  have h2 : 1 ≤ g := by
    rcases Int.lt_or_le 0 g with h | h
    · omega
    · exfalso
      have h3 : g * (x * w) ≤ 0 := Int.mul_nonpos_of_nonpos_of_nonneg h (by omega)
      have : g * (x * w) = R := by grind
      omega
  have h3 : g ≤ R := by
    have : g * (x * w) = R := by grind
    have h4 : g * 1 ≤ g * (x * w) := Int.mul_le_mul_of_nonneg_left hxw (by omega)
    omega
  refine ⟨h1, h2, ?_, h3, ?_⟩
  · subst hm; subst hg; grind
  · rw [← h1]; grind
/-- what a flip does to a solution -/
structure FlipD (w : List Int) (m : Int) (l : List Int) (k : Nat) : Prop where
  sol : Solv w m (flI w m l k)
  eq : (shI w (flI w m l k)).getD k 0 * (shI w l).getD k 0 = ((shI w l).sum - (shI w l).getD k 0) * ((shI w l).sum - (shI w l).getD k 0)
  oth : ∀ j, j ≠ k → (shI w (flI w m l k)).getD j 0 = (shI w l).getD j 0
  num : ∀ j, j ≠ k → (flI w m l k).getD j 0 = l.getD j 0
  at_ : (flI w m l k).getD k 0 = flG w m l k
  prod : l.getD k 0 * flG w m l k * w.getD k 1 = (shI w l).sum - (shI w l).getD k 0
  add : l.getD k 0 + flG w m l k = m / w.getD k 1 * prodI (l.take k ++ l.drop (k + 1))
  sum : (shI w (flI w m l k)).sum = (shI w l).sum - (shI w l).getD k 0 + (shI w (flI w m l k)).getD k 0
  pos : 1 ≤ flG w m l k
  le : flG w m l k ≤ (shI w l).sum - (shI w l).getD k 0
  rest : 1 ≤ (shI w l).sum - (shI w l).getD k 0
theorem flipD {w : List Int} {m : Int} {l : List Int} {k : Nat} (hw : EqOk w m) (hs : Solv w m l) (hk : k < l.length) : FlipD w m l k := by
  obtain ⟨⟨h3, h6, hw1⟩, hm1, hm2, hmd⟩ := hw
  obtain ⟨hl, hpos, he⟩ := hs
  obtain ⟨l1, x, l2, rfl, hl1, -⟩ := cut_at hk
  obtain ⟨w1, a, w2, rfl, hw1l, -⟩ := cut_at (l := w) (k := k) (by omega)
  have hlen : w1.length = l1.length := by omega
  have hlen2 : w2.length = l2.length := by simp at hl; omega
  have ha := hw1 a (by simp)
  have hx := hpos x (by simp)
  have hmod := hmd a (by simp)
  have hsh : ∀ y : Int, shI (w1 ++ a :: w2) (l1 ++ y :: l2) = shI w1 l1 ++ (a * y * y) :: shI w2 l2 := fun y => by
    rw [shI_app hlen]; rfl
  have hkl : k = (shI w1 l1).length := by simp [shI]; omega
  have hsum : ∀ y : Int, (shI (w1 ++ a :: w2) (l1 ++ y :: l2)).sum = ((shI w1 l1).sum + (shI w2 l2).sum) + a * y * y := fun y => by
    rw [hsh, List.sum_append_int, List.sum_cons]; omega
  have hget : ∀ y : Int, (shI (w1 ++ a :: w2) (l1 ++ y :: l2)).getD k 0 = a * y * y := fun y => by
    rw [hsh, hkl]; simp
  have hprod : ∀ y : Int, prodI (l1 ++ y :: l2) = (prodI l1 * prodI l2) * y := fun y => by
    rw [prodI_append, prodI_cons]; grind
  have hcut : (l1 ++ x :: l2).take k ++ (l1 ++ x :: l2).drop (k + 1) = l1 ++ l2 := by
    subst hl1; simp
  have hwk : (w1 ++ a :: w2).getD k 1 = a := by subst hw1l; simp
  have hlk : (l1 ++ x :: l2).getD k 0 = x := by subst hl1; simp
  generalize hRR : (shI w1 l1).sum + (shI w2 l2).sum = R at hsum
  generalize hPP : prodI l1 * prodI l2 = P at hprod
  have hfg : flG (w1 ++ a :: w2) m (l1 ++ x :: l2) k = m / a * P - x := by
    unfold flG; rw [hcut, hwk, hlk, prodI_append, hPP]
  have hfl : flI (w1 ++ a :: w2) m (l1 ++ x :: l2) k = l1 ++ (m / a * P - x) :: l2 := by
    unfold flI; rw [hfg]; subst hl1; simp
  have hma : m = a * (m / a) := by
    have := Int.mul_ediv_add_emod m a
    omega
  have hR : 1 ≤ R := by
    have p1 : ∀ s ∈ shI w1 l1, 1 ≤ s := mem_shI (fun y hy => (hw1 y (by simp [hy])).1) (fun y hy => hpos y (by simp [hy]))
    have p2 : ∀ s ∈ shI w2 l2, 1 ≤ s := mem_shI (fun y hy => (hw1 y (by simp [hy])).1) (fun y hy => hpos y (by simp [hy]))
    have : 1 ≤ (shI w1 l1 ++ shI w2 l2).sum := by
      refine sum_pos (fun s hs => ?_) (fun h => ?_)
      · rcases List.mem_append.mp hs with h | h
        · exact p1 s h
        · exact p2 s h
      · have h' := congrArg List.length h
        have e1 : (shI w1 l1).length = l1.length := by simp [shI]; omega
        have e2 : (shI w2 l2).length = l2.length := by simp [shI]; omega
        rw [List.length_append, e1, e2] at h'
        simp at h' h3
        simp [h'] at hlen hlen2
        simp [hlen, hlen2] at h3
    rw [List.sum_append_int] at this
    omega
  have he' : R + a * x * x = m * (P * x) := by rw [← hsum x, ← hprod x]; exact he
  obtain ⟨g, hgg⟩ : ∃ g, g = m / a * P - x := ⟨_, rfl⟩
  obtain ⟨c1, c2, c3, c4, c5⟩ := flip_core ha.1 hx hma hR he' hgg
  rw [← hgg] at hfg hfl
  refine ⟨⟨?_, ?_, ?_⟩, ?_, ?_, ?_, ?_, ?_, ?_, ?_, ?_, ?_, ?_⟩
  · rw [hfl]; simpa using hl
  · rw [hfl]; intro y hy
    rcases List.mem_append.mp hy with h | h
    · exact hpos y (by simp [h])
    · rcases List.mem_cons.mp h with h | h
      · omega
      · exact hpos y (by simp [h])
  · rw [hfl, hsum, hprod]; exact c3
  · rw [hfl, hget, hget, hsum]
    have : R + a * x * x - a * x * x = R := by omega
    rw [this]; exact c5
  · intro j hj
    rw [hfl, hsh, hsh]
    rcases Nat.lt_or_ge j (shI w1 l1).length with h | h
    · simp [List.getD_eq_getElem?_getD, List.getElem?_append_left h]
    · simp only [List.getD_eq_getElem?_getD, List.getElem?_append_right h]
      have : j - (shI w1 l1).length = (j - (shI w1 l1).length - 1) + 1 := by omega
      rw [this]; simp
  · intro j hj
    rw [hfl]
    rcases Nat.lt_or_ge j l1.length with h | h
    · simp [List.getD_eq_getElem?_getD, List.getElem?_append_left h]
    · simp only [List.getD_eq_getElem?_getD, List.getElem?_append_right h]
      have : j - l1.length = (j - l1.length - 1) + 1 := by omega
      rw [this]; simp
  · rw [hfl, hfg]; subst hl1; simp
  · rw [hfg, hlk, hwk, hsum, hget]; omega
  · rw [hfg, hlk, hwk, hcut, prodI_append, hPP]; omega
  · rw [hfl, hsum, hsum, hget, hget]; omega
  · rw [hfg]; exact c2
  · rw [hfg, hsum, hget]; omega
  · rw [hsum, hget]; omega
end Ev

/-! M2: how great the numbers get: all ways up from a row, looked at in any order of places. -/
namespace Ev
abbrev Pr := Int × Int
def shQ (q : Pr) : Int := q.1 * q.2 * q.2
def sumQ : List Pr → Int
  | [] => 0
  | q :: l => shQ q + sumQ l
def prodQ : List Pr → Int
  | [] => 1
  | q :: l => q.2 * prodQ l
def flQ (m : Int) (a : Pr) (r : List Pr) : Pr := (a.1, m / a.1 * prodQ r - a.2)
def sel {α : Type} : List α → List (α × List α)
  | [] => []
  | a :: l => (a, l) :: (sel l).map fun q => (q.1, a :: q.2)
def chk (m B : Int) : Nat → Pr → List Pr → Bool
  | 0, h, r => decide (sumQ (h :: r) < B)
  | t + 1, h, r => decide (sumQ (h :: r) < B) && (sel r).all fun q => chk m B t (flQ m q.1 (h :: q.2)) (h :: q.2)
def chk0 (m B : Int) : Nat → List Pr → Bool
  | 0, r => decide (sumQ r < B)
  | t + 1, r => decide (sumQ r < B) && (sel r).all fun q => chk m B t (flQ m q.1 q.2) q.2
theorem sumQ_perm {l r : List Pr} (h : l.Perm r) : sumQ l = sumQ r := by
  induction h with
  | nil => rfl
  | cons a _ ih => simp only [sumQ, ih]
  | swap a b l => simp only [sumQ]; omega
  | trans _ _ h1 h2 => exact h1.trans h2
theorem prodQ_perm {l r : List Pr} (h : l.Perm r) : prodQ l = prodQ r := by
  induction h with
  | nil => rfl
  | cons a _ ih => simp only [prodQ, ih]
  | swap a b l => simp only [prodQ]; grind
  | trans _ _ h1 h2 => exact h1.trans h2
theorem flQ_perm {m : Int} {a : Pr} {l r : List Pr} (h : l.Perm r) : flQ m a l = flQ m a r := by simp only [flQ, prodQ_perm h]
theorem sel_perm {α : Type} : ∀ {l : List α} {q : α × List α}, q ∈ sel l → (q.1 :: q.2).Perm l
  | [], _, h => by simp [sel] at h
  | a :: l, q, h => by
    simp only [sel, List.mem_cons, List.mem_map] at h
    rcases h with rfl | ⟨q', h', rfl⟩
    · exact .refl _
    · exact (List.Perm.swap _ _ _).trans (List.Perm.cons _ (sel_perm h'))
theorem sel_mem {α : Type} : ∀ {l : List α} {a : α}, a ∈ l → ∃ r, (a, r) ∈ sel l
  | b :: l, a, h => by
    rcases List.mem_cons.mp h with rfl | h
    · exact ⟨l, by simp [sel]⟩
    · obtain ⟨r, hr⟩ := sel_mem h
      exact ⟨b :: r, by simp only [sel, List.mem_cons, List.mem_map]; exact .inr ⟨(a, r), hr, rfl⟩⟩
theorem chk_perm {m B : Int} : ∀ {t : Nat} {h : Pr} {l r : List Pr}, l.Perm r → chk m B t h l = true → chk m B t h r = true
  | 0, h, l, r, p, c => by
    simp only [chk, decide_eq_true_eq] at c ⊢
    rw [← sumQ_perm (p.cons h)]; exact c
  | t + 1, h, l, r, p, c => by
    simp only [chk, Bool.and_eq_true, decide_eq_true_eq, List.all_eq_true] at c ⊢
    refine ⟨by rw [← sumQ_perm (p.cons h)]; exact c.1, fun q hq => ?_⟩
    have h1 := sel_perm hq
    have h2 : q.1 ∈ l := (p.trans h1.symm).mem_iff.mpr (by simp)
    obtain ⟨r', hr'⟩ := sel_mem h2
    have h3 : r'.Perm q.2 := (((sel_perm hr').trans p).trans h1.symm).cons_inv
    have h4 := c.2 _ hr'
    rw [flQ_perm (h3.cons h)] at h4
    exact chk_perm (h3.cons h) h4
theorem chk_sum {m B : Int} {t : Nat} {h : Pr} {r : List Pr} (c : chk m B t h r = true) : sumQ (h :: r) < B := by
  cases t <;> simp [chk] at c
  · exact c
  · exact c.1
theorem chk_next {m B : Int} {t : Nat} {h : Pr} {r : List Pr} (c : chk m B (t + 1) h r = true) {a : Pr} {r' : List Pr} (p : (a :: r').Perm r) : chk m B t (flQ m a (h :: r')) (h :: r') = true := by
  simp only [chk, Bool.and_eq_true, List.all_eq_true] at c
  obtain ⟨r2, h2⟩ := sel_mem (l := r) (a := a) (p.mem_iff.mp (by simp))
  have h3 : r2.Perm r' := ((sel_perm h2).trans p.symm).cons_inv
  have h4 := c.2 _ h2
  rw [flQ_perm (h3.cons h)] at h4
  exact chk_perm (h3.cons h) h4
theorem chk0_next {m B : Int} {t : Nat} {r : List Pr} (c : chk0 m B (t + 1) r = true) {a : Pr} {r' : List Pr} (p : (a :: r').Perm r) : chk m B t (flQ m a r') r' = true := by
  simp only [chk0, Bool.and_eq_true, List.all_eq_true] at c
  obtain ⟨r2, h2⟩ := sel_mem (l := r) (a := a) (p.mem_iff.mp (by simp))
  have h3 : r2.Perm r' := ((sel_perm h2).trans p.symm).cons_inv
  have h4 := c.2 _ h2
  rw [flQ_perm h3] at h4
  exact chk_perm h3 h4
theorem chk0_sum {m B : Int} {t : Nat} {r : List Pr} (c : chk0 m B t r = true) : sumQ r < B := by
  cases t <;> simp [chk0] at c
  · exact c
  · exact c.1
/-! ### rows as lists -/
theorem sum_zip : ∀ (w l : List Int), (shI w l).sum = sumQ (w.zip l)
  | [], l => by simp [shI, sumQ]
  | _ :: _, [] => by simp [shI, sumQ]
  | a :: w, x :: l => by
    have := sum_zip w l
    simp only [shI] at this
    simp only [shI, List.zipWith_cons_cons, List.zip_cons_cons, List.sum_cons, sumQ, shQ, this]
theorem prod_zip : ∀ (w l : List Int), w.length = l.length → prodI l = prodQ (w.zip l)
  | [], [], _ => by simp [prodI_nil, prodQ]
  | a :: w, x :: l, h => by
    rw [List.zip_cons_cons, prodI_cons]
    simp only [prodQ]
    rw [prod_zip w l (by simpa using h)]
theorem zip_erase : ∀ (w l : List Int) (k : Nat), (w.zip l).eraseIdx k = (w.eraseIdx k).zip (l.eraseIdx k)
  | [], l, k => by simp
  | _ :: _, [], k => by simp
  | a :: w, x :: l, 0 => by simp
  | a :: w, x :: l, k + 1 => by simp [zip_erase w l k]
theorem erase_at {α : Type} : ∀ {l : List α} {k : Nat} (h : k < l.length), (l[k] :: l.eraseIdx k).Perm l
  | a :: l, 0, h => by simp
  | a :: l, k + 1, h => by
    have := erase_at (l := l) (k := k) (by simpa using h)
    simp only [List.getElem_cons_succ, List.eraseIdx_cons_succ]
    exact (List.Perm.swap _ _ _).trans (List.Perm.cons _ this)
/-- at a state, the number flipped last at k: all is well for t more flips -/
def InvC (m B : Int) (w l : List Int) (k t : Nat) : Prop := ∃ (h : k < (w.zip l).length), chk m B t (w.zip l)[k] ((w.zip l).eraseIdx k) = true
theorem flip_zip {w l : List Int} {m : Int} {k : Nat} (hl : w.length = l.length) (hk : k < l.length) :
    ∃ (h : k < (w.zip (flI w m l k)).length) (h2 : k < (w.zip l).length), (w.zip (flI w m l k)).eraseIdx k = (w.zip l).eraseIdx k ∧ (w.zip (flI w m l k))[k] = flQ m (w.zip l)[k] ((w.zip l).eraseIdx k) := by
  have e0 : (flI w m l k).length = l.length := by unfold flI; simp; omega
  have e1 : (flI w m l k).eraseIdx k = l.eraseIdx k := by
    rw [List.eraseIdx_eq_take_drop_succ, List.eraseIdx_eq_take_drop_succ]
    unfold flI
    have ht : (l.take k).length = k := by simp; omega
    rw [List.append_assoc, List.take_append_of_le_length (by omega), List.drop_append]
    rw [List.take_of_length_le (l := l.take k) (by omega)]
    have hd : (l.take k).drop (k + 1) = [] := List.drop_eq_nil_of_le (by omega)
    simp [hd, Nat.min_eq_left (Nat.le_of_lt hk)]
  have e2 : (flI w m l k)[k]'(by omega) = flG w m l k := by
    unfold flI
    rw [List.getElem_append_left (by simp; omega), List.getElem_append_right (by simp; omega)]
    simp
  refine ⟨by simp; omega, by simp; omega, ?_, ?_⟩
  · rw [zip_erase, zip_erase, e1]
  · rw [List.getElem_zip, List.getElem_zip, e2, zip_erase]
    unfold flQ flG
    have e3 : (w.eraseIdx k).length = (l.eraseIdx k).length := by rw [List.length_eraseIdx, List.length_eraseIdx, hl]
    rw [← prod_zip _ _ e3, List.eraseIdx_eq_take_drop_succ]
    have hkw : k < w.length := by omega
    simp [hk, hkw]
theorem InvC.sum {m B : Int} {w l : List Int} {k t : Nat} (h : InvC m B w l k t) : (shI w l).sum < B := by
  obtain ⟨hk, c⟩ := h
  rw [sum_zip, ← sumQ_perm (erase_at hk)]
  exact chk_sum c
theorem InvC.next {m B : Int} {w l : List Int} {k t j : Nat} (h : InvC m B w l k (t + 1)) (hl : w.length = l.length) (hj : j < l.length) (hjk : j ≠ k) : InvC m B w (flI w m l j) j t := by
  obtain ⟨hk, c⟩ := h
  obtain ⟨h1, h2, e1, e2⟩ := flip_zip (m := m) hl hj
  refine ⟨h1, ?_⟩
  rw [e1, e2]
  have hm : (w.zip l)[j] ∈ (w.zip l).eraseIdx k := List.mem_eraseIdx_iff_getElem?.mpr ⟨j, hjk, List.getElem?_eq_getElem h2⟩
  obtain ⟨r', hr'⟩ := sel_mem hm
  have p1 := sel_perm hr'
  have p2 : ((w.zip l)[j] :: (w.zip l)[k] :: r').Perm ((w.zip l)[j] :: (w.zip l).eraseIdx j) :=
    (List.Perm.swap _ _ _).trans (((p1.cons _).trans (erase_at hk)).trans (erase_at h2).symm)
  have p3 := p2.cons_inv
  have c1 := chk_next c p1
  rw [flQ_perm p3] at c1
  exact chk_perm p3 c1
theorem InvC.first {m B : Int} {w l : List Int} {r : List Pr} {t j : Nat} (c : chk0 m B (t + 1) r = true) (p : (w.zip l).Perm r) (hl : w.length = l.length) (hj : j < l.length) : InvC m B w (flI w m l j) j t := by
  obtain ⟨h1, h2, e1, e2⟩ := flip_zip (m := m) hl hj
  refine ⟨h1, ?_⟩
  rw [e1, e2]
  exact chk0_next c ((erase_at h2).trans p)
end Ev

/-! M3: the way up. -/
namespace Ev
theorem get_le_sum : ∀ {s : List Int} {i : Nat}, (∀ x ∈ s, 1 ≤ x) → i < s.length → s.getD i 0 + ((s.length : Int) - 1) ≤ s.sum
  | a :: s, 0, h, _ => by
    have h1 : ∀ {s : List Int}, (∀ x ∈ s, 1 ≤ x) → (s.length : Int) ≤ s.sum := by
      intro s
      induction s with
      | nil => intro; simp
      | cons b s ih =>
        intro h
        have := ih fun x hx => h x (by simp [hx])
        have := h b (by simp)
        rw [List.sum_cons, List.length_cons]; omega
    have := h1 (s := s) fun x hx => h x (by simp [hx])
    rw [List.sum_cons, List.length_cons]; simp; omega
  | a :: s, i + 1, h, hi => by
    have := get_le_sum (s := s) (i := i) (fun x hx => h x (by simp [hx])) (by simpa using hi)
    have := h a (by simp)
    rw [List.sum_cons, List.length_cons]; simp at *; omega
theorem two_le_sum : ∀ {s : List Int} {i j : Nat}, (∀ x ∈ s, 1 ≤ x) → i < j → j < s.length → s.getD i 0 + s.getD j 0 + ((s.length : Int) - 2) ≤ s.sum
  | a :: s, 0, j + 1, h, _, hj => by
    have := get_le_sum (s := s) (i := j) (fun x hx => h x (by simp [hx])) (by simpa using hj)
    rw [List.sum_cons, List.length_cons]; simp at *; omega
  | a :: s, i + 1, j + 1, h, hij, hj => by
    have := two_le_sum (s := s) (i := i) (j := j) (fun x hx => h x (by simp [hx])) (by omega) (by simpa using hj)
    have := h a (by simp)
    rw [List.sum_cons, List.length_cons]; simp at *; omega
section
variable {w : List Int} {m : Int} {l : List Int}
theorem Solv.sh (hw : EqOk w m) (hs : Solv w m l) : (∀ x ∈ shI w l, 1 ≤ x) ∧ (shI w l).length = l.length ∧ 3 ≤ l.length := by
  refine ⟨mem_shI (fun x hx => (hw.1.2.2 x hx).1) hs.2.1, ?_, by have := hs.1; have := hw.1.1; omega⟩
  have := hs.1
  simp [shI]; omega
theorem Solv.two (hw : EqOk w m) (hs : Solv w m l) {i j : Nat} (hij : i ≠ j) (hi : i < l.length) (hj : j < l.length) : (shI w l).getD i 0 + (shI w l).getD j 0 < (shI w l).sum := by
  obtain ⟨h1, h2, h3⟩ := hs.sh hw
  rcases Nat.lt_or_ge i j with h | h
  · have := two_le_sum h1 h (by omega); omega
  · have := two_le_sum h1 (show j < i by omega) (by omega); omega
theorem Solv.shk (hw : EqOk w m) (hs : Solv w m l) {i : Nat} (hi : i < l.length) : 1 ≤ (shI w l).getD i 0 := by
  obtain ⟨h1, h2, h3⟩ := hs.sh hw
  have hi' : i < (shI w l).length := by omega
  simp [hi']
  exact h1 _ (List.getElem_mem hi')
theorem Solv.num_le (hw : EqOk w m) (hs : Solv w m l) {x : Int} (hx : x ∈ l) : x * x ≤ (shI w l).sum := by
  obtain ⟨h1, h2, h3⟩ := hs.sh hw
  obtain ⟨i, hi, rfl⟩ := List.getElem_of_mem hx
  have hi' : i < (shI w l).length := by omega
  have hiw : i < w.length := by have := hs.1; omega
  have := get_le_sum h1 hi'
  have e : (shI w l).getD i 0 = w[i] * l[i] * l[i] := by simp [hi']; simp [shI]
  have hw1 := (hw.1.2.2 w[i] (List.getElem_mem hiw)).1
  have hp := hs.2.1 l[i] hx
  have h4 : 1 * (l[i] * l[i]) ≤ w[i] * (l[i] * l[i]) := Int.mul_le_mul_of_nonneg_right hw1 (Int.mul_nonneg (by omega) (by omega))
  have h5 : w[i] * l[i] * l[i] = w[i] * (l[i] * l[i]) := by grind
  omega
theorem Solv.ok (hw : EqOk w m) (hs : Solv w m l) (hb : (shI w l).sum < BN) : SolOk w m l := by
  refine ⟨hs.1, fun x hx => ⟨hs.2.1 x hx, ?_⟩, hs.2.2⟩
  have h1 := hs.num_le hw hx
  have h2 := hs.2.1 x hx
  have h3 : x * 1 ≤ x * x := Int.mul_le_mul_of_nonneg_left h2 (by omega)
  omega
/-- a flip that raises -/
theorem raised (hw : EqOk w m) (hs : Solv w m l) {k : Nat} (hk : k < l.length) (hr : (shI w l).getD k 0 < (shI w l).sum - (shI w l).getD k 0) :
    (shI w l).sum - (shI w l).getD k 0 < (shI w (flI w m l k)).getD k 0 ∧ (shI w (flI w m l k)).sum < 2 * (shI w (flI w m l k)).getD k 0 ∧ (shI w l).sum < (shI w (flI w m l k)).sum := by
  have F := flipD hw hs hk
  have h1 := hs.shk hw hk
  have h2 := F.eq
  have h3 := F.sum
  generalize (shI w l).getD k 0 = s at *
  generalize (shI w (flI w m l k)).getD k 0 = s' at *
  generalize (shI w l).sum = S at *
  have h4 : S - s < s' := by
    rcases Int.lt_or_le (S - s) s' with h | h
    · exact h
    · exfalso
      have a1 : s' * s ≤ (S - s) * s := Int.mul_le_mul_of_nonneg_right h (by omega)
      have a2 : (S - s) * s < (S - s) * (S - s) := Int.mul_lt_mul_of_pos_left hr (by omega)
      omega
  exact ⟨h4, by omega, by omega⟩
/-- raised again: the ratio does not fall -/
theorem ratio (hw : EqOk w m) (hs : Solv w m l) {k j : Nat} (hk : k < l.length) (hj : j < l.length) (hjk : j ≠ k) {mo : Int} (hmo : (shI w l).getD j 0 ≤ mo) :
    (shI w l).getD k 0 * (shI w l).getD k 0 ≤ (shI w (flI w m l j)).getD j 0 * mo := by
  have F := flipD hw hs hj
  have h1 := hs.shk hw hk
  have h2 := hs.two hw hjk hj hk
  have h3 := F.eq
  have h4 : 0 ≤ (shI w (flI w m l j)).getD j 0 := by
    have := F.sol.shk hw (i := j) (by have := F.sol.1; have := hs.1; omega)
    omega
  generalize (shI w l).getD j 0 = sj at *
  generalize (shI w l).getD k 0 = sk at *
  generalize (shI w (flI w m l j)).getD j 0 = s' at *
  generalize (shI w l).sum = S at *
  have a1 : sk * sk ≤ (S - sj) * (S - sj) := Int.mul_le_mul (by omega) (by omega) (by omega) (by omega)
  have a2 : s' * sj ≤ s' * mo := Int.mul_le_mul_of_nonneg_left hmo h4
  omega
theorem maxI_mem : ∀ {s : List Int}, s ≠ [] → maxI s ∈ s
  | a :: s, _ => by
    have : ∀ (s : List Int) (b : Int), s.foldl max b = b ∨ s.foldl max b ∈ s := by
      intro s
      induction s with
      | nil => intro b; simp
      | cons c s ih =>
        intro b
        simp only [List.foldl_cons]
        rcases ih (max b c) with h | h
        · rw [h]
          rcases Int.max_def b c ▸ (by split <;> simp : (if b ≤ c then c else b) = c ∨ (if b ≤ c then c else b) = b) with h2 | h2
          · rw [h2]; simp
          · rw [h2]; simp
        · simp [h]
    simp only [maxI]
    rcases this s a with h | h
    · rw [h]; simp
    · simp [h]
theorem le_maxI : ∀ {s : List Int} {x : Int}, x ∈ s → x ≤ maxI s
  | a :: s, x, hx => by
    have h1 : ∀ (s : List Int) (b : Int), b ≤ s.foldl max b ∧ ∀ x ∈ s, x ≤ s.foldl max b := by
      intro s
      induction s with
      | nil => intro b; simp
      | cons c s ih =>
        intro b
        simp only [List.foldl_cons]
        have h := ih (max b c)
        refine ⟨by omega, fun x hx => ?_⟩
        rcases List.mem_cons.mp hx with rfl | hx
        · omega
        · exact h.2 x hx
    simp only [maxI]
    rcases List.mem_cons.mp hx with rfl | hx
    · exact (h1 s x).1
    · exact (h1 s a).2 x hx
theorem maxI_eq {s : List Int} {M : Int} (h : ∀ x ∈ s, x ≤ M) (hM : M ∈ s) : maxI s = M := by
  have h1 := le_maxI hM
  have h2 := h _ (maxI_mem (by rintro rfl; simp at hM))
  omega
theorem dom_max (hw : EqOk w m) (hs : Solv w m l) {k : Nat} (hk : k < l.length) (hd : (shI w l).sum < 2 * (shI w l).getD k 0) : maxI (shI w l) = (shI w l).getD k 0 := by
  obtain ⟨h1, h2, h3⟩ := hs.sh hw
  have hk' : k < (shI w l).length := by omega
  refine maxI_eq (fun x hx => ?_) (by simp [hk'])
  obtain ⟨i, hi, rfl⟩ := List.getElem_of_mem hx
  by_cases e : i = k
  · subst e; simp [hk']
  · have := hs.two hw e (by omega) hk
    simp [hi] at this
    simp [hk'] at this hd ⊢
    omega
theorem dom_raise (hw : EqOk w m) (hs : Solv w m l) {k j : Nat} (hk : k < l.length) (hj : j < l.length) (hjk : j ≠ k) (hd : (shI w l).sum < 2 * (shI w l).getD k 0) : (shI w l).getD j 0 < (shI w l).sum - (shI w l).getD j 0 := by
  have := hs.two hw hjk hj hk
  omega
theorem idle_iff (hw : EqOk w m) (hs : Solv w m l) {k : Nat} (hk : k < l.length) : flG w m l k = l.getD k 0 ↔ (shI w l).getD k 0 + (shI w l).getD k 0 = (shI w l).sum := by
  have F := flipD hw hs hk
  obtain ⟨h1, h2, h3⟩ := hs.sh hw
  have hk' : k < (shI w l).length := by omega
  have hkw : k < w.length := by have := hs.1; omega
  have e : (shI w l).getD k 0 = w.getD k 1 * l.getD k 0 * l.getD k 0 := by simp [hk', hk, hkw]; simp [shI]
  have hp := F.prod
  have h4 : 1 ≤ w.getD k 1 := by simp [hkw]; exact (hw.1.2.2 _ (List.getElem_mem hkw)).1
  have h5 : 1 ≤ l.getD k 0 := by simp [hk]; exact hs.2.1 _ (List.getElem_mem hk)
  generalize (shI w l).getD k 0 = s at *
  generalize w.getD k 1 = a at *
  generalize l.getD k 0 = x at *
  generalize flG w m l k = g at *
  constructor
  · rintro rfl
    have : g * g * a = a * g * g := by grind
    omega
  · intro h
    have h6 : x * a * g = x * a * x := by
      have e1 : x * g * a = x * a * g := by grind
      have e2 : a * x * x = x * a * x := by grind
      omega
    exact Int.eq_of_mul_eq_mul_left (by have := Int.mul_pos (a := x) (b := a) (by omega) (by omega); omega) h6
theorem idle_one (hw : EqOk w m) (hs : Solv w m l) {i j : Nat} (hi : i < l.length) (hj : j < l.length) (h1 : flG w m l i = l.getD i 0) (h2 : flG w m l j = l.getD j 0) : i = j := by
  by_cases e : i = j
  · exact e
  · have h := hs.two hw e hi hj
    rw [idle_iff hw hs hi] at h1
    rw [idle_iff hw hs hj] at h2
    omega
end
/-! ### words -/
theorem nil_or_snoc {α : Type} (l : List α) : l = [] ∨ ∃ v k, l = v ++ [k] := by
  rcases List.eq_nil_or_concat l with h | ⟨v, k, h⟩
  · exact .inl h
  · exact .inr ⟨v, k, by rw [h, List.concat_eq_append]⟩
def cutN : List Nat → Bool
  | a :: b :: l => a != b && cutN (b :: l)
  | _ => true
theorem cutN_snoc : ∀ {u : List Nat} {k : Nat}, cutN (u ++ [k]) = (cutN u && decide (u.getLast? ≠ some k))
  | [], k => by simp [cutN]
  | [a], k => by simp [cutN, bne]; rfl
  | a :: b :: l, k => by
    have := cutN_snoc (u := b :: l) (k := k)
    simp only [List.cons_append] at this ⊢
    simp only [cutN, this, List.getLast?_cons_cons, Bool.and_assoc]
/-- a word that may be gone up from l -/
structure Good (w : List Int) (m : Int) (l : List Int) (u : List Nat) : Prop where
  lt : ∀ k ∈ u, k < l.length
  cut : cutN u = true
  first : ∀ k, u.head? = some k → flG w m l k ≠ l.getD k 0
theorem Good.nil {w : List Int} {m : Int} {l : List Int} : Good w m l [] := ⟨by simp, rfl, by simp⟩
theorem Good.snoc {w : List Int} {m : Int} {l : List Int} {u : List Nat} {k : Nat} (h : Good w m l u) (hk : k < l.length) (hl : u.getLast? ≠ some k) (hf : u = [] → flG w m l k ≠ l.getD k 0) : Good w m l (u ++ [k]) := by
  refine ⟨fun j hj => ?_, by rw [cutN_snoc]; simp [h.cut, hl], fun j hj => ?_⟩
  · rcases List.mem_append.mp hj with h' | h'
    · exact h.lt j h'
    · simp at h'; omega
  · cases u with
    | nil => simp at hj; subst hj; exact hf rfl
    | cons a u => exact h.first j (by simpa using hj)
theorem Good.pre {w : List Int} {m : Int} {l : List Int} {u : List Nat} {k : Nat} (h : Good w m l (u ++ [k])) : Good w m l u ∧ k < l.length ∧ u.getLast? ≠ some k ∧ (u = [] → flG w m l k ≠ l.getD k 0) := by
  have hc := h.cut
  rw [cutN_snoc] at hc
  simp only [Bool.and_eq_true, decide_eq_true_eq] at hc
  refine ⟨⟨fun j hj => h.lt j (by simp [hj]), hc.1, fun j hj => h.first j ?_⟩, h.lt k (by simp), hc.2, fun e => h.first k (by simp [e])⟩
  cases u with
  | nil => simp at hj
  | cons a u => simpa using hj
theorem walkI_snoc {w : List Int} {m : Int} {l : List Int} {u : List Nat} {k : Nat} : walkI w m l (u ++ [k]) = flI w m (walkI w m l u) k := by
  simp [walkI, List.foldl_append]
def bndN (n : Nat) : Int := if n = 3 then 10 ^ 80 else 10 ^ 50
/-- a row of the table, its places in some order -/
structure RowG (w : List Int) (m : Int) (l : List Int) : Prop where
  eq : EqOk w m
  sol : Solv w m l
  root : ∀ k, k < l.length → (shI w l).getD k 0 + (shI w l).getD k 0 ≤ (shI w l).sum
  chk : ∃ r : List Pr, (w.zip l).Perm r ∧ chk0 m (bndN w.length) (tallB w.length - 1) r = true
  sum0 : (shI w l).sum ≤ 105
/-- a state on the way up -/
structure UpD (w : List Int) (m : Int) (l l0 : List Int) (u : List Nat) : Prop where
  len : l.length = l0.length
  sol : Solv w m l
  bnd : (shI w l).sum < bndN w.length
  dom : ∀ k, u.getLast? = some k → (shI w l).sum < 2 * (shI w l).getD k 0
  inv : ∀ k, u.getLast? = some k → InvC m (bndN w.length) w l k (tallB w.length - 1 - u.length)
theorem RowG.raise {w : List Int} {m : Int} {l0 l : List Int} (R : RowG w m l0) {u : List Nat} {k : Nat} (U : UpD w m l l0 u) (hl : u = [] → l = l0) (hlt : ∀ k ∈ u, k < l0.length) (hk : k < l0.length) (hku : u.getLast? ≠ some k) (hf : u = [] → flG w m l0 k ≠ l0.getD k 0) :
    (shI w l).getD k 0 < (shI w l).sum - (shI w l).getD k 0 := by
  rcases nil_or_snoc u with rfl | ⟨v, j, rfl⟩
  · have e := hl rfl
    subst e
    have h1 := R.root k hk
    have h2 := hf rfl
    rw [Ne, idle_iff R.eq R.sol hk] at h2
    omega
  · have hd := U.dom j (by simp)
    have hj : j < l0.length := hlt j (by simp)
    exact dom_raise R.eq U.sol (by have := U.len; omega) (by have := U.len; omega) (fun e => hku (by simp [e])) hd
theorem RowG.up {w : List Int} {m : Int} {l0 : List Int} (R : RowG w m l0) : ∀ (n : Nat) (u : List Nat), u.length = n → n ≤ tallB w.length - 1 → Good w m l0 u → UpD w m (walkI w m l0 u) l0 u
  | 0, u, hn, _, _ => by
    have : u = [] := List.length_eq_zero_iff.mp hn
    subst this
    obtain ⟨r, p, c⟩ := R.chk
    refine ⟨rfl, R.sol, ?_, by simp, by simp⟩
    show (shI w l0).sum < _
    rw [sum_zip, sumQ_perm p]
    exact chk0_sum c
  | n + 1, u, hn, ht, hg => by
    rcases nil_or_snoc u with rfl | ⟨v, k, rfl⟩
    · simp at hn
    have hv : v.length = n := by simp at hn; exact hn
    obtain ⟨g1, g2, g3, g4⟩ := hg.pre
    have U := R.up n v hv (by omega) g1
    have hk : k < (walkI w m l0 v).length := by have := U.len; omega
    have hwl : w.length = (walkI w m l0 v).length := U.sol.1.symm
    have hr := R.raise U (fun e => by subst e; rfl) g1.lt g2 g3 g4
    have F := flipD R.eq U.sol hk
    have h1 := raised R.eq U.sol hk hr
    have inv : InvC m (bndN w.length) w (flI w m (walkI w m l0 v) k) k (tallB w.length - 1 - (n + 1)) := by
      rcases nil_or_snoc v with rfl | ⟨v', j, rfl⟩
      · obtain ⟨r, p, c⟩ := R.chk
        simp at hv
        subst hv
        have e : tallB w.length - 1 = (tallB w.length - 1 - (0 + 1)) + 1 := by omega
        rw [e] at c
        exact InvC.first c p R.sol.1.symm hk
      · have I := U.inv j (by simp)
        rw [hv] at I
        have e : tallB w.length - 1 - n = (tallB w.length - 1 - (n + 1)) + 1 := by omega
        rw [e] at I
        exact I.next hwl hk (fun e => g3 (by simp [e]))
    rw [walkI_snoc]
    refine ⟨?_, F.sol, inv.sum, fun j hj => ?_, fun j hj => ?_⟩
    · have := F.sol.1; have := U.sol.1; have := U.len; omega
    · simp at hj; subst hj; exact h1.2.1
    · simp at hj; subst hj
      rw [hn]; exact inv
end Ev

/-! M4: two places by turns. -/
namespace Ev
theorem prodI_perm {l r : List Int} (h : l.Perm r) : prodI l = prodI r := by
  induction h with
  | nil => rfl
  | cons a _ ih => simp only [prodI_cons, ih]
  | swap a b l => simp only [prodI_cons]; grind
  | trans _ _ h1 h2 => exact h1.trans h2
theorem sumI_perm {l r : List Int} (h : l.Perm r) : l.sum = r.sum := by
  induction h with
  | nil => rfl
  | cons a _ ih => simp only [List.sum_cons, ih]
  | swap a b l => simp only [List.sum_cons]; omega
  | trans _ _ h1 h2 => exact h1.trans h2
theorem oth_perm {l : List Int} {i j : Nat} (hij : i ≠ j) (hi : i < l.length) (hj : j < l.length) : (l.getD i 0 :: l.getD j 0 :: othI l i j).Perm l := by
  have h1 : (i :: j :: (List.range l.length).filter fun k => !(k == i || k == j)).Perm (List.range l.length) := by
    refine (List.perm_ext_iff_of_nodup ?_ List.nodup_range).2 fun a => ?_
    · refine List.nodup_cons.2 ⟨by simp [hij], List.nodup_cons.2 ⟨by simp, List.nodup_range.sublist List.filter_sublist⟩⟩
    · simp only [List.mem_cons, List.mem_filter, List.mem_range]
      constructor
      · rintro (rfl | rfl | h)
        · exact hi
        · exact hj
        · exact h.1
      · intro h
        by_cases e1 : a = i
        · exact .inl e1
        · by_cases e2 : a = j
          · exact .inr (.inl e2)
          · exact .inr (.inr ⟨h, by simp [e1, e2]⟩)
  have h2 := h1.map fun k => l.getD k 0
  have h3 : (List.range l.length).map (fun k => l.getD k 0) = l := by
    apply List.ext_getElem
    · simp
    · intro k h1 h2
      simp at h1
      simp [h1]
  rw [h3] at h2
  exact h2
theorem shI_getD {w l : List Int} (h : w.length = l.length) {k : Nat} (hk : k < l.length) : (shI w l).getD k 0 = w.getD k 1 * l.getD k 0 * l.getD k 0 := by
  have hw : k < w.length := by omega
  have hs : k < (shI w l).length := by simp [shI]; omega
  simp [hs, hk, hw]
  simp [shI]
/-- the two numbers, as the road tells them: that of one, that of the other -/
def RoadE (a b still mP x y : Int) : Prop := a * x * x + b * y * y + still = mP * x * y
theorem road_keeps {a b still mP x0 y0 near far : Int} (ha : 1 ≤ a) (hb : 1 ≤ b) (hst : 1 ≤ still) (hn : a * near = mP) (hf : b * far = mP) (hx : 1 ≤ x0) (hy : 1 ≤ y0) (h0 : RoadE a b still mP x0 y0) :
    ∀ k : Nat, 1 ≤ roadR x0 y0 near far k ∧ 1 ≤ roadR x0 y0 near far (k + 1) ∧ (k % 2 = 0 → RoadE a b still mP (roadR x0 y0 near far k) (roadR x0 y0 near far (k + 1))) ∧ (k % 2 = 1 → RoadE a b still mP (roadR x0 y0 near far (k + 1)) (roadR x0 y0 near far k))
  | 0 => ⟨hx, hy, fun _ => h0, fun h => by omega⟩
  | k + 1 => by
    obtain ⟨p1, p2, e1, e2⟩ := road_keeps ha hb hst hn hf hx hy h0 k
    have hr : roadR x0 y0 near far (k + 1 + 1) = (if k % 2 = 0 then near else far) * roadR x0 y0 near far (k + 1) - roadR x0 y0 near far k := rfl
    rw [hr]
    generalize roadR x0 y0 near far (k + 1) = y at *
    generalize roadR x0 y0 near far k = x at *
    have pos : ∀ {c s u v z : Int}, 1 ≤ c → 1 ≤ s → 1 ≤ u → 1 ≤ v → c * u * z = s + v → 1 ≤ z := by
      intro c s u v z h1 h2 h3 h4 h5
      rcases Int.lt_or_le 0 z with h | h
      · omega
      · exfalso
        have h6 : 0 < c * u := Int.mul_pos (by omega) (by omega)
        have h7 : c * u * z ≤ 0 := Int.mul_nonpos_of_nonneg_of_nonpos (by omega) h
        omega
    have sq : ∀ {c u : Int}, 1 ≤ c → 1 ≤ u → 1 ≤ c * u * u := by
      intro c u h1 h2
      have h3 : 0 < c * u := Int.mul_pos (by omega) (by omega)
      have h4 : 0 < c * u * u := Int.mul_pos h3 (by omega)
      omega
    rcases Nat.mod_two_eq_zero_or_one k with hk | hk
    · have e := e1 hk
      unfold RoadE at e ⊢
      rw [if_pos hk]
      have hz : a * x * (near * y - x) = still + b * y * y := by subst hn; grind
      refine ⟨p2, pos ha hst p1 (sq hb p2) hz, fun h => by omega, fun _ => ?_⟩
      subst hn; grind
    · have e := e2 hk
      unfold RoadE at e ⊢
      rw [if_neg (by omega)]
      have hz : b * x * (far * y - x) = still + a * y * y := by rw [← hf] at e; grind
      refine ⟨p2, pos hb hst p1 (sq ha p2) hz, fun _ => ?_, fun h => by omega⟩
      rw [← hf] at e ⊢; grind
/-- how great the numbers of a road get -/
theorem road_le {x0 y0 near far F M : Int} (hn : 1 ≤ near) (hf : 1 ≤ far) (hF : near * far ≤ F) (hy : y0 ≤ M) (h : ∀ k, 1 ≤ roadR x0 y0 near far k) :
    ∀ k : Nat, roadR x0 y0 near far (2 * k + 1) ≤ F ^ k * M ∧ roadR x0 y0 near far (2 * k + 2) ≤ F ^ (k + 1) * M := by
  have hnf : 1 ≤ near * far := by have := Int.mul_pos (a := near) (b := far) (by omega) (by omega); omega
  have a2 : ∀ k : Nat, roadR x0 y0 near far (2 * k + 2) ≤ near * roadR x0 y0 near far (2 * k + 1) := fun k => by
    have e : roadR x0 y0 near far (2 * k + 2) = (if (2 * k) % 2 = 0 then near else far) * roadR x0 y0 near far (2 * k + 1) - roadR x0 y0 near far (2 * k) := rfl
    rw [if_pos (by omega)] at e
    have := h (2 * k); omega
  have a3 : ∀ k : Nat, roadR x0 y0 near far (2 * k + 3) ≤ far * roadR x0 y0 near far (2 * k + 2) := fun k => by
    have e : roadR x0 y0 near far (2 * k + 3) = (if (2 * k + 1) % 2 = 0 then near else far) * roadR x0 y0 near far (2 * k + 2) - roadR x0 y0 near far (2 * k + 1) := rfl
    rw [if_neg (by omega)] at e
    have := h (2 * k + 1); omega
  have b3 : ∀ k : Nat, far * roadR x0 y0 near far (2 * k + 2) ≤ F * roadR x0 y0 near far (2 * k + 1) := fun k => by
    have h1 : far * roadR x0 y0 near far (2 * k + 2) ≤ far * (near * roadR x0 y0 near far (2 * k + 1)) := Int.mul_le_mul_of_nonneg_left (a2 k) (by omega)
    have h2 : near * far * roadR x0 y0 near far (2 * k + 1) ≤ F * roadR x0 y0 near far (2 * k + 1) := Int.mul_le_mul_of_nonneg_right hF (by have := h (2 * k + 1); omega)
    have h3 : far * (near * roadR x0 y0 near far (2 * k + 1)) = near * far * roadR x0 y0 near far (2 * k + 1) := by grind
    omega
  have c2 : ∀ k : Nat, roadR x0 y0 near far (2 * k + 2) ≤ F * roadR x0 y0 near far (2 * k + 1) := fun k => by
    have h1 : 1 * roadR x0 y0 near far (2 * k + 2) ≤ far * roadR x0 y0 near far (2 * k + 2) := Int.mul_le_mul_of_nonneg_right hf (by have := h (2 * k + 2); omega)
    have := b3 k; omega
  have od : ∀ k : Nat, roadR x0 y0 near far (2 * k + 1) ≤ F ^ k * M := by
    intro k
    induction k with
    | zero => simpa [roadR] using hy
    | succ k ih =>
      have h1 := a3 k
      have h2 := b3 k
      have h3 : F * roadR x0 y0 near far (2 * k + 1) ≤ F * (F ^ k * M) := Int.mul_le_mul_of_nonneg_left ih (by omega)
      have h4 : F ^ (k + 1) * M = F * (F ^ k * M) := by rw [Int.pow_succ]; grind
      rw [h4]
      exact Int.le_trans h1 (Int.le_trans h2 h3)
  intro k
  refine ⟨od k, ?_⟩
  have h3 : F * roadR x0 y0 near far (2 * k + 1) ≤ F * (F ^ k * M) := Int.mul_le_mul_of_nonneg_left (od k) (by omega)
  have h4 : F ^ (k + 1) * M = F * (F ^ k * M) := by rw [Int.pow_succ]; grind
  rw [h4]
  exact Int.le_trans (c2 k) h3
/-- what a solution of bounded size tells of a road -/
theorem road_all {w : List Int} {m : Int} {l : List Int} {i j : Nat} (hw : EqOk w m) (hs : Solv w m l) (hb : (shI w l).sum < bndN w.length) (hij : i ≠ j) (hi : i < l.length) (hj : j < l.length) :
    (∀ k, k ≤ 7 → 1 ≤ roadR (l.getD i 0) (l.getD j 0) (nearI w m l i j) (nearI w m l j i) k ∧ roadR (l.getD i 0) (l.getD j 0) (nearI w m l i j) (nearI w m l j i) k < BN) ∧
    (∀ k, k ≤ 7 → (k % 2 = 0 → RoadE (w.getD i 1) (w.getD j 1) (othI (shI w l) i j).sum (m * prodI (othI l i j)) (roadR (l.getD i 0) (l.getD j 0) (nearI w m l i j) (nearI w m l j i) k) (roadR (l.getD i 0) (l.getD j 0) (nearI w m l i j) (nearI w m l j i) (k + 1))) ∧
      (k % 2 = 1 → RoadE (w.getD i 1) (w.getD j 1) (othI (shI w l) i j).sum (m * prodI (othI l i j)) (roadR (l.getD i 0) (l.getD j 0) (nearI w m l i j) (nearI w m l j i) (k + 1)) (roadR (l.getD i 0) (l.getD j 0) (nearI w m l i j) (nearI w m l j i) k))) := by
  obtain ⟨s1, s2, s3⟩ := hs.sh hw
  have hwl : w.length = l.length := hs.1.symm
  have hiw : i < w.length := by omega
  have hjw : j < w.length := by omega
  have po := oth_perm hij hi hj
  have pr := prodI_perm po
  rw [prodI_cons, prodI_cons] at pr
  have so := sumI_perm (oth_perm (l := shI w l) hij (by omega) (by omega))
  rw [List.sum_cons, List.sum_cons, shI_getD hwl hi, shI_getD hwl hj] at so
  have hst : 1 ≤ (othI (shI w l) i j).sum := by
    have := hs.two hw hij hi hj
    rw [shI_getD hwl hi, shI_getD hwl hj] at this
    omega
  have hP : 1 ≤ prodI (othI l i j) := prodI_pos fun x hx => hs.2.1 x ((po.mem_iff).mp (by simp [hx]))
  have oc : othI l j i = othI l i j := by
    unfold othI
    congr 1
    apply List.filter_congr
    intro k _
    rw [Bool.or_comm]
  have hwi : 1 ≤ w.getD i 1 := by simp [hiw]; exact (hw.1.2.2 _ (List.getElem_mem hiw)).1
  have hwj : 1 ≤ w.getD j 1 := by simp [hjw]; exact (hw.1.2.2 _ (List.getElem_mem hjw)).1
  have hmi : m % w.getD i 1 = 0 := by simp [hiw]; exact hw.2.2.2 _ (List.getElem_mem hiw)
  have hmj : m % w.getD j 1 = 0 := by simp [hjw]; exact hw.2.2.2 _ (List.getElem_mem hjw)
  have hli : 1 ≤ l.getD i 0 := by simp [hi]; exact hs.2.1 _ (List.getElem_mem hi)
  have hlj : 1 ≤ l.getD j 0 := by simp [hj]; exact hs.2.1 _ (List.getElem_mem hj)
  have hlj2 : l.getD j 0 * l.getD j 0 ≤ (shI w l).sum := hs.num_le hw (by simp [hj])
  have hli2 : l.getD i 0 * l.getD i 0 ≤ (shI w l).sum := hs.num_le hw (by simp [hi])
  have he := hs.2.2
  have hoth : ∀ x ∈ othI l i j, x * x ≤ (shI w l).sum := fun x hx => hs.num_le hw ((po.mem_iff).mp (by simp [hx]))
  have hcases : prodI (othI l i j) * prodI (othI l i j) ≤ (shI w l).sum ∨ 4 ≤ w.length := by
    rcases Nat.lt_or_ge w.length 4 with h | h
    · left
      have h3 := po.length_eq
      simp only [List.length_cons] at h3
      have : (othI l i j).length = 1 := by omega
      obtain ⟨x, hx⟩ := List.length_eq_one_iff.mp this
      have := hoth x (by simp [hx])
      rw [hx]; simpa [prodI] using this
    · exact .inr h
  unfold nearI
  rw [oc]
  have c1 : m / w.getD i 1 * w.getD i 1 = m := Int.ediv_mul_cancel (Int.dvd_of_emod_eq_zero hmi)
  have c2 : m / w.getD j 1 * w.getD j 1 = m := Int.ediv_mul_cancel (Int.dvd_of_emod_eq_zero hmj)
  have hm1 := hw.2.1
  have hm2 := hw.2.2.1
  generalize prodI (othI l i j) = P at *
  generalize (othI (shI w l) i j).sum = still at *
  generalize (shI w l).sum = S at *
  generalize w.getD i 1 = a at *
  generalize w.getD j 1 = b at *
  generalize l.getD i 0 = x at *
  generalize l.getD j 0 = y at *
  have hma : 1 ≤ m / a := by
    rcases Int.lt_or_le 0 (m / a) with h | h
    · omega
    · exfalso
      have := Int.mul_nonpos_of_nonpos_of_nonneg h (show 0 ≤ a by omega)
      omega
  have hmb : 1 ≤ m / b := by
    rcases Int.lt_or_le 0 (m / b) with h | h
    · omega
    · exfalso
      have := Int.mul_nonpos_of_nonpos_of_nonneg h (show 0 ≤ b by omega)
      omega
  have hma2 : m / a ≤ m := Int.ediv_le_self _ (by omega)
  have hmb2 : m / b ≤ m := Int.ediv_le_self _ (by omega)
  have n1 : 1 ≤ m / a * P := by have := Int.mul_pos (a := m / a) (b := P) (by omega) (by omega); omega
  have n2 : 1 ≤ m / b * P := by have := Int.mul_pos (a := m / b) (b := P) (by omega) (by omega); omega
  have n3 : m / a * P ≤ m * P := Int.mul_le_mul_of_nonneg_right hma2 (by omega)
  have n4 : m / b * P ≤ m * P := Int.mul_le_mul_of_nonneg_right hmb2 (by omega)
  have hE : RoadE a b still (m * P) x y := by unfold RoadE; grind
  have K := road_keeps hwi hwj hst (show a * (m / a * P) = m * P by grind) (show b * (m / b * P) = m * P by grind) hli hlj hE
  refine ⟨fun k hk => ⟨(K k).1, ?_⟩, fun k _ => ⟨(K k).2.2.1, (K k).2.2.2⟩⟩
  have hS0 : 0 ≤ S := by have := Int.mul_nonneg (a := x) (b := x) (by omega) (by omega); omega
  have hS : S ≤ 10 ^ 80 := by
    unfold bndN at hb
    have : (10 : Int) ^ 50 ≤ 10 ^ 80 := by decide +kernel
    split at hb <;> omega
  have hF : m / a * P * (m / b * P) ≤ 10 ^ 100 := by
    have q1 : m / a * P * (m / b * P) ≤ m * P * (m * P) := Int.mul_le_mul n3 n4 (by omega) (by omega)
    rcases hcases with h | h
    · have q2 : m * P * (m * P) = m * m * (P * P) := by grind
      have q3 : m * m ≤ 60 * 60 := Int.mul_le_mul hm2 hm2 (by omega) (by omega)
      have q4 : m * m * (P * P) ≤ 60 * 60 * S := Int.mul_le_mul q3 h (Int.mul_nonneg (by omega) (by omega)) (by omega)
      have q5 : (60 : Int) * 60 * 10 ^ 80 ≤ 10 ^ 100 := by decide +kernel
      omega
    · have hS5 : S ≤ 10 ^ 50 := by
        unfold bndN at hb
        rw [if_neg (by omega)] at hb; omega
      have hxy : 1 ≤ x * y := by have := Int.mul_pos (a := x) (b := y) (by omega) (by omega); omega
      have q2 : m * P ≤ S := by
        have e : S = m * P * (x * y) := by rw [he, ← pr]; grind
        have q0 : m * P * 1 ≤ m * P * (x * y) := Int.mul_le_mul_of_nonneg_left hxy (by omega)
        omega
      have q3 : m * P * (m * P) ≤ 10 ^ 50 * 10 ^ 50 := Int.mul_le_mul (by omega) (by omega) (by omega) (by decide +kernel)
      have q4 : (10 : Int) ^ 50 * 10 ^ 50 = 10 ^ 100 := by decide +kernel
      omega
  have hyS : y ≤ 10 ^ 80 := by
    have : y * 1 ≤ y * y := Int.mul_le_mul_of_nonneg_left hlj (by omega)
    omega
  have hxS : x ≤ 10 ^ 80 := by
    have : x * 1 ≤ x * x := Int.mul_le_mul_of_nonneg_left hli (by omega)
    omega
  have L := road_le (F := 10 ^ 100) (M := 10 ^ 80) n1 n2 hF hyS fun k => (K k).1
  have bn : ((10 : Int) ^ 100) ^ 3 * 10 ^ 80 < BN := by decide +kernel
  have bn2 : ((10 : Int) ^ 100) ^ 2 * 10 ^ 80 < BN := by decide +kernel
  have bn1 : ((10 : Int) ^ 100) ^ 1 * 10 ^ 80 < BN := by decide +kernel
  have bn0 : ((10 : Int) ^ 100) ^ 0 * 10 ^ 80 < BN := by decide +kernel
  have bn00 : (10 : Int) ^ 80 < BN := by decide +kernel
  rcases k with _ | _ | _ | _ | _ | _ | _ | _ | k
  · exact Int.lt_of_le_of_lt hxS bn00
  · exact Int.lt_of_le_of_lt (L 0).1 bn0
  · exact Int.lt_of_le_of_lt (L 0).2 bn1
  · exact Int.lt_of_le_of_lt (L 1).1 bn1
  · exact Int.lt_of_le_of_lt (L 1).2 bn2
  · exact Int.lt_of_le_of_lt (L 2).1 bn2
  · exact Int.lt_of_le_of_lt (L 2).2 bn
  · exact Int.lt_of_le_of_lt (L 3).1 bn
  · omega
end Ev

set_option Elab.async false
set_option linter.all false
set_option maxRecDepth 100000
set_option maxHeartbeats 4000000
/-! Kx2: k80's table of rows. -/
namespace Ev
def knownL : List (List Int × Int × List Int) := [([1, 1, 1], 3, [1, 1, 1]), ([1, 1, 1], 1, [3, 3, 3]), ([1, 1, 2], 4, [1, 1, 1]), ([1, 1, 5], 5, [1, 2, 1]), ([1, 2, 3], 6, [1, 1, 1]), ([1, 2, 2], 2, [4, 2, 2]), ([2, 3, 6], 6, [3, 2, 1]), ([1, 5, 5], 5, [5, 1, 2]), ([1, 9, 9], 9, [3, 1, 1]), ([12, 12, 12], 36, [1, 1, 1]),
  ([1, 1, 1, 1], 4, [1, 1, 1, 1]), ([1, 1, 1, 1], 1, [2, 2, 2, 2]), ([1, 1, 1, 2], 4, [1, 1, 2, 1]), ([1, 1, 1, 3], 3, [1, 2, 2, 1]), ([1, 1, 2, 2], 2, [1, 3, 2, 3]), ([1, 2, 6, 6], 6, [2, 2, 1, 1]), ([3, 4, 12, 12], 12, [2, 3, 1, 1]), ([2, 2, 5, 10], 10, [1, 2, 2, 1]),
  ([1, 1, 1, 1, 1], 1, [1, 1, 3, 3, 4]), ([1, 1, 1, 1, 1], 4, [1, 1, 1, 1, 2]), ([1, 1, 2, 2, 2], 2, [2, 4, 1, 1, 2]), ([1, 1, 5, 5, 5], 5, [1, 7, 1, 1, 3]), ([1, 1, 1, 1, 1, 1], 3, [1, 1, 1, 1, 2, 2]), ([1, 1, 1, 1, 1, 1], 6, [1, 1, 1, 1, 1, 1]), ([1, 1, 1, 1, 2, 2], 2, [1, 1, 2, 4, 1, 2]),
  ([2, 2, 2, 3, 3, 3], 12, [1, 1, 1, 1, 1, 2]), ([1, 2, 2, 3, 3, 3], 6, [1, 1, 3, 1, 1, 3])]
def rowT (r : List Int × Int × List Int) : D := .tup [tI r.1, .int r.2.1, tI r.2.2]
def rowOk (r : List Int × Int × List Int) : Bool := decide (3 ≤ r.1.length) && decide (r.1.length ≤ 6) && decide (r.2.2.length = r.1.length) && r.1.all (fun x => decide (1 ≤ x) && decide (x ≤ 12) && decide (r.2.1 % x = 0)) && decide (1 ≤ r.2.1) && decide (r.2.1 ≤ 60) && r.2.2.all (fun x => decide (1 ≤ x)) &&
  decide (sumQ (r.1.zip r.2.2) = r.2.1 * prodQ (r.1.zip r.2.2)) && (r.1.zip r.2.2).all (fun q => decide (shQ q + shQ q ≤ sumQ (r.1.zip r.2.2))) && decide (sumQ (r.1.zip r.2.2) ≤ 105) && chk0 r.2.1 (bndN r.1.length) (tallB r.1.length - 1) (r.1.zip r.2.2)
theorem rows_ok : knownL.all rowOk = true := by decide +kernel
theorem rowG_of {r : List Int × Int × List Int} (hr : rowOk r = true) {w l : List Int} (hl : w.length = l.length) (p : (w.zip l).Perm (r.1.zip r.2.2)) : RowG w r.2.1 l := by
  obtain ⟨rw, m, rl⟩ := r
  simp only [rowOk, Bool.and_eq_true, decide_eq_true_eq, List.all_eq_true] at hr
  obtain ⟨⟨⟨⟨⟨⟨⟨⟨⟨⟨h1, h2⟩, h3⟩, h4⟩, h5⟩, h6⟩, h7⟩, h8⟩, h9⟩, h11⟩, h10⟩ := hr
  simp only at h1 h2 h3 h4 h5 h6 h7 h8 h9 h10 h11 p
  have lenz : w.length = rw.length := by
    have := p.length_eq
    simp only [List.length_zip] at this
    omega
  have pw : w.Perm rw := by
    have := p.map Prod.fst
    rwa [List.map_fst_zip (show w.length ≤ l.length by omega), List.map_fst_zip (show rw.length ≤ rl.length by omega)] at this
  have pl : l.Perm rl := by
    have := p.map Prod.snd
    rwa [List.map_snd_zip (show l.length ≤ w.length by omega), List.map_snd_zip (show rl.length ≤ rw.length by omega)] at this
  have e : (shI w l).sum = sumQ (rw.zip rl) := by rw [sum_zip, sumQ_perm p]
  show RowG w m l
  refine ⟨⟨⟨by omega, by omega, fun x hx => ?_⟩, h5, h6, fun x hx => ?_⟩, ⟨hl.symm, fun x hx => h7 x (pl.mem_iff.mp hx), ?_⟩, fun k hk => ?_, ⟨_, p, ?_⟩, by rw [e]; exact h11⟩
  · exact (h4 x (pw.mem_iff.mp hx)).1
  · exact (h4 x (pw.mem_iff.mp hx)).2
  · rw [e, h8, prod_zip w l hl, prodQ_perm p]
  · have hz : k < (w.zip l).length := by simp; omega
    have := h9 (w.zip l)[k] (p.mem_iff.mp (List.getElem_mem hz))
    rw [e, shI_getD hl hk]
    have hkw : k < w.length := by omega
    simp [shQ] at this
    simp [hk, hkw]
    exact this
  · rw [lenz]; exact h10
end Ev

set_option Elab.async false
set_option linter.all false
set_option maxRecDepth 100000
set_option maxHeartbeats 4000000
/-! Kx3: rests, words cut, two places by turns. -/
namespace Ev
/-! ### finitely many -/
theorem nodup_le {α : Type} [DecidableEq α] : ∀ {l m : List α}, l.Nodup → (∀ x ∈ l, x ∈ m) → l.length ≤ m.length
  | [], _, _, _ => Nat.zero_le _
  | a :: l, m, hn, hs => by
    obtain ⟨h1, h2⟩ := List.nodup_cons.mp hn
    have ha := hs a (by simp)
    have : l.length ≤ (m.erase a).length := nodup_le h2 fun x hx => by
      have hxa : x ≠ a := fun e => h1 (e ▸ hx)
      exact (List.mem_erase_of_ne hxa).mpr (hs x (by simp [hx]))
    rw [List.length_erase_of_mem ha] at this
    have hp : 0 < m.length := List.length_pos_of_mem ha
    simp; omega
/-- so many pigeons -/
theorem pigeon {c : Nat → Nat} {N : Nat} (h : ∀ i, c i < N) : ∃ s t, s < t ∧ t ≤ N ∧ c s = c t := by
  by_cases hn : ((List.range (N + 1)).map c).Nodup
  · have := nodup_le hn (m := List.range N) fun x hx => by
      obtain ⟨i, _, rfl⟩ := List.mem_map.mp hx
      exact List.mem_range.mpr (h i)
    simp at this
    omega
  · rw [List.Nodup, List.pairwise_iff_getElem] at hn
    have : ∃ i j, ∃ (hi : i < ((List.range (N + 1)).map c).length) (hj : j < ((List.range (N + 1)).map c).length), i < j ∧ ((List.range (N + 1)).map c)[i] = ((List.range (N + 1)).map c)[j] := by
      apply Classical.byContradiction
      intro hc
      apply hn
      intro i j hi hj hij he
      exact hc ⟨i, j, hi, hj, hij, he⟩
    obtain ⟨i, j, hi, hj, hij, e⟩ := this
    simp at hi hj e
    exact ⟨i, j, hij, by omega, e⟩
def iter {α : Type} (f : α → α) : Nat → α → α
  | 0, x => x
  | n + 1, x => f (iter f n x)
theorem iter_add {α : Type} (f : α → α) (a : Nat) (x : α) : ∀ b, iter f (a + b) x = iter f b (iter f a x)
  | 0 => rfl
  | b + 1 => by
    show f (iter f (a + b) x) = f (iter f b (iter f a x))
    rw [iter_add f a x b]
/-- an orbit comes round -/
theorem comes_round {α : Type} {f : α → α} {x : α} {c : α → Nat} {N : Nat} (hc : ∀ t, c (iter f t x) < N) (hi : ∀ s t, c (iter f s x) = c (iter f t x) → iter f s x = iter f t x)
    (hf : ∀ s t, iter f (s + 1) x = iter f (t + 1) x → iter f s x = iter f t x) : ∃ T, 1 ≤ T ∧ T ≤ N ∧ iter f T x = x := by
  obtain ⟨s, t, hst, ht, e⟩ := pigeon hc
  have e1 := hi s t e
  have back : ∀ s d, iter f s x = iter f (s + d) x → x = iter f d x := by
    intro s
    induction s with
    | zero => intro d h; rw [Nat.zero_add] at h; exact h
    | succ s ih =>
      intro d h
      exact ih d (hf s (s + d) (by rw [show s + d + 1 = s + 1 + d by omega]; exact h))
  refine ⟨t - s, by omega, by omega, ?_⟩
  exact (back s (t - s) (by rw [show s + (t - s) = t by omega]; exact e1)).symm
/-- the least round -/
def Least {α : Type} (f : α → α) (x : α) (T : Nat) : Prop := 1 ≤ T ∧ iter f T x = x ∧ ∀ t, 1 ≤ t → t < T → iter f t x ≠ x
theorem least_unique {α : Type} {f : α → α} {x : α} {S T : Nat} (h1 : Least f x S) (h2 : Least f x T) : S = T := by
  rcases Nat.lt_trichotomy S T with h | h | h
  · exact absurd h1.2.1 (h2.2.2 S h1.1 h)
  · exact h
  · exact absurd h2.2.1 (h1.2.2 T h2.1 h)
theorem least_le {α : Type} {f : α → α} {x : α} {S T : Nat} (h1 : Least f x S) (h2 : 1 ≤ T) (h3 : iter f T x = x) : S ≤ T := by
  rcases Nat.lt_or_ge T S with h | h
  · exact absurd h3 (h1.2.2 T h2 h)
  · exact h
/-! ### words cut -/
def cutStep (s : List Nat) (k : Nat) : List Nat := if s.getLast? = some k then s.dropLast else s ++ [k]
def cutL (v : List Nat) : List Nat := v.foldl cutStep []
theorem cutStep_length (s : List Nat) (k : Nat) : (cutStep s k).length ≤ s.length + 1 := by
  unfold cutStep
  split
  · simp; omega
  · simp
theorem cutFold_length : ∀ (v s : List Nat), (v.foldl cutStep s).length ≤ s.length + v.length
  | [], s => by simp
  | k :: v, s => by
    have h1 := cutFold_length v (cutStep s k)
    have h2 := cutStep_length s k
    simp; omega
theorem cutL_length (v : List Nat) : (cutL v).length ≤ v.length := by
  have := cutFold_length v []
  simpa [cutL] using this
theorem cutFold_mem : ∀ (v s : List Nat), ∀ x ∈ v.foldl cutStep s, x ∈ s ∨ x ∈ v
  | [], s, x, h => .inl h
  | k :: v, s, x, h => by
    rcases cutFold_mem v (cutStep s k) x h with h | h
    · unfold cutStep at h
      split at h
      · exact .inl ((List.dropLast_sublist _).subset h)
      · rcases List.mem_append.mp h with h | h
        · exact .inl h
        · simp at h; exact .inr (by simp [h])
    · exact .inr (by simp [h])
theorem cutL_mem (v : List Nat) : ∀ x ∈ cutL v, x ∈ v := fun x h => by
  rcases cutFold_mem v [] x h with h | h
  · simp at h
  · exact h
theorem foldl_keeps {α : Type} {f : α → Nat → α} {V : α → Prop} {K : Nat → Prop} (hv : ∀ x k, V x → K k → V (f x k)) : ∀ (v : List Nat) (x : α), V x → (∀ k ∈ v, K k) → V (v.foldl f x)
  | [], x, h, _ => h
  | k :: v, x, h, hk => foldl_keeps hv v (f x k) (hv x k h (hk k (by simp))) fun j hj => hk j (by simp [hj])
/-- what is struck changes nothing where each step undoes itself -/
theorem cutFold_same {α : Type} {f : α → Nat → α} {V : α → Prop} {K : Nat → Prop} (hv : ∀ x k, V x → K k → V (f x k)) (hf : ∀ x k, V x → K k → f (f x k) k = x) : ∀ (v s : List Nat) (x : α), V x → (∀ k ∈ s, K k) → (∀ k ∈ v, K k) →
    (v.foldl cutStep s).foldl f x = v.foldl f (s.foldl f x)
  | [], s, x, _, _, _ => rfl
  | k :: v, s, x, hx, hs, hk => by
    have hk0 := hk k (by simp)
    have h1 : (cutStep s k).foldl f x = f (s.foldl f x) k := by
      unfold cutStep
      split
      · rename_i hl
        rcases nil_or_snoc s with rfl | ⟨t, j, rfl⟩
        · simp at hl
        · simp at hl
          subst hl
          simp only [List.dropLast_concat, List.foldl_append, List.foldl_cons, List.foldl_nil]
          exact (hf _ j (foldl_keeps hv t x hx fun i hi => hs i (by simp [hi])) hk0).symm
      · simp [List.foldl_append]
    have h2 : ∀ j ∈ cutStep s k, K j := by
      intro j hj
      unfold cutStep at hj
      split at hj
      · exact hs j ((List.dropLast_sublist _).subset hj)
      · rcases List.mem_append.mp hj with hj | hj
        · exact hs j hj
        · simp at hj; subst hj; exact hk0
    rw [List.foldl_cons, cutFold_same hv hf v (cutStep s k) x hx h2 (fun j hj => hk j (by simp [hj])), h1, List.foldl_cons]
theorem cutL_same {α : Type} {f : α → Nat → α} {V : α → Prop} {K : Nat → Prop} (hv : ∀ x k, V x → K k → V (f x k)) (hf : ∀ x k, V x → K k → f (f x k) k = x) {v : List Nat} {x : α} (hx : V x) (hk : ∀ k ∈ v, K k) : (cutL v).foldl f x = v.foldl f x :=
  cutFold_same hv hf v [] x hx (by simp) hk
/-- there and back -/
theorem back_same {α : Type} {f : α → Nat → α} {V : α → Prop} {K : Nat → Prop} (hv : ∀ x k, V x → K k → V (f x k)) (hf : ∀ x k, V x → K k → f (f x k) k = x) : ∀ (v : List Nat) (x : α), V x → (∀ k ∈ v, K k) → v.reverse.foldl f (v.foldl f x) = x
  | [], x, _, _ => rfl
  | k :: v, x, hx, hk => by
    have hk0 := hk k (by simp)
    rw [List.foldl_cons, List.reverse_cons, List.foldl_append, back_same hv hf v (f x k) (hv x k hx hk0) (fun j hj => hk j (by simp [hj]))]
    exact hf x k hx hk0
end Ev

/-! Kx3, 2: rests led along. -/
namespace Ev
def rsI (u : Int) (l : List Int) : List Int := l.map (· % u)
def rfI (w : List Int) (m u : Int) (r : List Int) (k : Nat) : List Int := r.take k ++ [flG w m r k % u] ++ r.drop (k + 1)
def rwI (w : List Int) (m u : Int) (r : List Int) (v : List Nat) : List Int := v.foldl (rfI w m u) r
def RR (u : Int) (r : List Int) : Prop := ∀ x ∈ r, 0 ≤ x ∧ x < u
theorem rsI_rr {u : Int} (hu : 0 < u) (l : List Int) : RR u (rsI u l) := by
  intro x hx
  obtain ⟨y, _, rfl⟩ := List.mem_map.mp hx
  exact ⟨Int.emod_nonneg _ (by omega), Int.emod_lt_of_pos _ hu⟩
theorem rsI_length {u : Int} (l : List Int) : (rsI u l).length = l.length := by simp [rsI]
/-- a row with the number at k put in -/
theorem fl_at {w : List Int} {m : Int} {l1 l2 : List Int} {x : Int} : flG w m (l1 ++ x :: l2) l1.length = m / w.getD l1.length 1 * (prodI l1 * prodI l2) - x := by
  unfold flG
  rw [List.take_left' rfl, show (l1 ++ x :: l2).drop (l1.length + 1) = l2 by simp, prodI_append]
  simp
theorem rf_at {w : List Int} {m u : Int} {l1 l2 : List Int} {x : Int} : rfI w m u (l1 ++ x :: l2) l1.length = l1 ++ ((m / w.getD l1.length 1 * (prodI l1 * prodI l2) - x) % u) :: l2 := by
  unfold rfI
  rw [fl_at, List.take_left' rfl, show (l1 ++ x :: l2).drop (l1.length + 1) = l2 by simp]
  simp
theorem rfI_length {w : List Int} {m u : Int} {r : List Int} {k : Nat} (h : k < r.length) : (rfI w m u r k).length = r.length := by
  unfold rfI; simp; omega
theorem rfI_rr {w : List Int} {m u : Int} {r : List Int} {k : Nat} (hu : 0 < u) (h : RR u r) : RR u (rfI w m u r k) := by
  intro x hx
  unfold rfI at hx
  rcases List.mem_append.mp hx with hx | hx
  · rcases List.mem_append.mp hx with hx | hx
    · exact h x (List.mem_of_mem_take hx)
    · simp at hx; subst hx
      exact ⟨Int.emod_nonneg _ (by omega), Int.emod_lt_of_pos _ hu⟩
  · exact h x (List.mem_of_mem_drop hx)
theorem rf_rf {w : List Int} {m u : Int} {r : List Int} {k : Nat} (h : RR u r) (hk : k < r.length) : rfI w m u (rfI w m u r k) k = r := by
  obtain ⟨l1, x, l2, rfl, rfl, -⟩ := cut_at hk
  rw [rf_at, rf_at]
  have hx := h x (by simp)
  generalize m / w.getD l1.length 1 * (prodI l1 * prodI l2) = e
  have : (e - (e - x) % u) % u = x := by
    rw [Int.sub_emod, Int.emod_emod_of_dvd _ (Int.dvd_refl u), ← Int.sub_emod, show e - (e - x) = x by omega]
    exact Int.emod_eq_of_lt hx.1 hx.2
  rw [this]
theorem prodI_mod {u : Int} : ∀ l : List Int, prodI (rsI u l) % u = prodI l % u
  | [] => rfl
  | a :: l => by
    have := prodI_mod (u := u) l
    simp only [rsI, List.map_cons] at this ⊢
    rw [prodI_cons, prodI_cons, Int.mul_emod, this, Int.emod_emod_of_dvd _ (Int.dvd_refl u), ← Int.mul_emod]
theorem mod_flip (u e a b x : Int) (h : a % u = b % u) : (e * a - x % u) % u = (e * b - x) % u := by
  rw [Int.sub_emod, Int.emod_emod_of_dvd _ (Int.dvd_refl u), Int.mul_emod, h, ← Int.mul_emod, ← Int.sub_emod]
theorem rs_fl {w : List Int} {m u : Int} {l : List Int} {k : Nat} (hk : k < l.length) : rsI u (flI w m l k) = rfI w m u (rsI u l) k := by
  obtain ⟨l1, x, l2, rfl, rfl, -⟩ := cut_at hk
  have e1 : flI w m (l1 ++ x :: l2) l1.length = l1 ++ flG w m (l1 ++ x :: l2) l1.length :: l2 := by
    unfold flI
    rw [List.take_left' rfl, show (l1 ++ x :: l2).drop (l1.length + 1) = l2 by simp]
    simp
  have e2 : rsI u (l1 ++ x :: l2) = rsI u l1 ++ (x % u) :: rsI u l2 := by simp [rsI]
  have e3 : (rsI u l1).length = l1.length := rsI_length l1
  rw [e1, e2, ← e3, rf_at, e3, fl_at]
  simp only [rsI, List.map_append, List.map_cons]
  have e4 : (prodI (rsI u l1) * prodI (rsI u l2)) % u = (prodI l1 * prodI l2) % u := by
    rw [Int.mul_emod, prodI_mod, prodI_mod, ← Int.mul_emod]
  have e5 := mod_flip u (m / w.getD l1.length 1) _ _ x e4
  simp only [rsI] at e5
  rw [e5]
theorem rw_rs {w : List Int} {m u : Int} : ∀ (v : List Nat) (l : List Int), (∀ k ∈ v, k < l.length) → rsI u (walkI w m l v) = rwI w m u (rsI u l) v
  | [], l, _ => rfl
  | k :: v, l, h => by
    have hk := h k (by simp)
    have e : (flI w m l k).length = l.length := by unfold flI; simp; omega
    have := rw_rs (w := w) (m := m) (u := u) v (flI w m l k) fun j hj => by rw [e]; exact h j (by simp [hj])
    simp only [walkI, rwI, List.foldl_cons] at this ⊢
    rw [this, rs_fl hk]
/-- what the words' lemmas want of rests -/
def RV (u : Int) (n : Nat) (r : List Int) : Prop := r.length = n ∧ RR u r
theorem rv_keeps {w : List Int} {m u : Int} {n : Nat} (hu : 0 < u) : ∀ (r : List Int) (k : Nat), RV u n r → k < n → RV u n (rfI w m u r k) :=
  fun r k h hk => ⟨by rw [rfI_length (by rw [h.1]; exact hk)]; exact h.1, rfI_rr hu h.2⟩
theorem rv_back {w : List Int} {m u : Int} {n : Nat} : ∀ (r : List Int) (k : Nat), RV u n r → k < n → rfI w m u (rfI w m u r k) k = r :=
  fun r k h hk => rf_rf h.2 (by rw [h.1]; exact hk)
theorem rw_cut {w : List Int} {m u : Int} {r : List Int} {v : List Nat} (hu : 0 < u) (h : RR u r) (hv : ∀ k ∈ v, k < r.length) : rwI w m u r (cutL v) = rwI w m u r v :=
  cutL_same (V := RV u r.length) (K := fun k => k < r.length) (rv_keeps hu) rv_back ⟨rfl, h⟩ hv
theorem rw_back {w : List Int} {m u : Int} {r : List Int} {v : List Nat} (hu : 0 < u) (h : RR u r) (hv : ∀ k ∈ v, k < r.length) : rwI w m u (rwI w m u r v) v.reverse = r :=
  back_same (V := RV u r.length) (K := fun k => k < r.length) (rv_keeps hu) rv_back v r ⟨rfl, h⟩ hv
theorem rw_rv {w : List Int} {m u : Int} {n : Nat} {r : List Int} {v : List Nat} (hu : 0 < u) (h : RV u n r) (hv : ∀ k ∈ v, k < n) : RV u n (rwI w m u r v) :=
  foldl_keeps (V := RV u n) (K := fun k => k < n) (rv_keeps hu) v r h hv
theorem rw_append {w : List Int} {m u : Int} {r : List Int} {v v' : List Nat} : rwI w m u r (v ++ v') = rwI w m u (rwI w m u r v) v' := by simp [rwI, List.foldl_append]
/-- a word is one-to-one -/
theorem rw_inj {w : List Int} {m u : Int} {n : Nat} {r r' : List Int} {v : List Nat} (hu : 0 < u) (h : RV u n r) (h' : RV u n r') (hv : ∀ k ∈ v, k < n) (e : rwI w m u r v = rwI w m u r' v) : r = r' := by
  have a := rw_back (w := w) (m := m) hu h.2 (v := v) (by rw [h.1]; exact hv)
  have b := rw_back (w := w) (m := m) hu h'.2 (v := v) (by rw [h'.1]; exact hv)
  rw [← a, ← b, e]
theorem rw_other {w : List Int} {m u : Int} : ∀ (v : List Nat) (r : List Int) (q : Nat), (∀ k ∈ v, k < r.length) → q ∉ v → (rwI w m u r v).getD q 0 = r.getD q 0
  | [], r, q, _, _ => rfl
  | k :: v, r, q, h, hq => by
    have hk := h k (by simp)
    have h1 := rw_other (w := w) (m := m) (u := u) v (rfI w m u r k) q (fun j hj => by rw [rfI_length hk]; exact h j (by simp [hj])) (fun hj => hq (by simp [hj]))
    simp only [rwI, List.foldl_cons] at h1 ⊢
    rw [h1]
    have hqk : q ≠ k := fun e => hq (by simp [e])
    obtain ⟨l1, x, l2, rfl, rfl, -⟩ := cut_at hk
    rw [rf_at]
    rcases Nat.lt_or_ge q l1.length with hl | hl
    · simp [List.getD_eq_getElem?_getD, List.getElem?_append_left hl]
    · simp only [List.getD_eq_getElem?_getD, List.getElem?_append_right hl]
      rw [show q - l1.length = (q - l1.length - 1) + 1 by omega]
      simp
end Ev

/-! Kx3, 3: two places by turns, modulo. -/
namespace Ev
structure M2 where
  a : Int
  b : Int
  c : Int
  d : Int
def M2.mul (x y : M2) : M2 := ⟨x.a * y.a + x.b * y.c, x.a * y.b + x.b * y.d, x.c * y.a + x.d * y.c, x.c * y.b + x.d * y.d⟩
def M2.red (u : Int) (x : M2) : M2 := ⟨x.a % u, x.b % u, x.c % u, x.d % u⟩
def M2.one : M2 := ⟨1, 0, 0, 1⟩
def M2.pw (x : M2) : Nat → M2
  | 0 => .one
  | n + 1 => (x.pw n).mul x
theorem M2.mul_assoc (x y z : M2) : (x.mul y).mul z = x.mul (y.mul z) := by
  simp only [M2.mul, M2.mk.injEq]
  refine ⟨?_, ?_, ?_, ?_⟩ <;> grind
theorem M2.one_mul (x : M2) : M2.one.mul x = x := by
  cases x; simp [M2.mul, M2.one]
theorem M2.mul_one (x : M2) : x.mul M2.one = x := by
  cases x; simp [M2.mul, M2.one]
theorem M2.pw_add (x : M2) (n : Nat) : ∀ k, x.pw (n + k) = (x.pw n).mul (x.pw k)
  | 0 => (M2.mul_one _).symm
  | k + 1 => by
    show (x.pw (n + k)).mul x = _
    rw [M2.pw_add x n k, M2.mul_assoc]; rfl
theorem lin_mod (u a b x y : Int) : (a % u * (x % u) + b % u * (y % u)) % u = (a * x + b * y) % u := by
  rw [Int.add_emod, ← Int.mul_emod, ← Int.mul_emod, ← Int.add_emod]
theorem M2.red_mul (u : Int) (x y : M2) : ((x.red u).mul (y.red u)).red u = (x.mul y).red u := by
  simp only [M2.mul, M2.red, lin_mod]
theorem M2.red_red (u : Int) (x : M2) : (x.red u).red u = x.red u := by
  simp [M2.red, Int.emod_emod_of_dvd]
/-- one double flip -/
def pst (u : Int) (x : M2) (p : Int × Int) : Int × Int := ((x.a * p.1 + x.b * p.2) % u, (x.c * p.1 + x.d * p.2) % u)
theorem lin_mod2 (u a b x y : Int) : (a * (x % u) + b * (y % u)) % u = (a * x + b * y) % u := by
  rw [Int.add_emod, Int.mul_emod, Int.emod_emod_of_dvd _ (Int.dvd_refl u), Int.mul_emod b, Int.emod_emod_of_dvd _ (Int.dvd_refl u), ← Int.mul_emod, ← Int.mul_emod, ← Int.add_emod]
theorem lin_mod3 (u a b x y : Int) : (a % u * x + b % u * y) % u = (a * x + b * y) % u := by
  rw [Int.add_emod, Int.mul_emod, Int.emod_emod_of_dvd _ (Int.dvd_refl u), Int.mul_emod (b % u), Int.emod_emod_of_dvd _ (Int.dvd_refl u), ← Int.mul_emod, ← Int.mul_emod, ← Int.add_emod]
theorem pst_mul (u : Int) (x y : M2) (p : Int × Int) : pst u x (pst u y p) = pst u (x.mul y) p := by
  simp only [pst, lin_mod2, M2.mul, Prod.mk.injEq]
  constructor <;> congr 1 <;> grind
theorem pst_red (u : Int) (x : M2) (p : Int × Int) : pst u (x.red u) p = pst u x p := by
  simp only [pst, M2.red, lin_mod3]
theorem pst_one (u : Int) (p : Int × Int) : pst u .one p = (p.1 % u, p.2 % u) := by simp [pst, M2.one]
theorem pst_mod (u : Int) (x : M2) (p q : Int) : pst u x (p % u, q % u) = pst u x (p, q) := by simp only [pst, lin_mod2]
theorem iter_pst (u : Int) (x : M2) (p q : Int) : ∀ t, iter (pst u x) t (p % u, q % u) = pst u (x.pw t) (p, q)
  | 0 => (pst_one u (p, q)).symm
  | t + 1 => by
    show pst u x (iter (pst u x) t (p % u, q % u)) = _
    rw [iter_pst u x p q t, pst_mul]
    have : ∀ t, x.mul (x.pw t) = (x.pw t).mul x := by
      intro t
      induction t with
      | zero => show x.mul .one = M2.one.mul x; rw [M2.mul_one, M2.one_mul]
      | succ t ih =>
        show x.mul ((x.pw t).mul x) = ((x.pw t).mul x).mul x
        rw [← M2.mul_assoc, ih]
    rw [this]; rfl
def tabM (near far : Int) : M2 := ⟨-1, near, -far, near * far - 1⟩
/-! ### on rows of rests -/
theorem erase_perm_oth {r : List Int} {i j : Nat} (hij : i ≠ j) (hi : i < r.length) (hj : j < r.length) : prodI (r.take i ++ r.drop (i + 1)) = r.getD j 0 * prodI (othI r i j) := by
  have h1 := oth_perm hij hi hj
  have h2 := erase_at hi
  rw [List.eraseIdx_eq_take_drop_succ] at h2
  have e : r.getD i 0 = r[i] := by simp [hi]
  rw [e] at h1
  have h3 := (h1.trans h2.symm).cons_inv
  rw [← prodI_cons]
  exact (prodI_perm h3).symm
theorem oth_congr {r r' : List Int} {i j : Nat} (hl : r.length = r'.length) (h : ∀ q, q ≠ i → q ≠ j → r.getD q 0 = r'.getD q 0) : othI r i j = othI r' i j := by
  unfold othI
  rw [hl]
  apply List.map_congr_left
  intro q hq
  have := (List.mem_filter.mp hq).2
  simp at this
  exact h q this.1 this.2
theorem oth_comm (l : List Int) (i j : Nat) : othI l j i = othI l i j := by
  unfold othI
  congr 1
  apply List.filter_congr
  intro k _
  rw [Bool.or_comm]
theorem rf_other {w : List Int} {m u : Int} {r : List Int} {k q : Nat} (hk : k < r.length) (hq : q ≠ k) : (rfI w m u r k).getD q 0 = r.getD q 0 :=
  rw_other (w := w) (m := m) (u := u) [k] r q (by simpa using hk) (by simpa using hq)
theorem rf_here {w : List Int} {m u : Int} {r : List Int} {i j : Nat} (hij : i ≠ j) (hi : i < r.length) (hj : j < r.length) : (rfI w m u r i).getD i 0 = (m / w.getD i 1 * prodI (othI r i j) * r.getD j 0 - r.getD i 0) % u := by
  have h1 := erase_perm_oth hij hi hj
  unfold rfI flG
  rw [h1]
  rw [List.append_assoc, List.getD_eq_getElem?_getD, List.getElem?_append_right (by simp; omega)]
  simp [Nat.min_eq_left (Nat.le_of_lt hi)]
  congr 2
  grind
theorem rw_two {w : List Int} {m u : Int} {n : Nat} {r : List Int} {i j : Nat} {a b : Int} (hu : 0 < u) (h : RV u n r) (hij : i ≠ j) (hi : i < n) (hj : j < n)
    (ha : a % u = (m / w.getD i 1 * prodI (othI r i j)) % u) (hb : b % u = (m / w.getD j 1 * prodI (othI r i j)) % u) :
    ((rwI w m u r [i, j]).getD i 0, (rwI w m u r [i, j]).getD j 0) = pst u (tabM a b) (r.getD i 0, r.getD j 0) ∧ othI (rwI w m u r [i, j]) i j = othI r i j ∧ ∀ q, q ≠ i → q ≠ j → (rwI w m u r [i, j]).getD q 0 = r.getD q 0 := by
  have hi' : i < r.length := by rw [h.1]; exact hi
  have hj' : j < r.length := by rw [h.1]; exact hj
  have oth : ∀ q, q ≠ i → q ≠ j → (rwI w m u r [i, j]).getD q 0 = r.getD q 0 := fun q h1 h2 => rw_other [i, j] r q (by simp [hi', hj']) (by simp [h1, h2])
  have hl : (rfI w m u r i).length = r.length := rfI_length hi'
  have hl2 : (rwI w m u r [i, j]).length = r.length := by
    show (rfI w m u (rfI w m u r i) j).length = _
    rw [rfI_length (by rw [hl]; exact hj'), hl]
  refine ⟨?_, oth_congr hl2 oth, oth⟩
  have e1 : (rwI w m u r [i, j]).getD i 0 = (rfI w m u r i).getD i 0 := rf_other (by rw [hl]; exact hj') hij
  have e2 : othI (rfI w m u r i) j i = othI r i j := by
    rw [oth_comm]
    exact oth_congr hl fun q h1 _ => rf_other hi' h1
  have e3 : (rwI w m u r [i, j]).getD j 0 = (m / w.getD j 1 * prodI (othI r i j) * (rfI w m u r i).getD i 0 - r.getD j 0) % u := by
    have := rf_here (w := w) (m := m) (u := u) (r := rfI w m u r i) (i := j) (j := i) (Ne.symm hij) (by rw [hl]; exact hj') (by rw [hl]; exact hi')
    rw [e2, rf_other hi' (Ne.symm hij)] at this
    exact this
  have e4 := rf_here (w := w) (m := m) (u := u) hij hi' hj'
  rw [e1, e3, e4]
  generalize m / w.getD i 1 * prodI (othI r i j) = A at *
  generalize m / w.getD j 1 * prodI (othI r i j) = B at *
  generalize r.getD i 0 = x
  generalize r.getD j 0 = y
  have f1 : (A * y - x) % u = (a * y - x) % u := by
    rw [Int.sub_emod, Int.mul_emod, ← ha, ← Int.mul_emod, ← Int.sub_emod]
  simp only [pst, tabM, Prod.mk.injEq]
  rw [f1]
  refine ⟨by congr 1; omega, ?_⟩
  have f2 : (B * ((a * y - x) % u) - y) % u = (b * (a * y - x) - y) % u := by
    rw [Int.sub_emod, Int.mul_emod, ← hb, Int.emod_emod_of_dvd _ (Int.dvd_refl u), ← Int.mul_emod, ← Int.sub_emod]
  rw [f2]
  congr 1
  grind
/-- the word of two places, so many times -/
theorem iter_rw {w : List Int} {m u : Int} {r : List Int} {v : List Nat} : ∀ t, iter (fun r => rwI w m u r v) t r = rwI w m u r (List.replicate t v).flatten
  | 0 => rfl
  | t + 1 => by
    show rwI w m u (iter (fun r => rwI w m u r v) t r) v = _
    rw [iter_rw t, ← rw_append]
    congr 1
    rw [List.replicate_succ', List.flatten_append]
    simp
theorem iter_rv {w : List Int} {m u : Int} {n : Nat} {r : List Int} {v : List Nat} (hu : 0 < u) (h : RV u n r) (hv : ∀ k ∈ v, k < n) : ∀ t, RV u n (iter (fun r => rwI w m u r v) t r)
  | 0 => h
  | t + 1 => rw_rv hu (iter_rv hu h hv t) hv
theorem iter_two {w : List Int} {m u : Int} {n : Nat} {r : List Int} {i j : Nat} {a b : Int} (hu : 0 < u) (h : RV u n r) (hij : i ≠ j) (hi : i < n) (hj : j < n)
    (ha : a % u = (m / w.getD i 1 * prodI (othI r i j)) % u) (hb : b % u = (m / w.getD j 1 * prodI (othI r i j)) % u) :
    ∀ t, ((iter (fun r => rwI w m u r [i, j]) t r).getD i 0, (iter (fun r => rwI w m u r [i, j]) t r).getD j 0) = iter (pst u (tabM a b)) t (r.getD i 0, r.getD j 0) ∧ othI (iter (fun r => rwI w m u r [i, j]) t r) i j = othI r i j ∧
      ∀ q, q ≠ i → q ≠ j → (iter (fun r => rwI w m u r [i, j]) t r).getD q 0 = r.getD q 0
  | 0 => ⟨rfl, rfl, fun _ _ _ => rfl⟩
  | t + 1 => by
    obtain ⟨e1, e2, e3⟩ := iter_two hu h hij hi hj ha hb t
    have R := iter_rv (w := w) (m := m) hu h (v := [i, j]) (by simp [hi, hj]) t
    obtain ⟨f1, f2, f3⟩ := rw_two (w := w) (m := m) (a := a) (b := b) hu R hij hi hj (by rw [e2]; exact ha) (by rw [e2]; exact hb)
    exact ⟨f1.trans (by rw [e1]; rfl), f2.trans e2, fun q h1 h2 => (f3 q h1 h2).trans (e3 q h1 h2)⟩
theorem two_back {w : List Int} {m u : Int} {n : Nat} {r : List Int} {i j : Nat} {a b : Int} (hu : 0 < u) (h : RV u n r) (hij : i ≠ j) (hi : i < n) (hj : j < n)
    (ha : a % u = (m / w.getD i 1 * prodI (othI r i j)) % u) (hb : b % u = (m / w.getD j 1 * prodI (othI r i j)) % u) (t : Nat) :
    iter (fun r => rwI w m u r [i, j]) t r = r ↔ iter (pst u (tabM a b)) t (r.getD i 0, r.getD j 0) = (r.getD i 0, r.getD j 0) := by
  obtain ⟨e1, e2, e3⟩ := iter_two hu h hij hi hj ha hb t
  have R := iter_rv (w := w) (m := m) hu h (v := [i, j]) (by simp [hi, hj]) t
  rw [← e1]
  constructor
  · intro e; rw [e]
  · intro e
    simp only [Prod.mk.injEq] at e
    apply List.ext_getElem
    · rw [R.1, h.1]
    · intro q h1 h2
      have h3 : (iter (fun r => rwI w m u r [i, j]) t r).getD q 0 = r.getD q 0 := by
        by_cases c1 : q = i
        · rw [c1]; exact e.1
        · by_cases c2 : q = j
          · rw [c2]; exact e.2
          · exact e3 q c1 c2
      simp only [List.getD_eq_getElem?_getD, List.getElem?_eq_getElem h1, List.getElem?_eq_getElem h2, Option.getD_some] at h3
      exact h3
theorem least_two {w : List Int} {m u : Int} {n : Nat} {r : List Int} {i j : Nat} {a b : Int} (hu : 0 < u) (h : RV u n r) (hij : i ≠ j) (hi : i < n) (hj : j < n)
    (ha : a % u = (m / w.getD i 1 * prodI (othI r i j)) % u) (hb : b % u = (m / w.getD j 1 * prodI (othI r i j)) % u) (T : Nat) :
    Least (fun r => rwI w m u r [i, j]) r T ↔ Least (pst u (tabM a b)) (r.getD i 0, r.getD j 0) T := by
  have k := two_back (w := w) (m := m) hu h hij hi hj ha hb
  unfold Least
  rw [k]
  simp only [Ne, k]
end Ev

/-! Kx3, 4: a word of at most three places comes round in at most 20000 laps. -/
namespace Ev
theorem radix {a a' b c c' : Nat} (h : c < b) (h' : c' < b) (e : a * b + c = a' * b + c') : a = a' ∧ c = c' := by
  have h1 : (a * b + c) / b = a := by rw [Nat.add_comm, Nat.add_mul_div_right _ _ (by omega), Nat.div_eq_of_lt h]; omega
  have h2 : (a' * b + c') / b = a' := by rw [Nat.add_comm, Nat.add_mul_div_right _ _ (by omega), Nat.div_eq_of_lt h']; omega
  have h3 : a = a' := by rw [← h1, ← h2, e]
  subst h3
  exact ⟨rfl, by omega⟩
theorem radix_lt {a b c n : Nat} (h : c < b) (ha : a < n) : a * b + c < n * b := by
  have : (a + 1) * b ≤ n * b := Nat.mul_le_mul_right b ha
  rw [Nat.add_mul, Nat.one_mul] at this
  omega
/-- rows that differ at no place of the word -/
theorem ext_word {u : Int} {n : Nat} {r r' : List Int} (h : RV u n r) (h' : RV u n r') (e : ∀ q, r.getD q 0 = r'.getD q 0) : r = r' := by
  apply List.ext_getElem
  · rw [h.1, h'.1]
  · intro q h1 h2
    have := e q
    simpa [List.getD_eq_getElem?_getD, List.getElem?_eq_getElem h1, List.getElem?_eq_getElem h2] using this
section
variable {w : List Int} {m u : Int} {n : Nat} {r : List Int} {v : List Nat}
theorem iter_other (hu : 0 < u) (h : RV u n r) (hv : ∀ k ∈ v, k < n) {q : Nat} (hq : q ∉ v) : ∀ t, (iter (fun r => rwI w m u r v) t r).getD q 0 = r.getD q 0
  | 0 => rfl
  | t + 1 => by
    have R := iter_rv (w := w) (m := m) hu h hv t
    show (rwI w m u (iter (fun r => rwI w m u r v) t r) v).getD q 0 = _
    rw [rw_other v _ q (by rw [R.1]; exact hv) hq, iter_other hu h hv hq t]
theorem round_of (hu : 0 < u) (h : RV u n r) (hv : ∀ k ∈ v, k < n) {c : List Int → Nat} {N : Nat} (hc : ∀ t, c (iter (fun r => rwI w m u r v) t r) < N)
    (hi : ∀ s t, c (iter (fun r => rwI w m u r v) s r) = c (iter (fun r => rwI w m u r v) t r) → ∀ q ∈ v, (iter (fun r => rwI w m u r v) s r).getD q 0 = (iter (fun r => rwI w m u r v) t r).getD q 0) :
    ∃ T, 1 ≤ T ∧ T ≤ N ∧ iter (fun r => rwI w m u r v) T r = r := by
  refine comes_round hc (fun s t e => ?_) (fun s t e => ?_)
  · refine ext_word (iter_rv hu h hv s) (iter_rv hu h hv t) fun q => ?_
    by_cases hq : q ∈ v
    · exact hi s t e q hq
    · rw [iter_other hu h hv hq, iter_other hu h hv hq]
  · exact rw_inj hu (iter_rv hu h hv s) (iter_rv hu h hv t) hv e
theorem rv_get (hu : 0 < u) (h : RV u n r) (q : Nat) : 0 ≤ r.getD q 0 ∧ r.getD q 0 < u := by
  by_cases hq : q < r.length
  · simp [hq]; exact h.2 _ (List.getElem_mem hq)
  · simp [List.getD_eq_getElem?_getD, List.getElem?_eq_none (Nat.le_of_not_lt hq)]; exact hu
/-- two places -/
theorem round_two (hu : 0 < u) (h : RV u n r) (hv : ∀ k ∈ v, k < n) {i j : Nat} (hp : ∀ k ∈ v, k = i ∨ k = j) : ∃ T, 1 ≤ T ∧ T ≤ u.toNat * u.toNat ∧ iter (fun r => rwI w m u r v) T r = r := by
  refine round_of hu h hv (c := fun r => (r.getD i 0).toNat * u.toNat + (r.getD j 0).toNat) (fun t => ?_) (fun s t e q hq => ?_)
  · have R := iter_rv (w := w) (m := m) hu h hv t
    have h1 := rv_get hu R i
    have h2 := rv_get hu R j
    exact radix_lt (by omega) (by omega)
  · have R := iter_rv (w := w) (m := m) hu h hv s
    have R' := iter_rv (w := w) (m := m) hu h hv t
    have h1 := rv_get hu R i
    have h2 := rv_get hu R j
    have h3 := rv_get hu R' i
    have h4 := rv_get hu R' j
    obtain ⟨e1, e2⟩ := radix (by omega) (by omega) e
    rcases hp q hq with rfl | rfl <;> omega
/-- three places -/
theorem round_three (hu : 0 < u) (h : RV u n r) (hv : ∀ k ∈ v, k < n) {i j k : Nat} (hp : ∀ x ∈ v, x = i ∨ x = j ∨ x = k) : ∃ T, 1 ≤ T ∧ T ≤ u.toNat * u.toNat * u.toNat ∧ iter (fun r => rwI w m u r v) T r = r := by
  refine round_of hu h hv (c := fun r => ((r.getD i 0).toNat * u.toNat + (r.getD j 0).toNat) * u.toNat + (r.getD k 0).toNat) (fun t => ?_) (fun s t e q hq => ?_)
  · have R := iter_rv (w := w) (m := m) hu h hv t
    have h1 := rv_get hu R i
    have h2 := rv_get hu R j
    have h3 := rv_get hu R k
    exact radix_lt (by omega) (radix_lt (by omega) (by omega))
  · have R := iter_rv (w := w) (m := m) hu h hv s
    have R' := iter_rv (w := w) (m := m) hu h hv t
    have h1 := rv_get hu R i
    have h2 := rv_get hu R j
    have h3 := rv_get hu R' i
    have h4 := rv_get hu R' j
    have h5 := rv_get hu R k
    have h6 := rv_get hu R' k
    obtain ⟨e1, e2⟩ := radix (by omega) (by omega) e
    obtain ⟨e3, e4⟩ := radix (by omega) (by omega) e1
    rcases hp q hq with rfl | rfl | rfl <;> omega
end
/-! ### an equation modulo a prime: at most two answers -/
/-- what is wanted of a prime -/
def Prm (p : Int) : Prop := 0 < p ∧ ∀ d e : Int, 0 < d → d < p → p ∣ d * e → p ∣ e
theorem prm_of {p : Nat} (h0 : 0 < p) (h : ∀ d, d < p → 0 < d → Nat.gcd p d = 1) : Prm p := by
  refine ⟨by omega, fun d e h1 h2 hd => ?_⟩
  have h3 : p ∣ d.natAbs * e.natAbs := by
    rw [← Int.natAbs_mul]
    exact Int.natAbs_dvd_natAbs.mpr hd |> fun x => by simpa using x
  have h4 : Nat.Coprime p d.natAbs := h d.natAbs (by omega) (by omega)
  have h5 : p ∣ e.natAbs := h4.dvd_of_dvd_mul_left h3
  exact Int.natAbs_dvd_natAbs.mp (by simpa using h5)
theorem prm5 : Prm 5 := prm_of (p := 5) (by decide) (by decide)
theorem prm7 : Prm 7 := prm_of (p := 7) (by decide) (by decide)
theorem prm29 : Prm 29 := prm_of (p := 29) (by decide) (by decide)
theorem quad3 {p A B x y z : Int} (hp : Prm p) (hA : ¬ p ∣ A) (h0 : x < y) (h1 : y < z) (h2 : 0 ≤ x) (h3 : z < p)
    (e1 : p ∣ (A * y * y - B * y) - (A * x * x - B * x)) (e2 : p ∣ (A * z * z - B * z) - (A * x * x - B * x)) : False := by
  have a1 : p ∣ A * (y + x) - B := hp.2 (y - x) _ (by omega) (by omega) (by
    have : (y - x) * (A * (y + x) - B) = (A * y * y - B * y) - (A * x * x - B * x) := by grind
    rw [this]; exact e1)
  have a2 : p ∣ A * (z + x) - B := hp.2 (z - x) _ (by omega) (by omega) (by
    have : (z - x) * (A * (z + x) - B) = (A * z * z - B * z) - (A * x * x - B * x) := by grind
    rw [this]; exact e2)
  have a3 : p ∣ (z - y) * A := by
    have := Int.dvd_sub a2 a1
    have e : (A * (z + x) - B) - (A * (y + x) - B) = (z - y) * A := by grind
    rw [e] at this; exact this
  exact hA (hp.2 (z - y) A (by omega) (by omega) a3)
/-- the others' product -/
def rstP (r : List Int) (q : Nat) : Int := prodI (r.take q ++ r.drop (q + 1))
theorem prod_rst {r : List Int} {q : Nat} (h : q < r.length) : prodI r = r.getD q 0 * rstP r q := by
  have := prodI_perm (erase_at h)
  rw [prodI_cons, List.eraseIdx_eq_take_drop_succ] at this
  unfold rstP
  simp [h]; exact this.symm
theorem rst_congr {r r' : List Int} {q : Nat} (hl : r.length = r'.length) (h : ∀ x, x ≠ q → r.getD x 0 = r'.getD x 0) : rstP r q = rstP r' q := by
  unfold rstP
  congr 1
  congr 1
  · apply List.ext_getElem?
    intro k
    rw [List.getElem?_take, List.getElem?_take]
    by_cases hk : k < q
    · rw [if_pos hk, if_pos hk]
      have := h k (by omega)
      by_cases h1 : k < r.length
      · have h2 : k < r'.length := by omega
        simpa [List.getD_eq_getElem?_getD, List.getElem?_eq_getElem h1, List.getElem?_eq_getElem h2] using this
      · rw [List.getElem?_eq_none (by omega), List.getElem?_eq_none (by omega)]
    · rw [if_neg hk, if_neg hk]
  · apply List.ext_getElem?
    intro k
    rw [List.getElem?_drop, List.getElem?_drop]
    have := h (q + 1 + k) (by omega)
    by_cases h1 : q + 1 + k < r.length
    · have h2 : q + 1 + k < r'.length := by omega
      simpa [List.getD_eq_getElem?_getD, List.getElem?_eq_getElem h1, List.getElem?_eq_getElem h2] using this
    · rw [List.getElem?_eq_none (by omega), List.getElem?_eq_none (by omega)]
def jI (a b c M : Int) (q s t : Nat) (r : List Int) : Int := a * r.getD q 0 * r.getD q 0 + b * r.getD s 0 * r.getD s 0 + c * r.getD t 0 * r.getD t 0 - M * prodI r
/-- one flip keeps it, modulo -/
theorem jI_step {u e x x' cq M E R : Int} (hx : x' = (e * E - x) % u) (hM : cq * e = M) : u ∣ (cq * x' * x' + R - M * (x' * E)) - (cq * x * x + R - M * (x * E)) := by
  have h1 := Int.mul_ediv_add_emod (e * E - x) u
  rw [← hx] at h1
  generalize (e * E - x) / u = z at h1
  refine ⟨-((x' - x) * cq * z), ?_⟩
  have h2 : x' = e * E - x - u * z := by omega
  subst hM
  have h3 : cq * (x' + x) - cq * e * E = -(cq * u * z) := by rw [h2]; grind
  have h4 : (cq * x' * x' + R - cq * e * (x' * E)) - (cq * x * x + R - cq * e * (x * E)) = (x' - x) * (cq * (x' + x) - cq * e * E) := by grind
  rw [h4, h3]; grind
theorem rf_self {w : List Int} {m u : Int} {r : List Int} {k : Nat} (hk : k < r.length) : (rfI w m u r k).getD k 0 = (m / w.getD k 1 * rstP r k - r.getD k 0) % u := by
  unfold rfI flG rstP
  rw [List.append_assoc, List.getD_eq_getElem?_getD, List.getElem?_append_right (by simp; omega)]
  simp [Nat.min_eq_left (Nat.le_of_lt hk)]
theorem jI_flip {w : List Int} {m u : Int} {n : Nat} {r : List Int} {a b c M : Int} {q s t x : Nat} (hu : 0 < u) (h : RV u n r) (hqs : q ≠ s) (hqt : q ≠ t) (hst : s ≠ t) (hx : x < n)
    (ha : x = q → a * (m / w.getD q 1) = M) (hb : x = s → b * (m / w.getD s 1) = M) (hc : x = t → c * (m / w.getD t 1) = M) (hxx : x = q ∨ x = s ∨ x = t) :
    u ∣ jI a b c M q s t (rfI w m u r x) - jI a b c M q s t r := by
  have hxr : x < r.length := by rw [h.1]; exact hx
  have hl := rfI_length (w := w) (m := m) (u := u) hxr
  have ho : ∀ y, y ≠ x → (rfI w m u r x).getD y 0 = r.getD y 0 := fun y hy => rf_other hxr hy
  have hp1 := prod_rst hxr
  have hp2 := prod_rst (r := rfI w m u r x) (q := x) (by rw [hl]; exact hxr)
  rw [rst_congr hl ho] at hp2
  have hs := rf_self (w := w) (m := m) (u := u) hxr
  unfold jI
  rw [hp1, hp2]
  rcases hxx with rfl | rfl | rfl
  · rw [ho s (Ne.symm hqs), ho t (Ne.symm hqt)]
    have := jI_step (R := b * r.getD s 0 * r.getD s 0 + c * r.getD t 0 * r.getD t 0) hs (ha rfl)
    have e : ∀ z y k : Int, z + y + k = z + (y + k) := fun z y k => by omega
    rw [e, e]; exact this
  · rw [ho q hqs, ho t (Ne.symm hst)]
    have := jI_step (R := a * r.getD q 0 * r.getD q 0 + c * r.getD t 0 * r.getD t 0) hs (hb rfl)
    have e : ∀ z y k : Int, z + y + k = y + (z + k) := fun z y k => by omega
    rw [e, e]; exact this
  · rw [ho q hqt, ho s hst]
    have := jI_step (R := a * r.getD q 0 * r.getD q 0 + b * r.getD s 0 * r.getD s 0) hs (hc rfl)
    have e : ∀ z y k : Int, z + y + k = k + (z + y) := fun z y k => by omega
    rw [e, e]; exact this
end Ev

namespace Ev
section
variable {w : List Int} {m u : Int} {n : Nat} {r : List Int} {v : List Nat} {a b c M p : Int} {q s t : Nat}
theorem jI_word (hu : 0 < u) (hqs : q ≠ s) (hqt : q ≠ t) (hst : s ≠ t) (ha : a * (m / w.getD q 1) = M) (hb : b * (m / w.getD s 1) = M) (hc : c * (m / w.getD t 1) = M) :
    ∀ (v : List Nat) (r : List Int), RV u n r → (∀ x ∈ v, x < n ∧ (x = q ∨ x = s ∨ x = t)) → u ∣ jI a b c M q s t (rwI w m u r v) - jI a b c M q s t r
  | [], r, _, _ => by simp [rwI]
  | x :: v, r, h, hv => by
    obtain ⟨h1, h2⟩ := hv x (by simp)
    have d1 := jI_flip (w := w) (m := m) (a := a) (b := b) (c := c) (M := M) hu h hqs hqt hst h1 (fun _ => ha) (fun _ => hb) (fun _ => hc) h2
    have d2 := jI_word hu hqs hqt hst ha hb hc v (rfI w m u r x) (rv_keeps hu r x h h1) fun y hy => hv y (by simp [hy])
    have := Int.dvd_add d2 d1
    have e : ∀ x y z : Int, x - y + (y - z) = x - z := fun x y z => by omega
    rw [e] at this
    exact this
theorem jI_iter (hu : 0 < u) (hqs : q ≠ s) (hqt : q ≠ t) (hst : s ≠ t) (ha : a * (m / w.getD q 1) = M) (hb : b * (m / w.getD s 1) = M) (hc : c * (m / w.getD t 1) = M) (h : RV u n r)
    (hv : ∀ x ∈ v, x < n ∧ (x = q ∨ x = s ∨ x = t)) : ∀ l, u ∣ jI a b c M q s t (iter (fun r => rwI w m u r v) l r) - jI a b c M q s t r
  | 0 => by simp [iter]
  | l + 1 => by
    have R := iter_rv (w := w) (m := m) hu h (fun x hx => (hv x hx).1) l
    have d1 := jI_iter hu hqs hqt hst ha hb hc h hv l
    have d2 := jI_word (w := w) hu hqs hqt hst ha hb hc v _ R hv
    have := Int.dvd_add d2 d1
    have e : ∀ x y z : Int, x - y + (y - z) = x - z := fun x y z => by omega
    rw [e] at this
    exact this
/-- whether a lesser rest answers alike -/
def lessB (a B p x : Int) : Nat := if (List.range p.toNat).any (fun y => decide ((y : Int) < x) && decide (((a * x * x - B * x) - (a * y * y - B * y)) % p = 0)) then 1 else 0
theorem lessB_lt : lessB a b p c < 2 := by unfold lessB; split <;> omega
theorem lessB_one {B x : Int} : lessB a B p x = 1 ↔ ∃ y : Int, 0 ≤ y ∧ y < p ∧ y < x ∧ p ∣ (a * x * x - B * x) - (a * y * y - B * y) := by
  unfold lessB
  constructor
  · intro h
    split at h
    · rename_i h1
      rw [List.any_eq_true] at h1
      obtain ⟨y, hy, h2⟩ := h1
      simp at hy h2
      exact ⟨y, by omega, by omega, h2.1, Int.dvd_of_emod_eq_zero h2.2⟩
    · omega
  · rintro ⟨y, h0, h1, h2, h3⟩
    rw [if_pos]
    rw [List.any_eq_true]
    refine ⟨y.toNat, by simp; omega, ?_⟩
    have e : ((y.toNat : Nat) : Int) = y := Int.toNat_of_nonneg h0
    rw [e]
    simp
    exact ⟨h2, Int.emod_eq_zero_of_dvd h3⟩
theorem quad_mod {A B x : Int} (p : Int) : p ∣ (A * x * x - B * x) - (A * (x % p) * (x % p) - B * (x % p)) := by
  have h := Int.mul_ediv_add_emod x p
  generalize x / p = z at h
  generalize x % p = y at *
  refine ⟨A * z * (x + y) - B * z, ?_⟩
  have : x - y = p * z := by omega
  have e : (A * x * x - B * x) - (A * y * y - B * y) = (x - y) * (A * (x + y) - B) := by grind
  rw [e, this]; grind
theorem round_eq (hu : 0 < u) (h : RV u n r) (hp : Prm p) (hpu : p ∣ u) (hA : ¬ p ∣ a) (hq : q < n) (hqs : q ≠ s) (hqt : q ≠ t) (hst : s ≠ t) (ha : a * (m / w.getD q 1) = M) (hb : b * (m / w.getD s 1) = M) (hc : c * (m / w.getD t 1) = M)
    (hv : ∀ x ∈ v, x < n ∧ (x = q ∨ x = s ∨ x = t)) : ∃ T, 1 ≤ T ∧ T ≤ u.toNat * u.toNat * (u / p).toNat * 2 ∧ iter (fun r => rwI w m u r v) T r = r := by
  have hp0 := hp.1
  have hup : 0 < u / p := by
    obtain ⟨z, rfl⟩ := hpu
    rw [Int.mul_ediv_cancel_left _ (by omega)]
    exact Int.pos_of_mul_pos_right hu (by omega) |> fun x => x
  have hv' : ∀ x ∈ v, x < n := fun x hx => (hv x hx).1
  have up : ∀ {z : Int}, 0 ≤ z → z < u → 0 ≤ z / p ∧ z / p < u / p := by
    intro z h1 h2
    refine ⟨Int.ediv_nonneg h1 (by omega), ?_⟩
    obtain ⟨k, rfl⟩ := hpu
    rw [Int.mul_ediv_cancel_left _ (by omega)]
    exact Int.ediv_lt_of_lt_mul hp0 (by rw [Int.mul_comm]; exact h2)
  refine round_of hu h hv' (c := fun R => (((R.getD s 0).toNat * u.toNat + (R.getD t 0).toNat) * (u / p).toNat + (R.getD q 0 / p).toNat) * 2 + lessB a (M * rstP R q) p (R.getD q 0 % p)) (fun l => ?_) (fun l l' e => ?_)
  · have R := iter_rv (w := w) (m := m) hu h hv' l
    have h1 := rv_get hu R s
    have h2 := rv_get hu R t
    have h3 := rv_get hu R q
    have h4 := up h3.1 h3.2
    exact radix_lt lessB_lt (radix_lt (by omega) (radix_lt (by omega) (by omega)))
  · have R := iter_rv (w := w) (m := m) hu h hv' l
    have R' := iter_rv (w := w) (m := m) hu h hv' l'
    have j1 := jI_iter hu hqs hqt hst ha hb hc h hv l
    have j2 := jI_iter hu hqs hqt hst ha hb hc h hv l'
    have o1 : ∀ x, x ∉ v → (iter (fun r => rwI w m u r v) l r).getD x 0 = (iter (fun r => rwI w m u r v) l' r).getD x 0 := fun x hx => by rw [iter_other hu h hv' hx, iter_other hu h hv' hx]
    generalize iter (fun r => rwI w m u r v) l r = X at *
    generalize iter (fun r => rwI w m u r v) l' r = Y at *
    have a1 := rv_get hu R s
    have a2 := rv_get hu R t
    have a3 := rv_get hu R q
    have b1 := rv_get hu R' s
    have b2 := rv_get hu R' t
    have b3 := rv_get hu R' q
    have a4 := up a3.1 a3.2
    have b4 := up b3.1 b3.2
    obtain ⟨e1, eh⟩ := radix lessB_lt lessB_lt e
    obtain ⟨e2, e3⟩ := radix (by omega) (by omega) e1
    obtain ⟨e4, e5⟩ := radix (by omega) (by omega) e2
    have es : X.getD s 0 = Y.getD s 0 := by omega
    have et : X.getD t 0 = Y.getD t 0 := by omega
    have ez : X.getD q 0 / p = Y.getD q 0 / p := by omega
    have oth : ∀ x, x ≠ q → X.getD x 0 = Y.getD x 0 := by
      intro x hx
      by_cases hxv : x ∈ v
      · rcases (hv x hxv).2 with rfl | rfl | rfl
        · exact absurd rfl hx
        · exact es
        · exact et
      · exact o1 x hxv
    have er : rstP X q = rstP Y q := rst_congr (by rw [R.1, R'.1]) oth
    have hXY : p ∣ (a * X.getD q 0 * X.getD q 0 - M * rstP X q * X.getD q 0) - (a * Y.getD q 0 * Y.getD q 0 - M * rstP X q * Y.getD q 0) := by
      have d := Int.dvd_trans hpu (Int.dvd_sub j1 j2)
      have e : ∀ x y z : Int, x - z - (y - z) = x - y := fun x y z => by omega
      rw [e] at d
      unfold jI at d
      rw [prod_rst (q := q) (by rw [R.1]; exact hq), prod_rst (r := Y) (q := q) (by rw [R'.1]; exact hq), ← er, es, et] at d
      have e2 : ∀ x y k l f : Int, (x + k + l - M * (f * rstP X q)) = x + k + l - M * rstP X q * f := fun x y k l f => by grind
      have : (a * X.getD q 0 * X.getD q 0 - M * rstP X q * X.getD q 0) - (a * Y.getD q 0 * Y.getD q 0 - M * rstP X q * Y.getD q 0) =
        (a * X.getD q 0 * X.getD q 0 + b * Y.getD s 0 * Y.getD s 0 + c * Y.getD t 0 * Y.getD t 0 - M * (X.getD q 0 * rstP X q)) - (a * Y.getD q 0 * Y.getD q 0 + b * Y.getD s 0 * Y.getD s 0 + c * Y.getD t 0 * Y.getD t 0 - M * (Y.getD q 0 * rstP X q)) := by grind
      rw [this]; exact d
    rw [← er] at eh
    have hx := quad_mod (A := a) (B := M * rstP X q) (x := X.getD q 0) p
    have hy := quad_mod (A := a) (B := M * rstP X q) (x := Y.getD q 0) p
    have mx := Int.emod_nonneg (X.getD q 0) (show p ≠ 0 by omega)
    have mx2 := Int.emod_lt_of_pos (X.getD q 0) hp0
    have my := Int.emod_nonneg (Y.getD q 0) (show p ≠ 0 by omega)
    have my2 := Int.emod_lt_of_pos (Y.getD q 0) hp0
    have hxy : p ∣ (a * (X.getD q 0 % p) * (X.getD q 0 % p) - M * rstP X q * (X.getD q 0 % p)) - (a * (Y.getD q 0 % p) * (Y.getD q 0 % p) - M * rstP X q * (Y.getD q 0 % p)) := by
      have := Int.dvd_sub (Int.dvd_add hXY hy) hx
      have e : ∀ x y z k : Int, x - y + (y - k) - (x - z) = z - k := fun x y z k => by omega
      rw [e] at this; exact this
    have key : X.getD q 0 % p = Y.getD q 0 % p := by
      have cmp : ∀ {x y : Int}, 0 ≤ x → x < y → y < p → p ∣ (a * y * y - M * rstP X q * y) - (a * x * x - M * rstP X q * x) → lessB a (M * rstP X q) p x = lessB a (M * rstP X q) p y → False := by
        intro x y h0 h1 h2 hd he
        have l1 : lessB a (M * rstP X q) p y = 1 := lessB_one.mpr ⟨x, h0, by omega, h1, hd⟩
        rw [l1] at he
        obtain ⟨z, z0, z1, z2, z3⟩ := lessB_one.mp he
        have := Int.dvd_add hd z3
        have e : ∀ x y z : Int, x - y + (y - z) = x - z := fun x y z => by omega
        rw [e] at this
        exact quad3 hp hA z2 h1 z0 h2 z3 this
      rcases Int.lt_trichotomy (X.getD q 0 % p) (Y.getD q 0 % p) with hlt | heq | hgt
      · exact (cmp mx hlt my2 (by
          have := Int.dvd_neg.mpr hxy
          rw [Int.neg_sub] at this; exact this) eh).elim
      · exact heq
      · exact (cmp my hgt mx2 hxy eh.symm).elim
    have eq : X.getD q 0 = Y.getD q 0 := by
      have h1 := Int.mul_ediv_add_emod (X.getD q 0) p
      have h2 := Int.mul_ediv_add_emod (Y.getD q 0) p
      rw [ez, key] at h1
      omega
    intro x hxv
    by_cases hxq : x = q
    · rw [hxq]; exact eq
    · exact oth x hxq
/-- a word of at most three flips -/
theorem round_le (hw : EqOk w m) (hu : 2 ≤ u) (hu2 : u ≤ 30) (h : RV u w.length r) (hl : v.length ≤ 3) (hv : ∀ k ∈ v, k < w.length) : ∃ T, 1 ≤ T ∧ T ≤ 20000 ∧ iter (fun r => rwI w m u r v) T r = r := by
  have hu0 : 0 < u := by omega
  have two : ∀ i j, (∀ k ∈ v, k = i ∨ k = j) → ∃ T, 1 ≤ T ∧ T ≤ 20000 ∧ iter (fun r => rwI w m u r v) T r = r := by
    intro i j hij
    obtain ⟨T, h1, h2, h3⟩ := round_two (w := w) (m := m) hu0 h hv hij
    have : u.toNat * u.toNat ≤ 30 * 30 := Nat.mul_le_mul (by omega) (by omega)
    exact ⟨T, h1, by omega, h3⟩
  rcases v with _ | ⟨i, _ | ⟨j, _ | ⟨k, v⟩⟩⟩
  · exact two 0 0 (by simp)
  · exact two i i (by simp)
  · exact two i j (by simp)
  · have : v = [] := by simp at hl; exact hl
    subst this
    by_cases hij : i = j
    · subst hij; exact two i k (by simp)
    by_cases hik : i = k
    · subst hik; exact two i j (by simp)
    by_cases hjk : j = k
    · subst hjk; exact two i j (by simp)
    by_cases h27 : u ≤ 27
    · obtain ⟨T, h1, h2, h3⟩ := round_three (w := w) (m := m) hu0 h hv (i := i) (j := j) (k := k) (by simp)
      have a1 : u.toNat * u.toNat ≤ 27 * 27 := Nat.mul_le_mul (by omega) (by omega)
      have a2 : u.toNat * u.toNat * u.toNat ≤ 27 * 27 * 27 := Nat.mul_le_mul a1 (by omega)
      exact ⟨T, h1, by omega, h3⟩
    · have hi := hv i (by simp)
      have hj := hv j (by simp)
      have hk := hv k (by simp)
      have wk : ∀ x, x < w.length → 1 ≤ w.getD x 1 ∧ w.getD x 1 ≤ 12 ∧ w.getD x 1 * (m / w.getD x 1) = m := by
        intro x hx
        have h1 := hw.1.2.2 _ (List.getElem_mem hx)
        have h2 := hw.2.2.2 _ (List.getElem_mem hx)
        have e : w.getD x 1 = w[x] := by simp [hx]
        rw [e]
        exact ⟨h1.1, h1.2, Int.mul_ediv_cancel' (Int.dvd_of_emod_eq_zero h2)⟩
      have gen : ∀ p : Int, Prm p → p ∣ u → (p = 5 ∨ p = 7 ∨ p = 29) → ∃ T, 1 ≤ T ∧ T ≤ u.toNat * u.toNat * (u / p).toNat * 2 ∧ iter (fun r => rwI w m u r [i, j, k]) T r = r := by
        intro p hp hpu hpp
        have w1 := wk i hi
        have w2 := wk j hj
        have w3 := wk k hk
        have hv2 : ∀ x ∈ [i, j, k], x < w.length ∧ (x = i ∨ x = j ∨ x = k) := by
          intro x hx
          refine ⟨hv x hx, by simpa using hx⟩
        by_cases d1 : p ∣ w.getD i 1
        · by_cases d2 : p ∣ w.getD j 1
          · by_cases d3 : p ∣ w.getD k 1
            · obtain ⟨x, ex⟩ := d1
              obtain ⟨y, ey⟩ := d2
              obtain ⟨z, ez⟩ := d3
              have hm : m = p * (x * (m / w.getD i 1)) := by rw [← Int.mul_assoc, ← ex]; exact w1.2.2.symm
              have hM : ∀ {x' d : Int}, p * x' * d = m → x' * d = x * (m / w.getD i 1) := by
                intro x' d he
                have : p * (x' * d) = p * (x * (m / w.getD i 1)) := by rw [← Int.mul_assoc, he]; exact hm
                exact Int.eq_of_mul_eq_mul_left (by have := hp.1; omega) this
              refine round_eq (w := w) (m := m) (a := x) (b := y) (c := z) (M := x * (m / w.getD i 1)) hu0 h hp hpu ?_ hi hij hik hjk rfl (hM (by rw [← ey]; exact w2.2.2)) (hM (by rw [← ez]; exact w3.2.2)) hv2
              intro hd
              have hx1 : 1 ≤ x ∧ x ≤ 2 := by rcases hpp with rfl | rfl | rfl <;> omega
              have := Int.le_of_dvd (by omega) hd
              rcases hpp with rfl | rfl | rfl <;> omega
            · refine round_eq (w := w) (m := m) (a := w.getD k 1) (b := w.getD i 1) (c := w.getD j 1) (M := m) hu0 h hp hpu d3 hk (Ne.symm hik) (Ne.symm hjk) hij w3.2.2 w1.2.2 w2.2.2 fun x hx => ⟨(hv2 x hx).1, ?_⟩
              rcases (hv2 x hx).2 with e | e | e
              · exact .inr (.inl e)
              · exact .inr (.inr e)
              · exact .inl e
          · refine round_eq (w := w) (m := m) (a := w.getD j 1) (b := w.getD i 1) (c := w.getD k 1) (M := m) hu0 h hp hpu d2 hj (Ne.symm hij) hjk hik w2.2.2 w1.2.2 w3.2.2 fun x hx => ⟨(hv2 x hx).1, ?_⟩
            rcases (hv2 x hx).2 with e | e | e
            · exact .inr (.inl e)
            · exact .inl e
            · exact .inr (.inr e)
        · exact round_eq (w := w) (m := m) (a := w.getD i 1) (b := w.getD j 1) (c := w.getD k 1) (M := m) hu0 h hp hpu d1 hi hij hik hjk w1.2.2 w2.2.2 w3.2.2 hv2
      have hcase : u = 28 ∨ u = 29 ∨ u = 30 := by omega
      rcases hcase with rfl | rfl | rfl
      · obtain ⟨T, h1, h2, h3⟩ := gen 7 prm7 (by decide) (by decide)
        exact ⟨T, h1, Nat.le_trans h2 (by decide), h3⟩
      · obtain ⟨T, h1, h2, h3⟩ := gen 29 prm29 (by decide) (by decide)
        exact ⟨T, h1, Nat.le_trans h2 (by decide), h3⟩
      · obtain ⟨T, h1, h2, h3⟩ := gen 5 prm5 (by decide) (by decide)
        exact ⟨T, h1, Nat.le_trans h2 (by decide), h3⟩
end
end Ev
namespace Ev
/-! ### sizes on any way -/
theorem dbl {w : List Int} {m : Int} {l : List Int} {k : Nat} (hw : EqOk w m) (hs : Solv w m l) (hk : k < l.length) : 2 * (shI w (flI w m l k)).sum ≤ (2 * (shI w l).sum) * (2 * (shI w l).sum) := by
  have F := flipD hw hs hk
  have h1 := hs.shk hw hk
  have h2 := F.eq
  have h3 := F.sum
  have h4 := F.rest
  have h5 := F.sol.shk hw (i := k) (by have := F.sol.1; have := hs.1; omega)
  generalize (shI w l).getD k 0 = s at *
  generalize (shI w (flI w m l k)).getD k 0 = s' at *
  generalize (shI w l).sum = S at *
  rw [h3]
  have a1 : s' * 1 ≤ s' * s := Int.mul_le_mul_of_nonneg_left h1 (by omega)
  have a2 : (S - s) * (S - s) ≤ S * S := Int.mul_le_mul (by omega) (by omega) (by omega) (by omega)
  have a3 : 1 * S ≤ S * S := Int.mul_le_mul_of_nonneg_right (by omega) (by omega)
  have a4 : 2 * S * (2 * S) = 4 * (S * S) := by grind
  rw [a4]
  generalize S * S = z at *
  omega
theorem walk_any {w : List Int} {m : Int} (hw : EqOk w m) : ∀ (v : List Nat) (l : List Int) (B : Int), Solv w m l → 2 * (shI w l).sum ≤ B → 1 ≤ B → (∀ k ∈ v, k < l.length) →
    Solv w m (walkI w m l v) ∧ 2 * (shI w (walkI w m l v)).sum ≤ B ^ (2 ^ v.length) ∧ (B ^ (2 ^ v.length) ≤ BN → WalkOk w m l v)
  | [], l, B, hs, hB, _, _ => ⟨hs, by show _ ≤ B ^ 1; rw [Int.pow_succ, Int.pow_zero, Int.one_mul]; exact hB, fun _ => trivial⟩
  | k :: v, l, B, hs, hB, h1, hv => by
    have hk := hv k (by simp)
    have F := flipD hw hs hk
    have hl : (flI w m l k).length = l.length := flI_length hk
    have hS : 1 ≤ (shI w l).sum := by have := hs.shk hw hk; have := F.rest; omega
    have d := dbl hw hs hk
    have d2 : 2 * (shI w l).sum * (2 * (shI w l).sum) ≤ B * B := Int.mul_le_mul hB hB (by omega) (by omega)
    have hBB : 1 ≤ B * B := by have := Int.mul_le_mul h1 h1 (by omega) (by omega); omega
    obtain ⟨r1, r2, r3⟩ := walk_any hw v (flI w m l k) (B * B) F.sol (by omega) hBB (fun j hj => by rw [hl]; exact hv j (by simp [hj]))
    have e : (B * B) ^ (2 ^ v.length) = B ^ (2 ^ (k :: v).length) := by
      rw [List.length_cons, Nat.pow_succ, Nat.mul_comm, Int.pow_mul]
      congr 1
      rw [Int.pow_succ, Int.pow_succ, Int.pow_zero, Int.one_mul]
    rw [e] at r2 r3
    refine ⟨r1, r2, fun hb => ⟨hk, ?_, ?_, r3 hb⟩⟩
    · have : B ≤ BN := by
        have h2 : ∀ n : Nat, 1 ≤ n → B ≤ B ^ n := by
          intro n hn
          induction n with
          | zero => omega
          | succ n ih =>
            rcases Nat.eq_zero_or_pos n with h0 | h0
            · subst h0; simp [Int.pow_succ]
            · have := ih h0
              rw [Int.pow_succ]
              have h3 : B ^ n * 1 ≤ B ^ n * B := Int.mul_le_mul_of_nonneg_left h1 (by omega)
              omega
        have := h2 (2 ^ (k :: v).length) Nat.one_le_two_pow
        omega
      exact (hs.ok hw (by omega)).sm hw
    · have h3 : 2 * (shI w (flI w m l k)).sum ≤ BN := by
        have h2 : ∀ n : Nat, 1 ≤ n → B * B ≤ (B * B) ^ n := by
          intro n hn
          induction n with
          | zero => omega
          | succ n ih =>
            rcases Nat.eq_zero_or_pos n with h0 | h0
            · subst h0; simp [Int.pow_succ]
            · have := ih h0
              rw [Int.pow_succ]
              have h3 : (B * B) ^ n * 1 ≤ (B * B) ^ n * (B * B) := Int.mul_le_mul_of_nonneg_left hBB (by omega)
              omega
        have := h2 (2 ^ v.length) Nat.one_le_two_pow
        rw [e] at this
        omega
      have h4 := F.sol.num_le hw (x := flG w m l k) (by rw [← F.at_]; simp [hl, hk])
      have h5 := F.pos
      have h6 : flG w m l k * 1 ≤ flG w m l k * flG w m l k := Int.mul_le_mul_of_nonneg_left h5 (by omega)
      have h7 : 1 ≤ BN := by decide +kernel
      omega
end Ev

set_option Elab.async false
set_option linter.all false
set_option maxRecDepth 100000
set_option maxHeartbeats 4000000
/-! Lg3: more tools for the plain laws. -/
namespace Ev
open PySem
theorem perm_map_inv {α β : Type} {f : α → β} {g : β → α} (hg : ∀ a, g (f a) = a) {l : List β} {xs : List α} (h : l.Perm (xs.map f)) : ∃ ys : List α, l = ys.map f ∧ ys.Perm xs := by
  refine ⟨l.map g, ?_, ?_⟩
  · rw [List.map_map]
    have : ∀ b ∈ l, (f ∘ g) b = b := fun b hb => by
      obtain ⟨a, _, rfl⟩ := List.mem_map.mp (h.mem_iff.mp hb)
      simp [hg]
    conv => lhs; rw [← List.map_id l]
    exact List.map_congr_left fun b hb => (this b hb).symm
  · have h2 := h.map g
    rw [List.map_map] at h2
    have : (g ∘ f) = id := by funext a; simp [hg]
    simpa [this] using h2
def toN : D → Nat
  | .int i => i.toNat
  | _ => 0
theorem lc_core {tg : Tgt} {cond : Option E} {elt : E} {env : Env'} {k : IK} {st : Store} {ds l : List D} {g : Guard} {fin : Store → Prop} (f : D → D) (b : D → Bool) (hit : itemsD k ds st = some (l, g)) (hg : gOk g st) (hl : l.length ≤ line)
    (hx : ∀ x ∈ l, ∃ env', (∀ P : Env' → Prop, P env' → asgD tg x env P) ∧ GivesC st env' cond (b x) ∧ (b x = true → Gives st env' elt (f x)))
    (hQ : fin (st ++ [.lst ((l.filter b).map f)])) : ∃ l g, itemsD k ds st = some (l, g) ∧
      lcN st.length g (fun x next st2 => asgD tg x env fun env' => wpC cond env' st2 (fun r st3 =>
        (r = true → wpE elt env' st3 (fun y st4 => ∃ acc, st4[st.length]? = some (.lst acc) ∧ acc.length < line ∧ next (st4.set st.length (.lst (acc ++ [y])))) (fun _ _ => False)) ∧
        (r = false → next st3)) (fun _ _ => False)) fin l (st ++ [.lst []]) := by
  refine ⟨l, g, hit, ?_⟩
  refine lcN_of (fun i st' => st' = st ++ [.lst (((l.take i).filter b).map f)]) rfl (fun i st' _ e => by rw [e]; exact pre_gOk (List.prefix_append _ _) hg) (fun i x st' next hxi e hn => ?_) (fun st' e => by rw [e, List.take_length]; exact hQ)
  subst e
  obtain ⟨env', ha, hc, he⟩ := hx x (List.mem_of_getElem? hxi)
  refine ha _ (hc _ _ _ (List.prefix_append _ _) ⟨fun hb => he hb _ _ _ (List.prefix_append _ _) ⟨((l.take i).filter b).map f, by simp, ?_, ?_⟩, fun hb => ?_⟩)
  · have h1 : ((l.take i).filter b).length ≤ (l.take i).length := List.length_filter_le _ _
    have hi' : i < l.length := by
      rcases Nat.lt_or_ge i l.length with q | q
      · exact q
      · rw [List.getElem?_eq_none q] at hxi; cases hxi
    rw [List.length_map]
    rw [List.length_take] at h1
    omega
  · refine hn _ ?_
    rw [List.take_succ, hxi]
    simp [List.filter_append, hb]
  · refine hn _ ?_
    rw [List.take_succ, hxi]
    simp [List.filter_append, hb]
theorem wpE_lc {tg : Tgt} {k : IK} {its : List E} {cond : Option E} {elt : E} {env : Env'} {st : Store} {Q : Post} {Ex : XPost} : wpE (.lc tg k its cond elt) env st Q Ex = wpEs its env st (fun ds st1 => ∃ l g, itemsD k ds st1 = some (l, g) ∧
      lcN st1.length g (fun x next st2 => asgD tg x env fun env' => wpC cond env' st2 (fun r st3 =>
        (r = true → wpE elt env' st3 (fun y st4 => ∃ acc, st4[st1.length]? = some (.lst acc) ∧ acc.length < line ∧ next (st4.set st1.length (.lst (acc ++ [y])))) (fun _ _ => False)) ∧
        (r = false → next st3)) (fun _ _ => False))
        (Q (.ref st1.length)) l (st1 ++ [.lst []])) Ex := by simp only [wpE]
/-- alike at every depth, lists by their items -/
def SameD (st : Store) : Nat → D → D → Prop
  | _, .non, .non => True
  | _, .bl a, .bl b => a = b
  | _, .int a, .int b => a = b
  | _, .str a, .str b => a = b ∧ PyData.strOk a = true
  | n + 1, .tup l, .tup r => l.length = r.length ∧ l.length ≤ line ∧ ∀ p ∈ l.zip r, SameD st n p.1 p.2
  | n + 1, .ref a, .ref b => ∃ l r, seqD st (.ref a) = some l ∧ seqD st (.ref b) = some r ∧ l.length = r.length ∧ l.length ≤ line ∧ ∀ p ∈ l.zip r, SameD st n p.1 p.2
  | _, _, _ => False
theorem SameD.pre {st st' : Store} (h : st <+: st') : ∀ {n : Nat} {d e : D}, SameD st n d e → SameD st' n d e := by
  intro n
  induction n with
  | zero => intro d e s; cases d <;> cases e <;> simp [SameD] at s ⊢ <;> exact s
  | succ n ih =>
    intro d e s
    cases d <;> cases e <;> simp only [SameD] at s ⊢ <;> try exact s
    · exact ⟨s.1, s.2.1, fun p hp => ih (s.2.2 p hp)⟩
    · obtain ⟨l, r, h1, h2, h3, h4, h5⟩ := s
      exact ⟨l, r, pre_seq h h1, pre_seq h h2, h3, h4, fun p hp => ih (h5 p hp)⟩
theorem same_fit {st : Store} : ∀ {n : Nat} {d : D}, D.fit n d = true → SameD st n d d := by
  intro n
  induction n with
  | zero => intro d h; cases d <;> simp [D.fit, SameD] at h ⊢; exact h
  | succ n ih =>
    intro d h
    cases d <;> simp only [D.fit, SameD, Bool.and_eq_true, decide_eq_true_eq, List.all_eq_true] at h ⊢
    · exact ⟨trivial, h⟩
    · refine ⟨trivial, h.1, fun p hp => ?_⟩
      obtain ⟨i, hi, rfl⟩ := List.getElem_of_mem hp
      rw [List.getElem_zip]
      exact ih (h.2 _ (List.getElem_mem _))
    · cases h
theorem wp_zipAll {elt : E} {env : Env'} {st : Store} {Q : Post} {Ex : XPost} {i j a b : Nat} {d e : D} {l r : List D} (hi : env[i]? = some (some d)) (hj : env[j]? = some (some e)) (hd : seqD st d = some l) (he : seqD st e = some r) (hk : sameKind d e = true) (hlr : l.length = r.length) (hl : l.length ≤ line)
    (hx : ∀ p ∈ l.zip r, Gives st ((env.set a (some p.1)).set b (some p.2)) elt (.bl true)) (hQ : Q (.bl true) st) : wpE (.tmp (.prim .all [.lc (.nms [a, b]) .zip [.var i, .var j] none elt])) env st Q Ex := by
  refine wp_allT (ds := [d, e]) (l := pairUp l r) (g := gOf d l ++ gOf e r) (fun Q Ex h => by simp [hi, hj, h]) (by simp [itemsD, hk, hd, he]) (fun p hp => ?_) ?_ (fun x hx' => ?_) hQ
  · rcases List.mem_append.mp hp with h | h
    · exact gOk_gOf hd p h
    · exact gOk_gOf he p h
  · simp [pairUp]; omega
  · unfold pairUp at hx'
    rw [← List.map_uncurry_zip_eq_zipWith] at hx'
    obtain ⟨p, hp, rfl⟩ := List.mem_map.mp hx'
    exact ⟨(env.set a (some p.1)).set b (some p.2), fun P h => ⟨_, rfl, h⟩, hx p hp⟩
theorem pre_but {n : Nat} {st s s' : Store} (h : st <+: s) (hn : st.length ≤ n) (hb : But n s s') : st <+: s' := by
  have hl : st.length ≤ s'.length := Nat.le_trans h.length_le hb.1
  have : st = s'.take st.length := by
    apply List.ext_getElem?
    intro k
    rw [List.getElem?_take]
    by_cases hk : k < st.length
    · rw [if_pos hk, List.getElem?_eq_getElem hk]
      exact (hb.2 k _ (by omega) (pre_st h (List.getElem?_eq_getElem hk))).symm
    · rw [if_neg hk, List.getElem?_eq_none (by omega)]
  rw [this]
  exact List.take_prefix _ _
theorem bndN_lt (n : Nat) : bndN n < BN := by
  unfold bndN
  split <;> decide +kernel
theorem UpD.ok {w : List Int} {m : Int} {l l0 : List Int} {u : List Nat} (hw : EqOk w m) (U : UpD w m l l0 u) : SolOk w m l := U.sol.ok hw (Int.lt_trans U.bnd (bndN_lt _))
theorem cut_m1 {l : List D} : cutD l (some (-1)) none = l.drop (l.length - 1) := by
  unfold cutD
  have e : HT.sIx l.length 0 (some (-1)) = l.length - 1 := by
    show (if (-1 : Int) < 0 then ((-1 : Int) + (l.length : Int)).toNat else min (-1 : Int).toNat l.length) = _
    rw [if_pos (by decide)]; omega
  rw [e, HT.sIx_none, List.take_of_length_le (by simp)]
theorem cmp_notin_last {u : List Nat} {k : Nat} {st : Store} : cmpD .notin (.int (k : Int)) (.tup (((u.map fun (k : Nat) => (k : Int)).map D.int).drop (u.length - 1))) st = some (!decide (u.getLast? = some k)) := by
  rcases nil_or_snoc u with rfl | ⟨v, j, rfl⟩
  · simp [cmpD, inD, D.pure, D.pureAll, D.depth, D.depthAll]
  · have e : (((v ++ [j]).map fun (k : Nat) => (k : Int)).map D.int).drop ((v ++ [j]).length - 1) = [.int j] := by
      simp
    rw [e]
    simp [cmpD, inD, D.pure, D.pureAll, D.depth, D.depthAll, D.eqv]
    by_cases h : j = k
    · subst h; simp
    · have : ¬ ((j : Int) = k) := by omega
      simp [h, this]
theorem depth_tI (l : List Int) : D.depth (tI l) ≤ 1 := by
  have : ∀ l : List Int, D.depthAll (l.map D.int) = 0 := by
    intro l
    induction l with
    | nil => rfl
    | cons a l ih => simp [D.depthAll, D.depth, ih]
  simp [tI, D.depth, this]
theorem eqv_tI (l : List Int) : D.eqv (tI l) (tI l) = true := by
  have : ∀ l : List Int, D.eqvAll (l.map D.int) (l.map D.int) = true := by
    intro l
    induction l with
    | nil => rfl
    | cons a l ih => simp [D.eqvAll, D.eqv, ih]
  simp [tI, D.eqv, this]
theorem maxI_le {l : List Int} {b : Int} (h : maxI l ≤ b) : ∀ x ∈ l, x ≤ b := fun x hx => Int.le_trans (le_maxI hx) h
/-- a while: P i stands ahead of lap i; behind n laps the test is false -/
theorem loopN_of {step : (Env' → Store → Prop) → Env' → Store → Prop} (P : Nat → Env' → Store → Prop) : ∀ (n : Nat) {env : Env'} {st : Store} (i : Nat), P i env st →
    (∀ j env st next, P j env st → (j < i + n → ∀ env' st', P (j + 1) env' st' → next env' st') → step next env st) → loopN step (n + 1) env st
  | 0, env, st, i, h, hs => hs i env st _ h fun hj => by omega
  | n + 1, env, st, i, h, hs => hs i env st _ h fun _ env' st' h' => loopN_of P n (i + 1) h' fun j e s nx hp hn => hs j e s nx hp fun hj => hn (by omega)
end Ev

set_option Elab.async false
set_option linter.all false
set_option maxRecDepth 100000
set_option maxHeartbeats 4000000
namespace Pf
open PySem Ev
def top (i : Nat) : Stmt := PySem.Challenge.pw_flippedthrees_k62_across_rests_words_and.main.body.getD i (.Pass ⟨0, 0, 0, 0⟩)
/-! is_number -/
def con_is_number : Con := fun ds st Q _ => ∃ d, ds = [d] ∧ D.pure d = true ∧ Q (.bl (isIntD d)) st
def F_is_number : Fn := ⟨"is_number", ["thing"], con_is_number⟩
@[simp] theorem F_is_number_con : F_is_number.con = con_is_number := rfl
def N_is_number : List Str := ["thing"]
def B_is_number : List S := [.ret (.and (.prim (.isi .int) [.var 0]) (.not (.prim (.isi .bool) [.var 0])))]
theorem law_is_number (ds : List D) (st : Store) (Q : Post) (Ex : XPost) (hlen : ds.length = 1) (h : con_is_number ds st Q Ex) : wpSs B_is_number (startD N_is_number ds) st (endF st Q Ex) := by
  obtain ⟨d, rfl, hp, q⟩ := h
  cases d <;> simp [-Bool.exists_bool, B_is_number, startD, N_is_number, isIntD, D.pure] at hp q ⊢ <;> exact q
/-! is_long -/
def con_is_long : Con := fun ds st Q _ => ∃ d n, ds = [d, .int n] ∧ D.pure d = true ∧ Q (.bl (match d with | .tup l => decide ((l.length : Int) = n) | _ => false)) st
def F_is_long : Fn := ⟨"is_long", ["thing", "length"], con_is_long⟩
@[simp] theorem F_is_long_con : F_is_long.con = con_is_long := rfl
def N_is_long : List Str := ["thing", "length"]
def B_is_long : List S := [.ret (.and (.prim (.isi .tuple) [.var 0]) (.cmp .eq (.prim .len [.var 0]) (.var 1)))]
theorem law_is_long (ds : List D) (st : Store) (Q : Post) (Ex : XPost) (hlen : ds.length = 2) (h : con_is_long ds st Q Ex) : wpSs B_is_long (startD N_is_long ds) st (endF st Q Ex) := by
  obtain ⟨d, n, rfl, hp, q⟩ := h
  cases d <;> simp [-Bool.exists_bool, B_is_long, startD, N_is_long, D.pure] at hp q ⊢ <;> try exact q
/-! tupled -/
def con_tupled (n : Nat) : Con := fun ds st Q _ => ∃ d, ds = [d] ∧ D.fit n d = true ∧ Q d st
def Fr_tupled (n : Nat) : Fn := ⟨"tupled", ["value"], con_tupled n⟩
abbrev F_tupled : Fn := Fr_tupled 9
@[simp] theorem Fr_tupled_con (n : Nat) : (Fr_tupled n).con = con_tupled n := rfl
def N_tupled : List Str := ["value", "own"]
def B_tupled (self : Fn) : List S := [.ret (.ife (.prim (.isi .listtuple) [.var 0]) (.tmp (.prim .tuple [.lc (.nm 1) .seq [.var 0] none (.call self [.var 1])])) (.var 0))]
theorem law_tupled (n : Nat) (ds : List D) (st : Store) (Q : Post) (Ex : XPost) (hlen : ds.length = 1) (h : con_tupled (n + 1) ds st Q Ex) : wpSs (B_tupled (Fr_tupled n)) (startD N_tupled ds) st (endF st Q Ex) := by
  obtain ⟨d, rfl, hp, q⟩ := h
  have hpu := D.fit_pure hp
  simp [-Bool.exists_bool, B_tupled, startD, N_tupled]
  cases d <;> simp [-Bool.exists_bool, D.fit] at hp q ⊢ <;> try exact q
  rename_i l
  refine wp_tupc (ds := [.tup l]) (l := l) (g := []) id (fun _ => true) (fun Q Ex h => by simpa using h) rfl gOk_nil hp.1 (fun x hx => ⟨_, fun P h => h, givesC_none, fun _ => ⟨D.fit_pure (hp.2 x hx), fun st2 Q Ex hs h => ?_⟩⟩) (by simpa [filter_true] using q)
  simp
  exact ⟨x, rfl, hp.2 x hx, h⟩
theorem law_tupled0 (ds : List D) (st : Store) (Q : Post) (Ex : XPost) (hlen : ds.length = 1) (h : con_tupled 0 ds st Q Ex) (self : Fn) : wpSs (B_tupled self) (startD N_tupled ds) st (endF st Q Ex) := by
  obtain ⟨d, rfl, hp, q⟩ := h
  simp [-Bool.exists_bool, B_tupled, startD, N_tupled]
  cases d <;> simp [-Bool.exists_bool, D.fit] at hp q ⊢ <;> try exact q
/-! product_of -/
def con_product_of : Con := fun ds st Q _ => ∃ d l, ds = [d] ∧ intsOf st d = some l ∧ l.length ≤ 100 ∧ (∀ x ∈ l, x.natAbs < 2 ^ 4000) ∧ Q (.int (prodI l)) st
def F_product_of : Fn := ⟨"product_of", ["numbers"], con_product_of⟩
@[simp] theorem F_product_of_con : F_product_of.con = con_product_of := rfl
def N_product_of : List Str := ["numbers", "found", "own"]
def B_product_of : List S := [.set (.nm 1) (.k (.int 1)),
  .forr (.nm 2) .seq [.var 0] [.set (.nm 1) (.bin .mul (.var 1) (.var 2))],
  .ret (.var 1)]
theorem law_product_of (ds : List D) (st : Store) (Q : Post) (Ex : XPost) (hlen : ds.length = 1) (h : con_product_of ds st Q Ex) : wpSs B_product_of (startD N_product_of ds) st (endF st Q Ex) := by
  obtain ⟨d, l, rfl, hl, hn, hb, q⟩ := h
  have hs := intsOf_some hl
  simp [B_product_of, startD, N_product_of, hs]
  refine ⟨_, _, ⟨rfl, rfl⟩, ?_⟩
  refine forN_of (fun i env st' => st' = st ∧ ∃ o, env = [some d, some (.int ((l.take i).foldl (· * ·) 1)), o]) ⟨rfl, none, rfl⟩ (fun i env st' _ h => by rw [h.1]; exact gOk_gOf hs) (fun i x env st' next hx h hnx => ?_) (fun env st' h => ?_)
  · obtain ⟨rfl, o, rfl⟩ := h
    rw [List.getElem?_map] at hx
    cases e : l[i]? with
    | none => rw [e] at hx; cases hx
    | some y =>
      rw [e] at hx
      cases hx
      have h1 : ((l.take i).foldl (· * ·) 1).natAbs < 2 ^ (1 + 4000 * (l.take i).length) := prodI_bound _ _ _ _ (fun x hx => hb x (List.mem_of_mem_take hx)) (by decide)
      have h2 : (l.take i).length ≤ 100 := by rw [List.length_take]; omega
      have h3 : 1 + 4000 * (l.take i).length + 4000 + 2 ≤ 1000000 := by omega
      simp []
      refine ⟨mulOk_of h1 (hb y (List.mem_of_getElem? e)) (by omega), hnx _ _ ⟨rfl, some (.int y), ?_⟩⟩
      rw [List.take_succ, e]
      simp
  · obtain ⟨rfl, o, rfl⟩ := h
    rw [List.length_map, List.take_length]
    simp
    exact q
/-! shares_in -/
def con_shares_in : Con := fun ds st Q _ => ∃ w m l, ds = [eqT w m, tI l] ∧ Sm w ∧ Sm l ∧ Q (tI (shI w l)) st
def F_shares_in : Fn := ⟨"shares_in", ["equation", "numbers"], con_shares_in⟩
@[simp] theorem F_shares_in_con : F_shares_in.con = con_shares_in := rfl
def N_shares_in : List Str := ["equation", "numbers", "weight", "own"]
def B_shares_in : List S := [.ret (.tmp (.prim .tuple [.lc (.nms [2, 3]) .zip [.ix (.var 0) (.k (.int 0)), .var 1] none (.bin .mul (.bin .mul (.var 2) (.var 3)) (.var 3))]))]
theorem law_shares_in (ds : List D) (st : Store) (Q : Post) (Ex : XPost) (hlen : ds.length = 2) (h : con_shares_in ds st Q Ex) : wpSs B_shares_in (startD N_shares_in ds) st (endF st Q Ex) := by
  obtain ⟨w, m, l, rfl, ⟨hw1, hw2⟩, ⟨hl1, hl2⟩, q⟩ := h
  simp [B_shares_in, startD, N_shares_in]
  refine wp_tupc (ds := [tI w, tI l]) (l := pairUp (w.map D.int) (l.map D.int)) (g := []) (fun x => match x with | .tup [.int a, .int b] => .int (a * b * b) | _ => .non) (fun _ => true) (fun Q Ex h => by simpa [eqT] using h) rfl gOk_nil ?_ (fun x hx => ?_) ?_
  · rw [pairUp_ints, List.length_map, List.length_zip]; show _ ≤ 1000000; omega
  · rw [pairUp_ints] at hx
    obtain ⟨⟨a, b⟩, hp, rfl⟩ := List.mem_map.mp hx
    obtain ⟨ha, hb⟩ := List.of_mem_zip hp
    refine ⟨[some (eqT w m), some (tI l), some (.int a), some (.int b)], fun P h => ⟨_, rfl, h⟩, givesC_none, fun _ => ⟨rfl, fun st2 Q Ex hs h => ?_⟩⟩
    simp []
    exact ⟨mulOk_of (hw2 a ha) (hl2 b hb) (by omega), mulOk_of (L2.wide_lt (hw2 a ha) (hl2 b hb)) (hl2 b hb) (by omega), h⟩
  · have e : ((pairUp (w.map D.int) (l.map D.int)).filter (fun _ => true)).map (fun x => match x with | .tup [.int a, .int b] => D.int (a * b * b) | _ => .non) = (shI w l).map D.int := by
      rw [filter_true, pairUp_ints, List.map_map, ← shI_zip]; rfl
    rw [e]
    simpa [tI] using q
/-! rests_in -/
def con_rests_in : Con := fun ds st Q _ => ∃ l u, ds = [tI l, .int u] ∧ l.length ≤ 100 ∧ 0 < u ∧ Q (tI (rsI u l)) st
def F_rests_in : Fn := ⟨"rests_in", ["numbers", "modulus"], con_rests_in⟩
@[simp] theorem F_rests_in_con : F_rests_in.con = con_rests_in := rfl
def N_rests_in : List Str := ["numbers", "modulus", "own"]
def B_rests_in : List S := [.ret (.tmp (.prim .tuple [.lc (.nm 2) .seq [.var 0] none (.bin .mod (.var 2) (.var 1))]))]
theorem law_rests_in (ds : List D) (st : Store) (Q : Post) (Ex : XPost) (hlen : ds.length = 2) (h : con_rests_in ds st Q Ex) : wpSs B_rests_in (startD N_rests_in ds) st (endF st Q Ex) := by
  obtain ⟨l, u, rfl, hl, hu, q⟩ := h
  have hlin : (line : Nat) = 1000000 := rfl
  simp [-Bool.exists_bool, B_rests_in, startD, N_rests_in]
  refine wp_tupc (ds := [tI l]) (l := l.map D.int) (g := []) (fun x => match x with | .int i => .int (i % u) | _ => .non) (fun _ => true) (fun Q Ex h => by simpa [tI] using h) rfl gOk_nil (by simp; omega) (fun x hx => ⟨_, fun P h => h, givesC_none, fun _ => ?_⟩) ?_
  · obtain ⟨i, hi, rfl⟩ := List.mem_map.mp hx
    refine ⟨rfl, fun st2 Q Ex hs h => ?_⟩
    simp [-Bool.exists_bool, hu]
    exact h
  · simpa [filter_true, tI, rsI, Function.comp_def] using q
/-! table_of -/
def tM (x : M2) : D := .tup [tI [x.a, x.b], tI [x.c, x.d]]
def con_table_of : Con := fun ds st Q _ => ∃ a b, ds = [.int a, .int b] ∧ MulOk a b ∧ Q (tM (tabM a b)) st
def F_table_of : Fn := ⟨"table_of", ["near", "far"], con_table_of⟩
@[simp] theorem F_table_of_con : F_table_of.con = con_table_of := rfl
def N_table_of : List Str := ["near", "far"]
def B_table_of : List S := [.ret (.tup [.tup [.neg (.k (.int 1)), .var 0], .tup [.neg (.var 1), .bin .sub (.bin .mul (.var 0) (.var 1)) (.k (.int 1))]])]
theorem law_table_of (ds : List D) (st : Store) (Q : Post) (Ex : XPost) (hlen : ds.length = 2) (h : con_table_of ds st Q Ex) : wpSs B_table_of (startD N_table_of ds) st (endF st Q Ex) := by
  obtain ⟨a, b, rfl, h1, q⟩ := h
  have hl : 2 ≤ line := by decide
  simp [-Bool.exists_bool, B_table_of, startD, N_table_of, h1, hl]
  exact q
/-! table_times -/
def Bd (x : M2) : Prop := x.a.natAbs < 2 ^ 400000 ∧ x.b.natAbs < 2 ^ 400000 ∧ x.c.natAbs < 2 ^ 400000 ∧ x.d.natAbs < 2 ^ 400000
def con_table_times : Con := fun ds st Q _ => ∃ x y u, ds = [tM x, tM y, .int u] ∧ Bd x ∧ Bd y ∧ 0 < u ∧ Q (tM ((x.mul y).red u)) st
theorem seq_tM {x : M2} {st : Store} : seqD st (tM x) = some [tI [x.a, x.b], tI [x.c, x.d]] := rfl
theorem row_comp {x y : M2} {u p q : Int} {st : Store} {Q : Post} {Ex : XPost} {o3 o5 : Option D} (hu : 0 < u) (m1 : MulOk p y.a) (m2 : MulOk q y.c) (m3 : MulOk p y.b) (m4 : MulOk q y.d)
    (hQ : Q (tI [(p * y.a + q * y.c) % u, (p * y.b + q * y.d) % u]) st) :
    wpE (.tmp (.prim .tuple [.lc (.nm 5) .range1 [.k (.int 2)] none (.bin .mod (.bin .add (.bin .mul (.ix (.var 4) (.k (.int 0))) (.ix (.ix (.var 1) (.k (.int 0))) (.var 5))) (.bin .mul (.ix (.var 4) (.k (.int 1))) (.ix (.ix (.var 1) (.k (.int 1))) (.var 5)))) (.var 2))]))
      [some (tM x), some (tM y), some (.int u), o3, some (tI [p, q]), o5] st Q Ex := by
  refine wp_tupc (ds := [.int 2]) (l := [.int 0, .int 1]) (g := []) (fun x => if toN x = 0 then .int ((p * y.a + q * y.c) % u) else .int ((p * y.b + q * y.d) % u)) (fun _ => true) (fun Q Ex h => by simpa using h) rfl gOk_nil (by decide) (fun x hx => ⟨_, fun P h => h, givesC_none, fun _ => ?_⟩) (by simpa [toN, tI] using hQ)
  simp at hx
  rcases hx with rfl | rfl
  · refine ⟨rfl, fun st2 Q Ex hs h => ?_⟩
    simp [-Bool.exists_bool, seq_tM, m1, m2, hu]
    simpa [toN] using h
  · refine ⟨rfl, fun st2 Q Ex hs h => ?_⟩
    simp [-Bool.exists_bool, seq_tM, m3, m4, hu]
    simpa [toN] using h
theorem bd_mul {a b : Int} (ha : a.natAbs < 2 ^ 400000) (hb : b.natAbs < 2 ^ 400000) : MulOk a b := mulOk_of ha hb (by decide)
def F_table_times : Fn := ⟨"table_times", ["one", "other", "modulus"], con_table_times⟩
@[simp] theorem F_table_times_con : F_table_times.con = con_table_times := rfl
def N_table_times : List Str := ["one", "other", "modulus", "rows", "row", "k"]
def B_table_times : List S := [.set (.nm 3) (.lst []),
  .forr (.nm 4) .seq [.var 0] [.expr (.meth .append (.var 3) [.tmp (.prim .tuple [.lc (.nm 5) .range1 [.k (.int 2)] none (.bin .mod (.bin .add (.bin .mul (.ix (.var 4) (.k (.int 0))) (.ix (.ix (.var 1) (.k (.int 0))) (.var 5))) (.bin .mul (.ix (.var 4) (.k (.int 1))) (.ix (.ix (.var 1) (.k (.int 1))) (.var 5)))) (.var 2))])])],
  .ret (.prim .tuple [.var 3])]
theorem law_table_times (ds : List D) (st : Store) (Q : Post) (Ex : XPost) (hlen : ds.length = 3) (h : con_table_times ds st Q Ex) : wpSs B_table_times (startD N_table_times ds) st (endF st Q Ex) := by
  obtain ⟨x, y, u, rfl, ⟨x1, x2, x3, x4⟩, ⟨y1, y2, y3, y4⟩, hu, q⟩ := h
  have hlin : (line : Nat) = 1000000 := rfl
  simp [-Bool.exists_bool, B_table_times, startD, N_table_times]
  refine ⟨_, _, ⟨_, seq_tM, rfl, rfl⟩, ?_⟩
  refine forN_of (fun i env st' => ∃ o4 o5, env = [some (tM x), some (tM y), some (.int u), some (.ref st.length), o4, o5] ∧
      st' = st ++ [.lst ([tI [(x.a * y.a + x.b * y.c) % u, (x.a * y.b + x.b * y.d) % u], tI [(x.c * y.a + x.d * y.c) % u, (x.c * y.b + x.d * y.d) % u]].take i)]) ⟨none, none, rfl, rfl⟩ (fun i env st' _ h => by simp [tM, gOf]; exact gOk_nil) (fun i z env st' next hx h hnx => ?_) (fun env st' h => ?_)
  · obtain ⟨o4, o5, rfl, rfl⟩ := h
    rcases i with _ | _ | i
    · simp at hx
      subst hx
      simp [-Bool.exists_bool]
      refine row_comp hu (bd_mul x1 y1) (bd_mul x2 y3) (bd_mul x1 y2) (bd_mul x2 y4) ?_
      rw [meth_append (l := []) (by simp)]
      refine ⟨by simp, hnx _ _ ⟨_, _, rfl, by simp⟩⟩
    · simp at hx
      subst hx
      simp [-Bool.exists_bool]
      refine row_comp hu (bd_mul x3 y1) (bd_mul x4 y3) (bd_mul x3 y2) (bd_mul x4 y4) ?_
      rw [meth_append (l := [tI [(x.a * y.a + x.b * y.c) % u, (x.a * y.b + x.b * y.d) % u]]) (by simp)]
      refine ⟨by show _ < 1000000; simp, hnx _ _ ⟨_, _, rfl, by simp⟩⟩
    · simp at hx
  · obtain ⟨o4, o5, rfl, rfl⟩ := h
    simp [-Bool.exists_bool]
    refine orP_pure ?_ (List.prefix_append _ _) ?_
    · simp [D.pure, D.pureAll, pure_tI]
    · simpa [tM, M2.red, M2.mul] using q
/-! cut_in -/
def con_cut_in : Con := fun ds st Q _ => ∃ v, ds = [tN v] ∧ v.length ≤ 5000 ∧ Q (tN (cutL v)) st
def F_cut_in : Fn := ⟨"cut_in", ["word"], con_cut_in⟩
@[simp] theorem F_cut_in_con : F_cut_in.con = con_cut_in := rfl
def N_cut_in : List Str := ["word", "found", "own"]
def B_cut_in : List S := [.set (.nm 1) (.lst []),
  .forr (.nm 2) .seq [.var 0] [.ife (.and (.cmp .ne (.var 1) (.lst [])) (.cmp .eq (.ix (.var 1) (.neg (.k (.int 1)))) (.var 2))) [.expr (.meth .pop (.var 1) [])] [.expr (.meth .append (.var 1) [.var 2])]],
  .ret (.prim .tuple [.var 1])]
theorem law_cut_in (ds : List D) (st : Store) (Q : Post) (Ex : XPost) (hlen : ds.length = 1) (h : con_cut_in ds st Q Ex) : wpSs B_cut_in (startD N_cut_in ds) st (endF st Q Ex) := by
  obtain ⟨v, rfl, hv, q⟩ := h
  have hlin : (line : Nat) = 1000000 := rfl
  have hm : ∀ u : List Nat, (u.map fun (k : Nat) => (k : Int)).map D.int = u.map fun (k : Nat) => D.int (k : Int) := fun u => by simp
  simp [-Bool.exists_bool, B_cut_in, startD, N_cut_in, tN]
  refine ⟨_, _, ⟨rfl, rfl⟩, ?_⟩
  refine forN_of (fun i env st' => st <+: st' ∧ st'[st.length]? = some (.lst (((v.take i).foldl cutStep []).map fun (k : Nat) => D.int (k : Int))) ∧ ∃ a, env = [some (tI (v.map fun (k : Nat) => (k : Int))), some (.ref st.length), a]) ⟨List.prefix_append _ _, by simp, none, rfl⟩ (fun i env st' _ h => gOk_nil) (fun i x env st' next hx h hnx => ?_) (fun env st' h => ?_)
  · obtain ⟨hs, hl, a, rfl⟩ := h
    by_cases hi : i < v.length
    · simp [hi] at hx
      subst hx
      have ht : v.take (i + 1) = v.take i ++ [v[i]] := by rw [List.take_succ, List.getElem?_eq_getElem hi]; rfl
      have hlen2 : ((v.take i).foldl cutStep []).length ≤ 5000 := by
        have := cutFold_length (v.take i) []
        have : (v.take i).length ≤ 5000 := by rw [List.length_take]; omega
        simp at *; omega
      have hstep : (v.take (i + 1)).foldl cutStep [] = cutStep ((v.take i).foldl cutStep []) v[i] := by rw [ht, List.foldl_append]; rfl
      rw [hstep] at hnx
      generalize hS : (v.take i).foldl cutStep [] = S at *
      have hpu : ∀ u : List Nat, D.pureAll (u.map fun (k : Nat) => D.int (k : Int)) = true := fun u => D.pureAll_of fun x hx => by obtain ⟨k, _, rfl⟩ := List.mem_map.mp hx; rfl
      have hde : ∀ u : List Nat, D.depthAll (u.map fun (k : Nat) => D.int (k : Int)) = 0 := fun u => by induction u with | nil => rfl | cons a u ih => simp [D.depthAll, D.depth, ih]
      have hst' : st.length < st'.length := by
        rcases Nat.lt_or_ge st.length st'.length with h | h
        · exact h
        · rw [List.getElem?_eq_none h] at hl; cases hl
      have hl2 : ∀ r, (st' ++ r)[st.length]? = some (.lst (S.map fun (k : Nat) => D.int (k : Int))) := fun r => by rw [List.getElem?_append_left hst']; exact hl
      rcases nil_or_snoc S with hS0 | ⟨T, j, hS0⟩
      · subst hS0
        have hc : cutStep [] v[i] = [v[i]] := rfl
        rw [hc] at hnx
        have ne : cmpD .ne (.ref st.length) (.ref st'.length) (st' ++ [.lst []]) = some false := by
          simp [cmpD, eqD, hl2, D.pureAll, D.depthAll, D.eqvAll]
        simp [-Bool.exists_bool, ne]
        rw [meth_append (hl2 _)]
        refine ⟨⟨_, hl2 _⟩, by simp, hnx _ _ ⟨?_, ?_, _, rfl⟩⟩
        · exact pre_set (hs.trans (List.prefix_append _ _)) (Nat.le_refl _)
        · rw [get_set (hl2 _)]; simp
      · subst hS0
        have ne : cmpD .ne (.ref st.length) (.ref st'.length) (st' ++ [.lst []]) = some true := by
          simp [cmpD, eqD, hl2, hpu, hde, D.pureAll, D.depthAll, D.eqvAll]
          have e1 := hpu (T ++ [j])
          have e2 := hde (T ++ [j])
          simp at e1 e2
          exact ⟨e1, by omega⟩
        have hq2 : seqD (st' ++ [.lst []]) (.ref st.length) = some ((T ++ [j]).map fun (k : Nat) => D.int (k : Int)) := seq_at (hl2 _)
        simp [-Bool.exists_bool, ne, hq2]
        by_cases hjv : j = v[i]
        · have hc : cutStep (T ++ [j]) v[i] = T := by unfold cutStep; simp [hjv]
          rw [hc] at hnx
          refine ⟨fun _ => ?_, fun h => absurd (by omega) h⟩
          refine ⟨⟨_, hl2 _⟩, ?_⟩
          simp only [methD, hl2]
          refine ⟨.int j, by simp, hnx _ _ ⟨?_, ?_, _, rfl⟩⟩
          · exact pre_set (hs.trans (List.prefix_append _ _)) (Nat.le_refl _)
          · rw [get_set (hl2 _)]; simp
        · have hc : cutStep (T ++ [j]) v[i] = T ++ [j] ++ [v[i]] := by unfold cutStep; simp [hjv]
          rw [hc] at hnx
          refine ⟨fun h => absurd h (by omega), fun _ => ?_⟩
          rw [meth_append (hl2 _)]
          refine ⟨⟨_, hl2 _⟩, by simp at hlen2 ⊢; omega, hnx _ _ ⟨?_, ?_, _, rfl⟩⟩
          · exact pre_set (hs.trans (List.prefix_append _ _)) (Nat.le_refl _)
          · rw [get_set (hl2 _)]; simp
    · simp [hi] at hx
  · obtain ⟨hs, hl, a, rfl⟩ := h
    have e : v.take (v.map fun (k : Nat) => D.int (k : Int)).length = v := by simp
    simp at hl
    simp [-Bool.exists_bool]
    refine ⟨_, seq_at hl, ?_⟩
    refine orP_pure ?_ hs ?_
    · simp only [D.pure]
      exact D.pureAll_of fun x hx => by obtain ⟨k, _, rfl⟩ := List.mem_map.mp hx; rfl
    · simpa [tN, tI, cutL, Function.comp_def] using q
/-! _law_box -/
def con__law_box : Con := fun ds st Q _ => ∃ (g : D) (l : List Int), ds = [g, .int 0] ∧ seqD st g = some (l.map D.int) ∧ 0 < l.length ∧ l.length ≤ 1000 ∧ ∀ st' n, st <+: st' → n = st.length → Tin st' n 0 → Q (.ref n) st'
def F__law_box : Fn := ⟨"_law_box", ["script", "k"], con__law_box⟩
@[simp] theorem F__law_box_con : F__law_box.con = con__law_box := rfl
def N__law_box : List Str := ["script", "k", "bit_so"]
def B__law_box : List S := [.set (.nm 2) (.ife (.cmp .lt (.var 1) (.prim .len [.var 0])) (.ix (.var 0) (.var 1)) (.k (.int 0))),
  .ret (.lst [.bin .mul (.prim .abs [.var 2]) (.prim .int [.cmp .ge (.prim .abs [.var 2]) (.bin .pow (.k (.int 10)) (.k (.int 18)))]), .bin .add (.bin .add (.bin .mod (.prim .int [.var 2]) (.k (.int 2305843009213693951))) (.bin .mul (.k (.int 39373)) (.var 1))) (.k (.int 251520)), .k (.int 0)])]
theorem law__law_box (ds : List D) (st : Store) (Q : Post) (Ex : XPost) (hlen : ds.length = 2) (h : con__law_box ds st Q Ex) : wpSs B__law_box (startD N__law_box ds) st (endF st Q Ex) := by
  obtain ⟨g, l, rfl, hg, h0, h1, q⟩ := h
  simp [-Bool.exists_bool, B__law_box, startD, N__law_box, hg, h0]
  generalize l[0] = x
  have hx : 0 ≤ (if x < 0 then -x else x) := by split <;> omega
  generalize (if x < 0 then -x else x) = y at hx
  have hz : 0 ≤ (if (1000000000000000000 : Int) ≤ y then (1 : Int) else 0) ∧ (if (1000000000000000000 : Int) ≤ y then (1 : Int) else 0) ≤ 1 := by split <;> omega
  generalize (if (1000000000000000000 : Int) ≤ y then (1 : Int) else 0) = z at hz
  have hm1 := Int.emod_nonneg x (show (2305843009213693951 : Int) ≠ 0 by decide)
  have hm2 := Int.emod_lt_of_pos x (show (0 : Int) < 2305843009213693951 by decide)
  refine ⟨⟨by decide, by decide, by decide⟩, mulR (by omega) (by omega), mulR (by decide) (by decide), by decide, .inl ?_⟩
  refine q _ _ (List.prefix_append _ _) rfl ⟨_, _, _, atEnd, Int.mul_nonneg hx hz.1, by omega, by omega, by decide, by decide⟩
/-! _law_take -/
def con__law_take : Con := fun ds st Q _ => ∃ n b c, ds = [.ref n, .int (b : Nat)] ∧ Tin st n c ∧ c ≤ 1000000 ∧ 0 < b ∧ b ≤ 1000000 ∧ ∀ (r : Nat) st', r < b → But n st st' → Tin st' n (c + 1) → Q (.int (r : Nat)) st'
def F__law_take : Fn := ⟨"_law_take", ["tin", "below_so"], con__law_take⟩
@[simp] theorem F__law_take_con : F__law_take.con = con__law_take := rfl
def N__law_take : List Str := ["tin", "below_so", "drawn_so", "once_so", "wide_so", "twice_so"]
def B__law_take : List S := [.ife (.cmp .gt (.ix (.var 0) (.k (.int 0))) (.k (.int 0))) [.set (.nm 2) (.bin .mod (.prim .int [.ix (.var 0) (.k (.int 0))]) (.var 1)), .seti (.var 0) (.k (.int 0)) (.bin .fdiv (.ix (.var 0) (.k (.int 0))) (.var 1)), .ret (.var 2)] [],
  .seti (.var 0) (.k (.int 2)) (.bin .add (.ix (.var 0) (.k (.int 2))) (.k (.int 1))),
  .set (.nm 3) (.bin .mod (.prim .int [.bin .mul (.bin .add (.ix (.var 0) (.k (.int 1))) (.bin .mul (.k (.int 48271)) (.ix (.var 0) (.k (.int 2))))) (.bin .add (.k (.int 39373)) (.ix (.var 0) (.k (.int 2))))]) (.k (.int 2147483647))),
  .set (.nm 4) (.bin .add (.bin .mod (.prim .int [.var 3]) (.k (.int 40009))) (.k (.int 7))),
  .set (.nm 5) (.bin .mod (.prim .int [.bin .mul (.bin .add (.bin .add (.var 3) (.ix (.var 0) (.k (.int 2)))) (.bin .fdiv (.ix (.var 0) (.k (.int 1))) (.k (.int 1000003)))) (.var 4)]) (.k (.int 2147483629))),
  .ret (.bin .mod (.prim .int [.bin .fdiv (.bin .mod (.prim .int [.bin .add (.bin .mul (.var 5) (.k (.int 48271))) (.var 3)]) (.k (.int 2147483587))) (.k (.int 64))]) (.var 1))]
theorem law__law_take (ds : List D) (st : Store) (Q : Post) (Ex : XPost) (hlen : ds.length = 2) (h : con__law_take ds st Q Ex) : wpSs B__law_take (startD N__law_take ds) st (endF st Q Ex) := by
  obtain ⟨n, b, c, rfl, ⟨a0, a1, a2, hs, h0, h1, h2, h3, h4⟩, hc, hb0, hb, q⟩ := h
  have hbi : (b : Int) < bigI := lt_big (by omega)
  have hn : n < st.length := by
    rcases Nat.lt_or_ge n st.length with h | h
    · exact h
    · rw [List.getElem?_eq_none h] at hs; cases hs
  have hseq : seqD st (.ref n) = some [.int a0, .int a1, .int a2] := by simp [seqD, hs]
  have fin : ∀ (a0' a2' x : Int), 0 ≤ a0' → 0 ≤ a2' → a2' ≤ c + 1 → orP st Q (.int (x % b)) (st.set n (.lst [.int a0', .int a1, .int a2'])) := fun a0' a2' x g0 g1 g2 => by
    have k1 : 0 ≤ x % (b : Int) := Int.emod_nonneg _ (by omega)
    have k2 : x % (b : Int) < b := Int.emod_lt_of_pos _ (by omega)
    have e : x % (b : Int) = ((x % (b : Int)).toNat : Int) := by omega
    rw [e]
    exact .inl (q _ _ (by omega) But.set ⟨a0', a1, a2', get_set hs, g0, h1, h2, g1, by push_cast; omega⟩)
  have hs2 := get_set (o' := .lst [.int a0, .int a1, .int (a2 + 1)]) hs
  have hseq2 : seqD (st.set n (.lst [.int a0, .int a1, .int (a2 + 1)])) (.ref n) = some [.int a0, .int a1, .int (a2 + 1)] := by simp only [seqD, hs2]
  simp [-Bool.exists_bool, B__law_take, startD, N__law_take, hseq, hs, hbi, hb0]
  refine ⟨fun ha => fin _ _ _ (Int.ediv_nonneg h0 (by omega)) h3 (by omega), fun ha => ?_⟩
  simp [-Bool.exists_bool, hseq2]
  have big1 : (1000003 : Int) < bigI := lt_big (by decide)
  have big2 : (64 : Int) < bigI := lt_big (by decide)
  refine ⟨mulL (by decide) (by decide), mulR (by omega) (by omega), big1, mulR ?_ ?_, mulR (by decide) (by decide), big2, ?_⟩
  · have := Int.emod_nonneg ((a1 + 48271 * (a2 + 1)) * (39373 + (a2 + 1)) % 2147483647) (show (40009 : Int) ≠ 0 by decide)
    omega
  · have := Int.emod_lt_of_pos ((a1 + 48271 * (a2 + 1)) * (39373 + (a2 + 1)) % 2147483647) (show (0 : Int) < 40009 by decide)
    omega
  · exact ⟨hb0, fin _ (a2 + 1) _ h0 (by omega) (by omega)⟩
/-! _law_cells -/
def con__law_cells : Con := fun ds st Q _ => ∃ (g : Nat) (l : List Int), ds = [.ref g, .int 1] ∧ st[g]? = some (.ro (l.map D.int)) ∧ l.length ≤ 63 ∧ ∀ st' n x, st <+: st' → st'[n]? = some (.lst [.int x]) → Q (.ref n) st'
def F__law_cells : Fn := ⟨"_law_cells", ["script", "most_so"], con__law_cells⟩
@[simp] theorem F__law_cells_con : F__law_cells.con = con__law_cells := rfl
def N__law_cells : List Str := ["script", "most_so", "cells_so", "k", "bit_so", "at_so"]
def B__law_cells : List S := [.set (.nm 2) (.or (.prim .list [.sl (.var 0) none (some (.var 1))]) (.lst [.k (.int 0)])),
  .forr (.nms [3, 4]) .enum [.sl (.var 0) (some (.var 1)) (some (.k (.int 63)))] [.set (.nm 5) (.bin .mod (.prim .int [.var 3]) (.var 1)), .seti (.var 2) (.var 5) (.bin .add (.ix (.var 2) (.var 5)) (.bin .mul (.var 4) (.bin .add (.var 3) (.k (.int 2)))))],
  .ret (.var 2)]
theorem law__law_cells (ds : List D) (st : Store) (Q : Post) (Ex : XPost) (hlen : ds.length = 2) (h : con__law_cells ds st Q Ex) : wpSs B__law_cells (startD N__law_cells ds) st (endF st Q Ex) := by
  obtain ⟨g, l, rfl, hg, h1, q⟩ := h
  obtain ⟨its, hits, hil⟩ := cut_map l (some 1) (some 63)
  have hp : ∀ r : Store, (st ++ r)[g]? = some (.ro (l.map D.int)) := fun r => pre_st (List.prefix_append _ _) hg
  simp [-Bool.exists_bool, B__law_cells, startD, N__law_cells, sl_ro hg]
  cases l with
  | nil =>
    have e : cutD (([] : List Int).map D.int) none (some 1) = [] := rfl
    refine ⟨false, by simp [truthD, cutD], (fun h => Bool.noConfusion h), fun _ => ⟨by decide, ?_⟩⟩
    rw [sl_ro (hp _)]
    refine ⟨_, _, items_enum (l := its.map D.int) (seq_at (by rw [← hits]; simp)), ?_⟩
    refine forN_of (fun i env st' => ∃ x o1 o2 o3, env = [some (.ref g), some (.int 1), some (.ref (st.length + 2)), o1, o2, o3] ∧ st <+: st' ∧ st'[(st.length + 2)]? = some (.lst [.int x]) ∧ seqD st' (.ref (st.length + 3)) = some (its.map D.int)) ⟨_, none, none, none, rfl, by rw [List.append_assoc]; exact List.prefix_append _ _, by simp; rfl, by rw [← hits]; exact seq_at (by simp)⟩ (fun i env st' _ h => ?_) (fun i x env st' next hx h hnx => ?_) (fun env st' h => ?_)
    · obtain ⟨x, o1, o2, o3, _, _, _, h4⟩ := h
      have := gOk_gOf h4
      simpa using this
    · obtain ⟨x0, o1, o2, o3, rfl, h2, h3, h4⟩ := h
      obtain ⟨hi, rfl⟩ := numUp_get hx
      have h5 := seq_at h3
      simp [-Bool.exists_bool, h5, h3, Int.emod_one]
      refine ⟨mulR (by omega) (by omega), hnx _ _ ⟨_, _, _, _, rfl, pre_set h2 (by omega), get_set h3, ?_⟩⟩
      exact seq_but But.set (fun m hm => by cases hm; omega) h4
    · obtain ⟨x0, o1, o2, o3, rfl, h2, h3, h4⟩ := h
      simp
      exact .inl (q _ _ _ h2 h3)
  | cons a l =>
    have e : cutD ((a :: l).map D.int) none (some 1) = [.int a] := cut_take (k := 1)
    refine ⟨true, by rw [e]; simp [truthD], fun _ => ?_, fun h => Bool.noConfusion h⟩
    rw [sl_ro (hp _), e]
    refine ⟨_, _, items_enum (l := its.map D.int) (seq_at (by rw [← hits]; simp)), ?_⟩
    refine forN_of (fun i env st' => ∃ x o1 o2 o3, env = [some (.ref g), some (.int 1), some (.ref (st.length + 1)), o1, o2, o3] ∧ st <+: st' ∧ st'[(st.length + 1)]? = some (.lst [.int x]) ∧ seqD st' (.ref (st.length + 2)) = some (its.map D.int)) ⟨_, none, none, none, rfl, by rw [List.append_assoc]; exact List.prefix_append _ _, by simp; rfl, by rw [← hits]; exact seq_at (by simp)⟩ (fun i env st' _ h => ?_) (fun i x env st' next hx h hnx => ?_) (fun env st' h => ?_)
    · obtain ⟨x, o1, o2, o3, _, _, _, h4⟩ := h
      have := gOk_gOf h4
      simpa using this
    · obtain ⟨x0, o1, o2, o3, rfl, h2, h3, h4⟩ := h
      obtain ⟨hi, rfl⟩ := numUp_get hx
      have h5 := seq_at h3
      simp [-Bool.exists_bool, h5, h3, Int.emod_one]
      refine ⟨mulR (by omega) (by omega), hnx _ _ ⟨_, _, _, _, rfl, pre_set h2 (by omega), get_set h3, ?_⟩⟩
      exact seq_but But.set (fun m hm => by cases hm; omega) h4
    · obtain ⟨x0, o1, o2, o3, rfl, h2, h3, h4⟩ := h
      simp
      exact .inl (q _ _ _ h2 h3)
/-! _law_same -/
def con__law_same (n : Nat) : Con := fun ds st Q _ => ∃ d e, ds = [d, e] ∧ SameD st n d e ∧ Q (.bl true) st
def Fr__law_same (n : Nat) : Fn := ⟨"_law_same", ["got", "due"], con__law_same n⟩
abbrev F__law_same : Fn := Fr__law_same 9
@[simp] theorem Fr__law_same_con (n : Nat) : (Fr__law_same n).con = con__law_same n := rfl
def N__law_same : List Str := ["got", "due", "mine", "its"]
def B__law_same (self : Fn) : List S := [.ife (.prim (.isi .listtuple) [.var 1]) [.ife (.or (.cmp .ne (.prim (.isi .list) [.var 0]) (.prim (.isi .list) [.var 1])) (.cmp .ne (.prim (.isi .tuple) [.var 0]) (.prim (.isi .tuple) [.var 1]))) [.ret (.k (.bl false))] [], .ret (.and (.cmp .eq (.prim .len [.var 0]) (.prim .len [.var 1])) (.tmp (.prim .all [.lc (.nms [2, 3]) .zip [.var 0, .var 1] none (.call self [.var 2, .var 3])])))] [],
  .ife (.isN (.var 1)) [.ret (.isN (.var 0))] [],
  .ife (.prim (.isi .boolstr) [.var 1]) [.ret (.and (.cmp .eq (.prim (.isi .bool) [.var 0]) (.prim (.isi .bool) [.var 1])) (.and (.cmp .eq (.prim (.isi .str) [.var 0]) (.prim (.isi .str) [.var 1])) (.cmp .eq (.var 0) (.var 1))))] [],
  .ret (.and (.prim (.isi .int) [.var 0]) (.and (.not (.prim (.isi .bool) [.var 0])) (.cmp .eq (.var 0) (.var 1))))]
theorem law__law_same (n : Nat) (ds : List D) (st : Store) (Q : Post) (Ex : XPost) (hlen : ds.length = 2) (h : con__law_same (n + 1) ds st Q Ex) : wpSs (B__law_same (Fr__law_same n)) (startD N__law_same ds) st (endF st Q Ex) := by
  obtain ⟨d, e, rfl, hs, q⟩ := h
  cases d <;> cases e <;> simp only [SameD] at hs
  · simp [-Bool.exists_bool, B__law_same, startD, N__law_same]; exact q
  · subst hs; simp [-Bool.exists_bool, B__law_same, startD, N__law_same]; exact q
  · subst hs; simp [-Bool.exists_bool, B__law_same, startD, N__law_same]; exact q
  · obtain ⟨rfl, hp⟩ := hs
    simp [-Bool.exists_bool, B__law_same, startD, N__law_same, cmp_eqP (d := .str _) (e := .str _) hp hp (Nat.zero_le _) (Nat.zero_le _), D.eqv]; exact q
  · obtain ⟨h1, h2, h3⟩ := hs
    simp [-Bool.exists_bool, B__law_same, startD, N__law_same, h1]
    refine wp_zipAll (i := 0) (j := 1) rfl rfl rfl rfl rfl h1 h2 (fun p hp st2 Q Ex hs q => ?_) (by simpa using q)
    simp
    exact ⟨_, _, rfl, (h3 p hp).pre hs, q⟩
  · obtain ⟨l, r, e1, e2, h1, h2, h3⟩ := hs
    have t1 : ∀ {t : Ty} {a : Nat} {l : List D}, seqD st (.ref a) = some l → isTy t (.ref a) st = some (match t with | .list | .listtuple => true | _ => false) := by
      intro t a l h
      simp only [seqD] at h
      simp only [isTy]
      cases q : st[a]? with
      | none => rw [q] at h; cases h
      | some o => rfl
    simp [-Bool.exists_bool, B__law_same, startD, N__law_same, h1, t1 e1, t1 e2, e1, e2]
    refine wp_zipAll (i := 0) (j := 1) rfl rfl e1 e2 rfl h1 h2 (fun p hp st2 Q Ex hs q => ?_) (by simpa using q)
    simp
    exact ⟨_, _, rfl, (h3 p hp).pre hs, q⟩
theorem law__law_same0 (ds : List D) (st : Store) (Q : Post) (Ex : XPost) (hlen : ds.length = 2) (h : con__law_same 0 ds st Q Ex) (self : Fn) : wpSs (B__law_same self) (startD N__law_same ds) st (endF st Q Ex) := by
  obtain ⟨d, e, rfl, hs, q⟩ := h
  cases d <;> cases e <;> simp only [SameD] at hs
  · simp [-Bool.exists_bool, B__law_same, startD, N__law_same]; exact q
  · subst hs; simp [-Bool.exists_bool, B__law_same, startD, N__law_same]; exact q
  · subst hs; simp [-Bool.exists_bool, B__law_same, startD, N__law_same]; exact q
  · obtain ⟨rfl, hp⟩ := hs
    simp [-Bool.exists_bool, B__law_same, startD, N__law_same, cmp_eqP (d := .str _) (e := .str _) hp hp (Nat.zero_le _) (Nat.zero_le _), D.eqv]; exact q
/-! _law_prod -/
def con__law_prod : Con := fun ds st Q _ => ∃ d l, ds = [d] ∧ intsOf st d = some l ∧ Sm l ∧ Q (.int (prodI l)) st
def F__law_prod : Fn := ⟨"_law_prod", ["numbers_so"], con__law_prod⟩
@[simp] theorem F__law_prod_con : F__law_prod.con = con__law_prod := rfl
def N__law_prod : List Str := ["numbers_so", "found", "own"]
def B__law_prod : List S := [.set (.nm 1) (.k (.int 1)),
  .forr (.nm 2) .seq [.var 0] [.set (.nm 1) (.bin .mul (.var 1) (.var 2))],
  .ret (.var 1)]
theorem law__law_prod (ds : List D) (st : Store) (Q : Post) (Ex : XPost) (hlen : ds.length = 1) (h : con__law_prod ds st Q Ex) : wpSs B__law_prod (startD N__law_prod ds) st (endF st Q Ex) := by
  obtain ⟨d, l, h1, h2, ⟨h3, h4⟩, q⟩ := h
  exact law_product_of ds st Q Ex hlen ⟨d, l, h1, h2, h3, h4, q⟩
/-! _law_known -/
def con__law_known : Con := fun ds st Q _ => ds = [] ∧ ∀ st' n, st <+: st' → st.length ≤ n → st'[n]? = some (.lst (knownL.map rowT)) → Q (.ref n) st'
def F__law_known : Fn := ⟨"_law_known", [], con__law_known⟩
@[simp] theorem F__law_known_con : F__law_known.con = con__law_known := rfl
def N__law_known : List Str := ["found"]
def B__law_known : List S := [.set (.nm 0) (.lst [.tup [.tup [.k (.int 1), .k (.int 1), .k (.int 1)], .k (.int 3), .tup [.k (.int 1), .k (.int 1), .k (.int 1)]], .tup [.tup [.k (.int 1), .k (.int 1), .k (.int 1)], .k (.int 1), .tup [.k (.int 3), .k (.int 3), .k (.int 3)]], .tup [.tup [.k (.int 1), .k (.int 1), .k (.int 2)], .k (.int 4), .tup [.k (.int 1), .k (.int 1), .k (.int 1)]], .tup [.tup [.k (.int 1), .k (.int 1), .k (.int 5)], .k (.int 5), .tup [.k (.int 1), .k (.int 2), .k (.int 1)]], .tup [.tup [.k (.int 1), .k (.int 2), .k (.int 3)], .k (.int 6), .tup [.k (.int 1), .k (.int 1), .k (.int 1)]]]),
  .set (.nm 0) (.bin .add (.var 0) (.lst [.tup [.tup [.k (.int 1), .k (.int 2), .k (.int 2)], .k (.int 2), .tup [.k (.int 4), .k (.int 2), .k (.int 2)]], .tup [.tup [.k (.int 2), .k (.int 3), .k (.int 6)], .k (.int 6), .tup [.k (.int 3), .k (.int 2), .k (.int 1)]], .tup [.tup [.k (.int 1), .k (.int 5), .k (.int 5)], .k (.int 5), .tup [.k (.int 5), .k (.int 1), .k (.int 2)]], .tup [.tup [.k (.int 1), .k (.int 9), .k (.int 9)], .k (.int 9), .tup [.k (.int 3), .k (.int 1), .k (.int 1)]], .tup [.tup [.k (.int 12), .k (.int 12), .k (.int 12)], .k (.int 36), .tup [.k (.int 1), .k (.int 1), .k (.int 1)]]])),
  .set (.nm 0) (.bin .add (.var 0) (.lst [.tup [.tup [.k (.int 1), .k (.int 1), .k (.int 1), .k (.int 1)], .k (.int 4), .tup [.k (.int 1), .k (.int 1), .k (.int 1), .k (.int 1)]], .tup [.tup [.k (.int 1), .k (.int 1), .k (.int 1), .k (.int 1)], .k (.int 1), .tup [.k (.int 2), .k (.int 2), .k (.int 2), .k (.int 2)]], .tup [.tup [.k (.int 1), .k (.int 1), .k (.int 1), .k (.int 2)], .k (.int 4), .tup [.k (.int 1), .k (.int 1), .k (.int 2), .k (.int 1)]], .tup [.tup [.k (.int 1), .k (.int 1), .k (.int 1), .k (.int 3)], .k (.int 3), .tup [.k (.int 1), .k (.int 2), .k (.int 2), .k (.int 1)]]])),
  .set (.nm 0) (.bin .add (.var 0) (.lst [.tup [.tup [.k (.int 1), .k (.int 1), .k (.int 2), .k (.int 2)], .k (.int 2), .tup [.k (.int 1), .k (.int 3), .k (.int 2), .k (.int 3)]], .tup [.tup [.k (.int 1), .k (.int 2), .k (.int 6), .k (.int 6)], .k (.int 6), .tup [.k (.int 2), .k (.int 2), .k (.int 1), .k (.int 1)]], .tup [.tup [.k (.int 3), .k (.int 4), .k (.int 12), .k (.int 12)], .k (.int 12), .tup [.k (.int 2), .k (.int 3), .k (.int 1), .k (.int 1)]], .tup [.tup [.k (.int 2), .k (.int 2), .k (.int 5), .k (.int 10)], .k (.int 10), .tup [.k (.int 1), .k (.int 2), .k (.int 2), .k (.int 1)]]])),
  .set (.nm 0) (.bin .add (.var 0) (.lst [.tup [.tup [.k (.int 1), .k (.int 1), .k (.int 1), .k (.int 1), .k (.int 1)], .k (.int 1), .tup [.k (.int 1), .k (.int 1), .k (.int 3), .k (.int 3), .k (.int 4)]], .tup [.tup [.k (.int 1), .k (.int 1), .k (.int 1), .k (.int 1), .k (.int 1)], .k (.int 4), .tup [.k (.int 1), .k (.int 1), .k (.int 1), .k (.int 1), .k (.int 2)]], .tup [.tup [.k (.int 1), .k (.int 1), .k (.int 2), .k (.int 2), .k (.int 2)], .k (.int 2), .tup [.k (.int 2), .k (.int 4), .k (.int 1), .k (.int 1), .k (.int 2)]], .tup [.tup [.k (.int 1), .k (.int 1), .k (.int 5), .k (.int 5), .k (.int 5)], .k (.int 5), .tup [.k (.int 1), .k (.int 7), .k (.int 1), .k (.int 1), .k (.int 3)]]])),
  .set (.nm 0) (.bin .add (.var 0) (.lst [.tup [.tup [.k (.int 1), .k (.int 1), .k (.int 1), .k (.int 1), .k (.int 1), .k (.int 1)], .k (.int 3), .tup [.k (.int 1), .k (.int 1), .k (.int 1), .k (.int 1), .k (.int 2), .k (.int 2)]], .tup [.tup [.k (.int 1), .k (.int 1), .k (.int 1), .k (.int 1), .k (.int 1), .k (.int 1)], .k (.int 6), .tup [.k (.int 1), .k (.int 1), .k (.int 1), .k (.int 1), .k (.int 1), .k (.int 1)]], .tup [.tup [.k (.int 1), .k (.int 1), .k (.int 1), .k (.int 1), .k (.int 2), .k (.int 2)], .k (.int 2), .tup [.k (.int 1), .k (.int 1), .k (.int 2), .k (.int 4), .k (.int 1), .k (.int 2)]]])),
  .ret (.bin .add (.var 0) (.lst [.tup [.tup [.k (.int 2), .k (.int 2), .k (.int 2), .k (.int 3), .k (.int 3), .k (.int 3)], .k (.int 12), .tup [.k (.int 1), .k (.int 1), .k (.int 1), .k (.int 1), .k (.int 1), .k (.int 2)]], .tup [.tup [.k (.int 1), .k (.int 2), .k (.int 2), .k (.int 3), .k (.int 3), .k (.int 3)], .k (.int 6), .tup [.k (.int 1), .k (.int 1), .k (.int 3), .k (.int 1), .k (.int 1), .k (.int 3)]]]))]
theorem law__law_known (ds : List D) (st : Store) (Q : Post) (Ex : XPost) (hlen : ds.length = 0) (h : con__law_known ds st Q Ex) : wpSs B__law_known (startD N__law_known ds) st (endF st Q Ex) := by
  obtain ⟨rfl, q⟩ := h
  have l3 : 3 ≤ line := by decide
  have l4 : 4 ≤ line := by decide
  have l5 : 5 ≤ line := by decide
  have l6 : 6 ≤ line := by decide
  have l2 : 2 ≤ line := by decide
  simp [-Bool.exists_bool, B__law_known, startD, N__law_known, bin_addL, l2, l3, l4, l5, l6]
  refine ⟨by decide, by decide, by decide, by decide, by decide, by decide, .inl (q _ _ (List.prefix_append _ _) (by omega) ?_)⟩
  simp [knownL, rowT, tI]
/-! is_within -/
def con_is_within : Con := fun ds st Q _ => ∃ d a b, ds = [d, .int a, .int b] ∧ D.pure d = true ∧ Q (.bl (match d with | .int i => decide (a ≤ i) && decide (i ≤ b) | _ => false)) st
def F_is_within : Fn := ⟨"is_within", ["thing", "least", "most"], con_is_within⟩
@[simp] theorem F_is_within_con : F_is_within.con = con_is_within := rfl
def N_is_within : List Str := ["thing", "least", "most"]
def B_is_within : List S := [.ret (.and (.call F_is_number [.var 0]) (.chain .le .le (.var 1) (.var 0) (.var 2)))]
theorem law_is_within (ds : List D) (st : Store) (Q : Post) (Ex : XPost) (hlen : ds.length = 3) (h : con_is_within ds st Q Ex) : wpSs B_is_within (startD N_is_within ds) st (endF st Q Ex) := by
  obtain ⟨d, a, b, rfl, hp, q⟩ := h
  simp [-Bool.exists_bool, B_is_within, startD, N_is_within]
  refine ⟨d, rfl, hp, ?_⟩
  cases d <;> simp [-Bool.exists_bool, isIntD] at q ⊢ <;> try exact q
  rename_i i
  by_cases h1 : a ≤ i
  · have h2 : ¬ i < a := by omega
    simp [-Bool.exists_bool, h1, h2] at q ⊢
    exact q
  · have h2 : i < a := by omega
    simp [-Bool.exists_bool, h1, h2] at q ⊢
    exact q
/-! are_numbers -/
def con_are_numbers : Con := fun ds st Q _ => ∃ d, ds = [d] ∧ D.pure d = true ∧ (∀ l, d = .tup l → l.length ≤ line) ∧ Q (.bl (match d with | .tup l => l.all isIntD | _ => false)) st
def F_are_numbers : Fn := ⟨"are_numbers", ["thing"], con_are_numbers⟩
@[simp] theorem F_are_numbers_con : F_are_numbers.con = con_are_numbers := rfl
def N_are_numbers : List Str := ["thing", "own"]
def B_are_numbers : List S := [.ret (.and (.prim (.isi .tuple) [.var 0]) (.tmp (.prim .all [.lc (.nm 1) .seq [.var 0] none (.call F_is_number [.var 1])])))]
theorem law_are_numbers (ds : List D) (st : Store) (Q : Post) (Ex : XPost) (hlen : ds.length = 1) (h : con_are_numbers ds st Q Ex) : wpSs B_are_numbers (startD N_are_numbers ds) st (endF st Q Ex) := by
  obtain ⟨d, rfl, hp, hl, q⟩ := h
  simp [-Bool.exists_bool, B_are_numbers, startD, N_are_numbers]
  cases d <;> simp [-Bool.exists_bool, D.pure] at hp hl q ⊢ <;> try exact q
  rename_i l
  refine wp_all (ds := [.tup l]) (l := l) (g := []) isIntD (fun _ => true) (fun Q Ex h => by simpa using h) rfl gOk_nil hl (fun x hx => ⟨_, fun P h => h, givesC_none, fun _ st2 Q Ex hs h => ?_⟩) (by simpa [filter_true] using q)
  simp
  exact ⟨x, rfl, pureAll_mem hp x hx, h⟩
/-! sides_in -/
def con_sides_in : Con := fun ds st Q _ => ∃ w m l, ds = [eqT w m, tI l] ∧ Sm w ∧ Sm l ∧ m.natAbs < 2 ^ 4000 ∧ Q (.tup [.int (shI w l).sum, .int (m * prodI l)]) st
def F_sides_in : Fn := ⟨"sides_in", ["equation", "numbers"], con_sides_in⟩
@[simp] theorem F_sides_in_con : F_sides_in.con = con_sides_in := rfl
def N_sides_in : List Str := ["equation", "numbers"]
def B_sides_in : List S := [.ret (.tup [.prim .sum [.call F_shares_in [.var 0, .var 1]], .bin .mul (.ix (.var 0) (.k (.int 1))) (.call F_product_of [.var 1])])]
theorem law_sides_in (ds : List D) (st : Store) (Q : Post) (Ex : XPost) (hlen : ds.length = 2) (h : con_sides_in ds st Q Ex) : wpSs B_sides_in (startD N_sides_in ds) st (endF st Q Ex) := by
  obtain ⟨w, m, l, rfl, hw, hl, hm, q⟩ := h
  simp [B_sides_in, startD, N_sides_in]
  refine ⟨w, m, l, rfl, hw, hl, ?_⟩
  simp [intsOf_tI, eqT]
  refine ⟨_, _, rfl, intsOf_tI _ _, hl.1, hl.2, ?_⟩
  simp []
  refine ⟨mulOk_of hm (prodI_bound l 1 4000 1 hl.2 (by decide)) ?_, by decide, q⟩
  have := hl.1
  have h2 : 4000 * l.length ≤ 4000 * 100 := Nat.mul_le_mul_left _ this
  omega
/-! rest_flipped -/
def con_rest_flipped : Con := fun ds st Q _ => ∃ w m u r k, ds = [eqT w m, .int u, tI r, .int (k : Nat)] ∧ w.length = r.length ∧ k < r.length ∧ (∀ x ∈ w, 1 ≤ x ∧ x ≤ 12) ∧ Sm r ∧ 0 ≤ m ∧ m ≤ 60 ∧ 0 < u ∧ Q (tI (rfI w m u r k)) st
def F_rest_flipped : Fn := ⟨"rest_flipped", ["equation", "modulus", "row", "place"], con_rest_flipped⟩
@[simp] theorem F_rest_flipped_con : F_rest_flipped.con = con_rest_flipped := rfl
def N_rest_flipped : List Str := ["equation", "modulus", "row", "place", "beside", "goal"]
def B_rest_flipped : List S := [.set (.nm 4) (.call F_product_of [.bin .add (.sl (.var 2) none (some (.var 3))) (.sl (.var 2) (some (.bin .add (.var 3) (.k (.int 1)))) none)]),
  .set (.nm 5) (.bin .mod (.bin .sub (.bin .mul (.bin .fdiv (.ix (.var 0) (.k (.int 1))) (.ix (.ix (.var 0) (.k (.int 0))) (.var 3))) (.var 4)) (.ix (.var 2) (.var 3))) (.var 1)),
  .ret (.bin .add (.bin .add (.sl (.var 2) none (some (.var 3))) (.tup [.var 5])) (.sl (.var 2) (some (.bin .add (.var 3) (.k (.int 1)))) none))]
theorem law_rest_flipped (ds : List D) (st : Store) (Q : Post) (Ex : XPost) (hlen : ds.length = 4) (h : con_rest_flipped ds st Q Ex) : wpSs B_rest_flipped (startD N_rest_flipped ds) st (endF st Q Ex) := by
  obtain ⟨w, m, u, l, k, rfl, hwl, hk, hw, hl, hm0, hm, hu, q⟩ := h
  have e1 : cutD (l.map D.int) none (some (k : Int)) = (l.take k).map D.int := by rw [cut_take, List.map_take]
  have e2 : cutD (l.map D.int) (some ((k : Int) + 1)) none = (l.drop (k + 1)).map D.int := by
    have := cut_drop (l := l.map D.int) (k := k + 1)
    rw [List.map_drop, ← this]; rfl
  have hll : l.length ≤ 100 := hl.1
  have hlen2 : (l.take k).length + (l.drop (k + 1)).length ≤ 100 := by rw [List.length_take, List.length_drop]; omega
  have hlin : (line : Nat) = 1000000 := rfl
  have hkw : k < w.length := by omega
  have hwk := hw _ (List.getElem_mem hkw)
  have hsm : ∀ x ∈ l.take k ++ l.drop (k + 1), x.natAbs < 2 ^ 4000 := fun x hx => by
    rcases List.mem_append.mp hx with h | h
    · exact hl.2 x (List.mem_of_mem_take h)
    · exact hl.2 x (List.mem_of_mem_drop h)
  simp [B_rest_flipped, startD, N_rest_flipped, tI, e1, e2]
  refine ⟨by simp only [List.length_take, List.length_drop] at hlen2; omega, _, l.take k ++ l.drop (k + 1), rfl, ?_, by rw [List.length_append]; omega, hsm, ?_⟩
  · rw [← List.map_drop, ← List.map_take, ← List.map_append]
    exact intsOf_tI _ _
  have g1 : flG w m l k = m / w[k] * prodI (l.take k ++ l.drop (k + 1)) - l[k] := by simp [flG, hkw, hk]
  have hdiv : (m / w[k]).natAbs < 2 ^ 4000 := by
    have h0 : 0 ≤ m / w[k] := Int.ediv_nonneg hm0 (by omega)
    have h1 : m / w[k] ≤ m := Int.ediv_le_self _ hm0
    have h2 : (m / w[k]).natAbs < 2 ^ 6 := by omega
    exact Nat.lt_trans h2 (Nat.pow_lt_pow_right (by decide) (by decide))
  have h4 : 1 + 4000 * (l.take k ++ l.drop (k + 1)).length + 4000 + 2 ≤ 1000000 := by
    rw [List.length_append]
    have h2 := Nat.mul_le_mul_left 4000 hlen2
    omega
  have hmu : MulOk (m / w[k]) (prodI (l.take k ++ l.drop (k + 1))) := mulOk_of hdiv (prodI_bound _ 1 4000 1 hsm (by decide)) (by omega)
  simp [-Bool.exists_bool, hkw, hk, hmu, hu]
  have hb := lt_big (j := w[k]) (by omega)
  refine ⟨by omega, hb, by omega, by omega, by omega, ?_⟩
  simpa [tI, rfI, g1] using q
/-! flipped_in -/
def con_flipped_in : Con := fun ds st Q _ => ∃ w m l k, ds = [eqT w m, tI l, .int (k : Nat)] ∧ w.length = l.length ∧ k < l.length ∧ (∀ x ∈ w, 1 ≤ x ∧ x ≤ 12) ∧ Sm l ∧ 0 ≤ m ∧ m ≤ 60 ∧ flG w m l k < BN ∧ Q (tI (flI w m l k)) st
def F_flipped_in : Fn := ⟨"flipped_in", ["equation", "solution", "place"], con_flipped_in⟩
@[simp] theorem F_flipped_in_con : F_flipped_in.con = con_flipped_in := rfl
def N_flipped_in : List Str := ["equation", "solution", "place", "beside", "goal"]
def B_flipped_in : List S := [.set (.nm 3) (.call F_product_of [.bin .add (.sl (.var 1) none (some (.var 2))) (.sl (.var 1) (some (.bin .add (.var 2) (.k (.int 1)))) none)]),
  .set (.nm 4) (.bin .sub (.bin .mul (.bin .fdiv (.ix (.var 0) (.k (.int 1))) (.ix (.ix (.var 0) (.k (.int 0))) (.var 2))) (.var 3)) (.ix (.var 1) (.var 2))),
  .ife (.cmp .ge (.var 4) (.glob "BELOW_NUMBER" BN)) [.raise .tooMany] [],
  .ret (.bin .add (.bin .add (.sl (.var 1) none (some (.var 2))) (.tup [.var 4])) (.sl (.var 1) (some (.bin .add (.var 2) (.k (.int 1)))) none))]
theorem law_flipped_in (ds : List D) (st : Store) (Q : Post) (Ex : XPost) (hlen : ds.length = 3) (h : con_flipped_in ds st Q Ex) : wpSs B_flipped_in (startD N_flipped_in ds) st (endF st Q Ex) := by
  obtain ⟨w, m, l, k, rfl, hwl, hk, hw, hl, hm0, hm, hg, q⟩ := h
  have e1 : cutD (l.map D.int) none (some (k : Int)) = (l.take k).map D.int := by rw [cut_take, List.map_take]
  have e2 : cutD (l.map D.int) (some ((k : Int) + 1)) none = (l.drop (k + 1)).map D.int := by
    have := cut_drop (l := l.map D.int) (k := k + 1)
    rw [List.map_drop, ← this]; rfl
  have hll : l.length ≤ 100 := hl.1
  have hlen2 : (l.take k).length + (l.drop (k + 1)).length ≤ 100 := by rw [List.length_take, List.length_drop]; omega
  have hlin : (line : Nat) = 1000000 := rfl
  have hkw : k < w.length := by omega
  have hwk := hw _ (List.getElem_mem hkw)
  have hsm : ∀ x ∈ l.take k ++ l.drop (k + 1), x.natAbs < 2 ^ 4000 := fun x hx => by
    rcases List.mem_append.mp hx with h | h
    · exact hl.2 x (List.mem_of_mem_take h)
    · exact hl.2 x (List.mem_of_mem_drop h)
  simp [B_flipped_in, startD, N_flipped_in, tI, e1, e2]
  refine ⟨by simp only [List.length_take, List.length_drop] at hlen2; omega, _, l.take k ++ l.drop (k + 1), rfl, ?_, by rw [List.length_append]; omega, hsm, ?_⟩
  · rw [← List.map_drop, ← List.map_take, ← List.map_append]
    exact intsOf_tI _ _
  have g1 : flG w m l k = m / w[k] * prodI (l.take k ++ l.drop (k + 1)) - l[k] := by simp [flG, hkw, hk]
  have hdiv : (m / w[k]).natAbs < 2 ^ 4000 := by
    have h0 : 0 ≤ m / w[k] := Int.ediv_nonneg hm0 (by omega)
    have h1 : m / w[k] ≤ m := Int.ediv_le_self _ hm0
    have h2 : (m / w[k]).natAbs < 2 ^ 6 := by omega
    exact Nat.lt_trans h2 (Nat.pow_lt_pow_right (by decide) (by decide))
  have hlt : ¬ BN ≤ flG w m l k := by omega
  have h4 : 1 + 4000 * (l.take k ++ l.drop (k + 1)).length + 4000 + 2 ≤ 1000000 := by
    rw [List.length_append]
    have h2 := Nat.mul_le_mul_left 4000 hlen2
    omega
  have hmu : MulOk (m / w[k]) (prodI (l.take k ++ l.drop (k + 1))) := mulOk_of hdiv (prodI_bound _ 1 4000 1 hsm (by decide)) (by omega)
  rw [g1] at hlt
  simp [-Bool.exists_bool, hkw, hk, hmu, hlt]
  have hb := lt_big (j := w[k]) (by omega)
  refine ⟨by omega, hb, by decide, by omega, by omega, ?_⟩
  simpa [tI, flI, g1] using q
/-! table_power -/
def con_table_power : Con := fun ds st Q _ => ∃ x u t, ds = [tM x, .int (t : Nat), .int u] ∧ Bd x ∧ 2 ≤ u ∧ u ≤ 1000 ∧ t ≤ 10 ^ 18 ∧ Q (tM ((x.pw t).red u)) st
theorem red_bd {x : M2} {u : Int} (hu : 0 < u) (hu2 : u ≤ 1000) : Bd (x.red u) := by
  have h : ∀ z : Int, (z % u).natAbs < 2 ^ 400000 := fun z => by
    have h1 := Int.emod_nonneg z (show u ≠ 0 by omega)
    have h2 := Int.emod_lt_of_pos z hu
    have h3 : (z % u).natAbs < 2 ^ 10 := by show _ < 1024; omega
    exact Nat.lt_of_lt_of_le h3 (Nat.pow_le_pow_right (by decide) (by decide))
  exact ⟨h _, h _, h _, h _⟩
theorem one_bd : Bd .one := ⟨Nat.one_lt_two_pow (by decide), Nat.two_pow_pos _, Nat.two_pow_pos _, Nat.one_lt_two_pow (by decide)⟩
def F_table_power : Fn := ⟨"table_power", ["table", "often", "modulus"], con_table_power⟩
@[simp] theorem F_table_power_con : F_table_power.con = con_table_power := rfl
def N_table_power : List Str := ["table", "often", "modulus", "found", "here", "left"]
def B_table_power : List S := [.par [3, 4, 5] [.tup [.tup [.bin .mod (.k (.int 1)) (.var 2), .k (.int 0)], .tup [.k (.int 0), .bin .mod (.k (.int 1)) (.var 2)]], .call F_table_times [.tup [.tup [.k (.int 1), .k (.int 0)], .tup [.k (.int 0), .k (.int 1)]], .var 0, .var 2], .var 1],
  .while (.cmp .gt (.var 5) (.k (.int 0))) [.ife (.cmp .eq (.bin .mod (.var 5) (.k (.int 2))) (.k (.int 1))) [.set (.nm 3) (.call F_table_times [.var 3, .var 4, .var 2])] [], .par [4, 5] [.call F_table_times [.var 4, .var 4, .var 2], .bin .fdiv (.var 5) (.k (.int 2))]],
  .ret (.var 3)]
theorem law_table_power (ds : List D) (st : Store) (Q : Post) (Ex : XPost) (hlen : ds.length = 3) (h : con_table_power ds st Q Ex) : wpSs B_table_power (startD N_table_power ds) st (endF st Q Ex) := by
  obtain ⟨x, u, t, rfl, hx, hu1, hu2, ht, q⟩ := h
  have hl : 2 ≤ line := by decide
  have hu : 0 < u := by omega
  have e1 : (1 : Int) % u = 1 := Int.emod_eq_of_lt (by decide) (by omega)
  simp [-Bool.exists_bool, B_table_power, startD, N_table_power, hl, hu]
  refine ⟨.one, x, u, rfl, one_bd, hx, hu, 61, ?_⟩
  rw [M2.one_mul]
  have e2 : D.tup [.tup [.int (1 % u), .int 0], .tup [.int 0, .int (1 % u)]] = tM ((x.pw 0).red u) := by
    simp [tM, tI, M2.pw, M2.red, M2.one]
  rw [e2]
  refine loopN_of (fun j env st' => st' = st ∧ ∃ a b left : Nat, env = [some (tM x), some (.int (t : Nat)), some (.int u), some (tM ((x.pw a).red u)), some (tM ((x.pw b).red u)), some (.int (left : Nat))] ∧ a + b * left = t ∧ left * 2 ^ j ≤ t) 60 0
    ⟨rfl, 0, 1, t, ?_, by omega, by omega⟩ (fun j env st' next h hn => ?_)
  · have : x.pw 1 = x := M2.one_mul x
    rw [this]
  · obtain ⟨rfl, a, b, left, rfl, hab, hle⟩ := h
    by_cases h0 : left = 0
    · subst h0
      simp [-Bool.exists_bool]
      have : a = t := by omega
      subst this
      exact q
    · have hpos : 0 < left := by omega
      have hj : j < 60 := by
        rcases Nat.lt_or_ge j 60 with h | h
        · exact h
        · exfalso
          have h1 : 2 ^ 60 ≤ 2 ^ j := Nat.pow_le_pow_right (by decide) h
          have h2 : 1 * 2 ^ j ≤ left * 2 ^ j := Nat.mul_le_mul_right _ hpos
          have h3 : (10 : Nat) ^ 18 < 2 ^ 60 := by decide
          omega
      have nx := hn (by omega)
      have hbb : ∀ y : M2, Bd (y.red u) := fun y => red_bd hu hu2
      have half : left / 2 * 2 ^ (j + 1) ≤ t := by
        have : left / 2 * 2 ≤ left := Nat.div_mul_le_self _ _
        have h2 : left / 2 * 2 * 2 ^ j ≤ left * 2 ^ j := Nat.mul_le_mul_right _ this
        rw [Nat.pow_succ, Nat.mul_comm (2 ^ j) 2, ← Nat.mul_assoc]
        omega
      have hb2 : ((x.pw b).red u).mul ((x.pw b).red u) = ((x.pw b).red u).mul ((x.pw b).red u) := rfl
      have ediv : ((left : Nat) : Int) / 2 = ((left / 2 : Nat) : Int) := by omega
      have big2 : (2 : Int) < bigI := lt_big (by decide)
      simp [-Bool.exists_bool, hpos, big2]
      refine ⟨fun hodd => ?_, fun heven => ?_⟩
      · refine ⟨_, _, u, rfl, hbb _, hbb _, hu, _, _, u, rfl, hbb _, hbb _, hu, ?_⟩
        rw [M2.red_mul, M2.red_mul, ← M2.pw_add, ← M2.pw_add, ediv]
        refine nx _ _ ⟨rfl, a + b, b + b, left / 2, rfl, ?_, half⟩
        have : left = 2 * (left / 2) + 1 := by omega
        rw [← hab]
        generalize left / 2 = z at *
        subst this
        grind
      · refine ⟨_, _, u, rfl, hbb _, hbb _, hu, ?_⟩
        rw [M2.red_mul, ← M2.pw_add, ediv]
        refine nx _ _ ⟨rfl, a, b + b, left / 2, rfl, ?_, half⟩
        have : left = 2 * (left / 2) := by omega
        rw [← hab]
        generalize left / 2 = z at *
        subst this
        grind
/-! _law_of -/
def con__law_of : Con := fun ds st Q _ => ∃ n g l c, ds = [.ref n, g] ∧ Tin st n c ∧ c < 1000000 ∧ seqD st g = some l ∧ (∀ m, g = .ref m → m ≠ n) ∧ 0 < l.length ∧ l.length ≤ 1000000 ∧ ∀ x st', x ∈ l → But n st st' → Tin st' n (c + 1) → Q x st'
def F__law_of : Fn := ⟨"_law_of", ["tin", "goods_so"], con__law_of⟩
@[simp] theorem F__law_of_con : F__law_of.con = con__law_of := rfl
def N__law_of : List Str := ["tin", "goods_so"]
def B__law_of : List S := [.ret (.ix (.var 1) (.call F__law_take [.var 0, .prim .len [.var 1]]))]
theorem law__law_of (ds : List D) (st : Store) (Q : Post) (Ex : XPost) (hlen : ds.length = 2) (h : con__law_of ds st Q Ex) : wpSs B__law_of (startD N__law_of ds) st (endF st Q Ex) := by
  obtain ⟨n, g, l, c, rfl, ht, hc, hg, hm, h0, h1, q⟩ := h
  simp [-Bool.exists_bool, B__law_of, startD, N__law_of, hg]
  refine ⟨n, l.length, c, rfl, ht, by omega, h0, h1, fun r st' hr hb ht' => ?_⟩
  simp [-Bool.exists_bool]
  rw [seq_but hb hm hg]
  simp [-Bool.exists_bool, hr]
  exact .inl (q _ _ (List.getElem_mem hr) hb ht')
/-! _law_pick -/
def con__law_pick : Con := fun ds st Q _ => ∃ n g l k c, ds = [.ref n, g, .int (k : Nat)] ∧ Tin st n c ∧ c + k < 1000000 ∧ seqD st g = some l ∧ l.length ≤ 1000 ∧ (∀ m, g = .ref m → m ≠ n) ∧
  ∀ found rest st' a, (found ++ rest).Perm l → found.length = min k l.length → But n st st' → Tin st' n (c + k) → st.length ≤ a → st'[a]? = some (.lst found) → Q (.ref a) st'
def F__law_pick : Fn := ⟨"_law_pick", ["tin", "goods_so", "count_so"], con__law_pick⟩
@[simp] theorem F__law_pick_con : F__law_pick.con = con__law_pick := rfl
def N__law_pick : List Str := ["tin", "goods_so", "count_so", "pool_so", "found", "lap"]
def B__law_pick : List S := [.par [3, 4] [.prim .list [.var 1], .lst []],
  .forr (.nm 5) .range1 [.prim .min2 [.prim .int [.var 2], .prim .len [.var 3]]] [.expr (.meth .append (.var 4) [.meth .popat (.var 3) [.call F__law_take [.var 0, .prim .len [.var 3]]]])],
  .ret (.var 4)]
theorem law__law_pick (ds : List D) (st : Store) (Q : Post) (Ex : XPost) (hlen : ds.length = 3) (h : con__law_pick ds st Q Ex) : wpSs B__law_pick (startD N__law_pick ds) st (endF st Q Ex) := by
  obtain ⟨n, g, l, k, c, rfl, ht, hc, hg, hl, hgn, q⟩ := h
  simp [-Bool.exists_bool, B__law_pick, startD, N__law_pick, hg]
  have hmin : (if l.length < k then (l.length : Int) else (k : Int)) = ((min k l.length : Nat) : Int) := by split <;> omega
  refine ⟨l, by simp [seqD], _, _, by rw [hmin]; exact items_range1 (by show _ ≤ 1000000; omega), ?_⟩
  refine forN_of (fun i env st' => i ≤ min k l.length ∧ ∃ pool found o, env = [some (.ref n), some g, some (.int k), some (.ref st.length), some (.ref (st.length + 1)), o] ∧ (found ++ pool).Perm l ∧ found.length = i ∧ But n st st' ∧ Tin st' n (c + i) ∧ st'[st.length]? = some (.lst pool) ∧ st'[st.length + 1]? = some (.lst found))
    ⟨Nat.zero_le _, l, [], none, rfl, by simp, rfl, But.pre (List.prefix_append _ _), (ht.pre (List.prefix_append _ _)), by simp, by simp⟩ (fun i env st' _ h => gOk_nil) (fun i x env st' next hx h hnx => ?_) (fun env st' h => ?_)
  · obtain ⟨_, pool, found, o, rfl, hp, hf, hb, ht', h1, h2⟩ := h
    by_cases hi : i < min k l.length
    · simp [hi] at hx
      subst hx
      have hpl : pool.length = l.length - i := by have := hp.length_eq; rw [List.length_append] at this; omega
      simp [-Bool.exists_bool, h1, h2, seq_at h1]
      refine ⟨n, pool.length, c + i, rfl, ht', by omega, by omega, by omega, fun r st2 hr hb2 ht2 => ?_⟩
      have hn := ht.lt
      have g1 := hb2.2 _ _ (show st.length ≠ n by omega) h1
      have g2 := hb2.2 _ _ (show st.length + 1 ≠ n by omega) h2
      refine meth_popat g1 (List.getElem?_eq_getElem hr) (by show r < 1000000; omega) ?_
      have g3 : (st2.set st.length (.lst (pool.eraseIdx r)))[st.length + 1]? = some (.lst found) := by rw [List.getElem?_set_ne (by omega)]; exact g2
      rw [meth_append g3]
      refine ⟨by show _ < 1000000; omega, hnx _ _ ⟨by omega, pool.eraseIdx r, found ++ [pool[r]], _, rfl, ?_, by simp [hf], ?_, ?_, ?_, ?_⟩⟩
      · refine List.Perm.trans ?_ hp
        rw [List.append_assoc]
        exact List.Perm.append_left _ (perm_erase hr)
      · refine ⟨by have := hb.1; have := hb2.1; simp; omega, fun k' o' hk he => ?_⟩
        have hlt : k' < st.length := by
          rcases Nat.lt_or_ge k' st.length with q' | q'
          · exact q'
          · rw [List.getElem?_eq_none q'] at he; cases he
        rw [List.getElem?_set_ne (by omega), List.getElem?_set_ne (by omega)]
        exact hb2.2 _ _ hk (hb.2 _ _ hk he)
      · obtain ⟨b0, b1, b2, e, r⟩ := ht2
        exact ⟨b0, b1, b2, by rw [List.getElem?_set_ne (by omega), List.getElem?_set_ne (by omega)]; exact e, by simpa [Nat.add_assoc] using r⟩
      · rw [List.getElem?_set_ne (by omega)]; exact get_set g1
      · exact get_set g3
    · simp [hi] at hx
  · obtain ⟨_, pool, found, o, rfl, hp, hf, hb, ht', h1, h2⟩ := h
    rw [List.length_map, List.length_range] at hf ht'
    simp
    exact .inl (q found pool _ _ hp hf hb (ht'.mono (by omega)) (by omega) h2)
/-! _law_flip -/
def con__law_flip : Con := fun ds st Q _ => ∃ w m l k, ds = [eqT w m, tI l, .int (k : Nat)] ∧ w.length = l.length ∧ k < l.length ∧ (∀ x ∈ w, 1 ≤ x ∧ x ≤ 12) ∧ Sm l ∧ 0 ≤ m ∧ m ≤ 60 ∧ Q (tI (flI w m l k)) st
def F__law_flip : Fn := ⟨"_law_flip", ["told_so", "numbers_so", "place_so"], con__law_flip⟩
@[simp] theorem F__law_flip_con : F__law_flip.con = con__law_flip := rfl
def N__law_flip : List Str := ["told_so", "numbers_so", "place_so", "beside_so"]
def B__law_flip : List S := [.set (.nm 3) (.call F__law_prod [.bin .add (.sl (.var 1) none (some (.var 2))) (.sl (.var 1) (some (.bin .add (.var 2) (.k (.int 1)))) none)]),
  .ret (.bin .add (.bin .add (.sl (.var 1) none (some (.var 2))) (.tup [.bin .sub (.bin .mul (.bin .fdiv (.ix (.var 0) (.k (.int 1))) (.ix (.ix (.var 0) (.k (.int 0))) (.var 2))) (.var 3)) (.ix (.var 1) (.var 2))])) (.sl (.var 1) (some (.bin .add (.var 2) (.k (.int 1)))) none))]
theorem law__law_flip (ds : List D) (st : Store) (Q : Post) (Ex : XPost) (hlen : ds.length = 3) (h : con__law_flip ds st Q Ex) : wpSs B__law_flip (startD N__law_flip ds) st (endF st Q Ex) := by
  obtain ⟨w, m, l, k, rfl, hwl, hk, hw, hl, hm0, hm, q⟩ := h
  have e1 : cutD (l.map D.int) none (some (k : Int)) = (l.take k).map D.int := by rw [cut_take, List.map_take]
  have e2 : cutD (l.map D.int) (some ((k : Int) + 1)) none = (l.drop (k + 1)).map D.int := by
    have := cut_drop (l := l.map D.int) (k := k + 1)
    rw [List.map_drop, ← this]; rfl
  have hll : l.length ≤ 100 := hl.1
  have hlen2 : (l.take k).length + (l.drop (k + 1)).length ≤ 100 := by rw [List.length_take, List.length_drop]; omega
  have hlin : (line : Nat) = 1000000 := rfl
  have hkw : k < w.length := by omega
  have hwk := hw _ (List.getElem_mem hkw)
  have hsm : ∀ x ∈ l.take k ++ l.drop (k + 1), x.natAbs < 2 ^ 4000 := fun x hx => by
    rcases List.mem_append.mp hx with h | h
    · exact hl.2 x (List.mem_of_mem_take h)
    · exact hl.2 x (List.mem_of_mem_drop h)
  simp [B__law_flip, startD, N__law_flip, tI, e1, e2]
  refine ⟨by simp only [List.length_take, List.length_drop] at hlen2; omega, _, l.take k ++ l.drop (k + 1), rfl, ?_, ⟨by rw [List.length_append]; omega, hsm⟩, ?_⟩
  · rw [← List.map_drop, ← List.map_take, ← List.map_append]
    exact intsOf_tI _ _
  have g1 : flG w m l k = m / w[k] * prodI (l.take k ++ l.drop (k + 1)) - l[k] := by simp [flG, hkw, hk]
  have hdiv : (m / w[k]).natAbs < 2 ^ 4000 := by
    have h0 : 0 ≤ m / w[k] := Int.ediv_nonneg hm0 (by omega)
    have h1 : m / w[k] ≤ m := Int.ediv_le_self _ hm0
    have h2 : (m / w[k]).natAbs < 2 ^ 6 := by omega
    exact Nat.lt_trans h2 (Nat.pow_lt_pow_right (by decide) (by decide))
  have h4 : 1 + 4000 * (l.take k ++ l.drop (k + 1)).length + 4000 + 2 ≤ 1000000 := by
    rw [List.length_append]
    have h2 := Nat.mul_le_mul_left 4000 hlen2
    omega
  have hmu : MulOk (m / w[k]) (prodI (l.take k ++ l.drop (k + 1))) := mulOk_of hdiv (prodI_bound _ 1 4000 1 hsm (by decide)) (by omega)
  simp [-Bool.exists_bool, hkw, hk, hmu]
  have hb := lt_big (j := w[k]) (by omega)
  refine ⟨by omega, hb, by decide, by omega, by omega, ?_⟩
  simpa [tI, flI, g1] using q
/-! sure_within -/
def con_sure_within : Con := fun ds st Q _ => ∃ i a b, ds = [.int i, .int a, .int b] ∧ a ≤ i ∧ i ≤ b ∧ Q (.int i) st
def F_sure_within : Fn := ⟨"sure_within", ["thing", "least", "most"], con_sure_within⟩
@[simp] theorem F_sure_within_con : F_sure_within.con = con_sure_within := rfl
def N_sure_within : List Str := ["thing", "least", "most"]
def B_sure_within : List S := [.ife (.not (.call F_is_within [.var 0, .var 1, .var 2])) [.raise .unfit] [],
  .ret (.var 0)]
theorem law_sure_within (ds : List D) (st : Store) (Q : Post) (Ex : XPost) (hlen : ds.length = 3) (h : con_sure_within ds st Q Ex) : wpSs B_sure_within (startD N_sure_within ds) st (endF st Q Ex) := by
  obtain ⟨i, a, b, rfl, h1, h2, q⟩ := h
  simp [-Bool.exists_bool, B_sure_within, startD, N_sure_within]
  refine ⟨_, _, _, rfl, rfl, ?_⟩
  simp [-Bool.exists_bool, h1, h2]
  exact q
/-! are_weights -/
def con_are_weights : Con := fun ds st Q _ => ∃ w, ds = [tI w] ∧ WOk w ∧ Q (.bl true) st
def F_are_weights : Fn := ⟨"are_weights", ["thing"], con_are_weights⟩
@[simp] theorem F_are_weights_con : F_are_weights.con = con_are_weights := rfl
def N_are_weights : List Str := ["thing", "own"]
def B_are_weights : List S := [.ife (.or (.not (.call F_are_numbers [.var 0])) (.not (.chain .le .le (.glob "LEAST_PLACES" (3)) (.prim .len [.var 0]) (.glob "MOST_PLACES" (6))))) [.ret (.k (.bl false))] [],
  .ret (.tmp (.prim .all [.lc (.nm 1) .seq [.var 0] none (.chain .le .le (.k (.int 1)) (.var 1) (.glob "MOST_WEIGHT" (12)))]))]
theorem law_are_weights (ds : List D) (st : Store) (Q : Post) (Ex : XPost) (hlen : ds.length = 1) (h : con_are_weights ds st Q Ex) : wpSs B_are_weights (startD N_are_weights ds) st (endF st Q Ex) := by
  obtain ⟨w, rfl, ⟨h1, h2, h3⟩, q⟩ := h
  simp [-Bool.exists_bool, B_are_weights, startD, N_are_weights]
  have hl : (w.map D.int).length ≤ line := by simp; show w.length ≤ 1000000; omega
  refine ⟨_, rfl, pure_tI w, fun l e => by cases e; exact hl, ?_⟩
  simp only [tI, all_int]
  have a1 : (3 : Int) ≤ w.length := by omega
  have a2 : (w.length : Int) ≤ 6 := by omega
  simp [-Bool.exists_bool, a1, a2, h1, h2]
  refine ⟨?_, fun h => absurd h (by omega)⟩
  refine wp_allT (ds := [tI w]) (l := w.map D.int) (g := []) (fun Q Ex h => by simpa [tI] using h) rfl gOk_nil hl (fun x hx => ⟨_, fun P h => h, fun st2 Q Ex hs h => ?_⟩) (by simpa using q)
  obtain ⟨i, hi, rfl⟩ := List.mem_map.mp hx
  have := h3 i hi
  simp [-Bool.exists_bool, this.1, this.2]
  exact h
/-! are_from_one -/
def con_are_from_one : Con := fun ds st Q _ => ∃ l most, ds = [tI l, .int (l.length : Nat), .int most] ∧ l.length ≤ 100 ∧ (∀ x ∈ l, 1 ≤ x ∧ x ≤ most) ∧ Q (.bl true) st
def F_are_from_one : Fn := ⟨"are_from_one", ["thing", "many", "most"], con_are_from_one⟩
@[simp] theorem F_are_from_one_con : F_are_from_one.con = con_are_from_one := rfl
def N_are_from_one : List Str := ["thing", "many", "most", "own"]
def B_are_from_one : List S := [.ret (.and (.call F_is_long [.var 0, .var 1]) (.and (.call F_are_numbers [.var 0]) (.tmp (.prim .all [.lc (.nm 3) .seq [.var 0] none (.chain .le .le (.k (.int 1)) (.var 3) (.var 2))]))))]
theorem law_are_from_one (ds : List D) (st : Store) (Q : Post) (Ex : XPost) (hlen : ds.length = 3) (h : con_are_from_one ds st Q Ex) : wpSs B_are_from_one (startD N_are_from_one ds) st (endF st Q Ex) := by
  obtain ⟨l, most, rfl, hl, hb, q⟩ := h
  have hll : (l.map D.int).length ≤ line := by simp; show _ ≤ 1000000; omega
  simp [-Bool.exists_bool, B_are_from_one, startD, N_are_from_one]
  refine ⟨_, _, rfl, pure_tI l, ?_⟩
  simp [-Bool.exists_bool, tI]
  refine ⟨_, rfl, pure_tI l, fun l' e => by cases e; exact hll, ?_⟩
  simp only [all_int]
  simp [-Bool.exists_bool]
  refine wp_allT (ds := [tI l]) (l := l.map D.int) (g := []) (fun Q Ex h => by simpa [tI] using h) rfl gOk_nil hll (fun x hx => ⟨_, fun P h => by simpa using h, fun st2 Q Ex hs h => ?_⟩) (by simpa using q)
  obtain ⟨i, hi, rfl⟩ := List.mem_map.mp hx
  have := hb i hi
  simp [-Bool.exists_bool, this.1, this.2, show ¬ i < 1 by omega]
  exact h
/-! is_word_in -/
def con_is_word_in : Con := fun ds st Q _ => ∃ u n, ds = [.int n, tI u] ∧ u.length ≤ 5000 ∧ (∀ x ∈ u, 0 ≤ x ∧ x < n) ∧ Q (.bl true) st
def F_is_word_in : Fn := ⟨"is_word_in", ["many", "thing"], con_is_word_in⟩
@[simp] theorem F_is_word_in_con : F_is_word_in.con = con_is_word_in := rfl
def N_is_word_in : List Str := ["many", "thing", "own"]
def B_is_word_in : List S := [.ret (.and (.call F_are_numbers [.var 1]) (.and (.cmp .le (.prim .len [.var 1]) (.glob "MOST_WORD" (5000))) (.tmp (.prim .all [.lc (.nm 2) .seq [.var 1] none (.chain .le .lt (.k (.int 0)) (.var 2) (.var 0))]))))]
theorem law_is_word_in (ds : List D) (st : Store) (Q : Post) (Ex : XPost) (hlen : ds.length = 2) (h : con_is_word_in ds st Q Ex) : wpSs B_is_word_in (startD N_is_word_in ds) st (endF st Q Ex) := by
  obtain ⟨l, n, rfl, hl, hb, q⟩ := h
  have hll : (l.map D.int).length ≤ line := by simp; show _ ≤ 1000000; omega
  simp [-Bool.exists_bool, B_is_word_in, startD, N_is_word_in]
  refine ⟨_, rfl, pure_tI l, fun l' e => by cases e; exact hll, ?_⟩
  simp only [tI, all_int]
  have a1 : (l.length : Int) ≤ 5000 := by omega
  simp [-Bool.exists_bool, a1, hl]
  refine ⟨?_, fun h => absurd h (by omega)⟩
  refine wp_allT (ds := [tI l]) (l := l.map D.int) (g := []) (fun Q Ex h => by simpa [tI] using h) rfl gOk_nil hll (fun x hx => ⟨_, fun P h => by simpa using h, fun st2 Q Ex hs h => ?_⟩) (by simpa using q)
  obtain ⟨i, hi, rfl⟩ := List.mem_map.mp hx
  have := hb i hi
  simp [-Bool.exists_bool, this.1, this.2, show ¬ i < 0 by omega]
  exact h
/-! is_rest_row_in -/
def con_is_rest_row_in : Con := fun ds st Q _ => ∃ u r, ds = [.int (r.length : Nat), .int u, tI r] ∧ r.length ≤ 1000 ∧ RR u r ∧ Q (.bl true) st
def F_is_rest_row_in : Fn := ⟨"is_rest_row_in", ["many", "modulus", "thing"], con_is_rest_row_in⟩
@[simp] theorem F_is_rest_row_in_con : F_is_rest_row_in.con = con_is_rest_row_in := rfl
def N_is_rest_row_in : List Str := ["many", "modulus", "thing", "own"]
def B_is_rest_row_in : List S := [.ret (.and (.call F_is_long [.var 2, .var 0]) (.and (.call F_are_numbers [.var 2]) (.tmp (.prim .all [.lc (.nm 3) .seq [.var 2] none (.chain .le .lt (.k (.int 0)) (.var 3) (.var 1))]))))]
theorem law_is_rest_row_in (ds : List D) (st : Store) (Q : Post) (Ex : XPost) (hlen : ds.length = 3) (h : con_is_rest_row_in ds st Q Ex) : wpSs B_is_rest_row_in (startD N_is_rest_row_in ds) st (endF st Q Ex) := by
  obtain ⟨u, l, rfl, hl, hb, q⟩ := h
  have hll : (l.map D.int).length ≤ line := by simp; show _ ≤ 1000000; omega
  simp [-Bool.exists_bool, B_is_rest_row_in, startD, N_is_rest_row_in]
  refine ⟨_, _, rfl, pure_tI l, ?_⟩
  simp [-Bool.exists_bool, tI]
  refine ⟨_, rfl, pure_tI l, fun l' e => by cases e; exact hll, ?_⟩
  simp [-Bool.exists_bool, all_int]
  refine ⟨fun _ => ?_, ?_⟩
  · refine wp_allT (ds := [tI l]) (l := l.map D.int) (g := []) (fun Q Ex h => by simpa [tI] using h) rfl gOk_nil hll (fun x hx => ⟨_, fun P h => by simpa using h, fun st2 Q Ex hs h => ?_⟩) (by simpa using q)
    obtain ⟨i, hi, rfl⟩ := List.mem_map.mp hx
    have := hb i hi
    simp [-Bool.exists_bool, this.1, this.2, show ¬ i < 0 by omega]
    exact h
  · intro x hx hn
    simp [isIntD] at hn
/-! rest_walked_in -/
def con_rest_walked_in : Con := fun ds st Q _ => ∃ w m u r v, ds = [eqT w m, .int u, tI r, tN v] ∧ EqOk w m ∧ 0 < u ∧ u ≤ 1000 ∧ RV u w.length r ∧ (∀ k ∈ v, k < w.length) ∧ Q (tI (rwI w m u r v)) st
theorem rv_sm {w : List Int} {m u : Int} {r : List Int} (hw : EqOk w m) (hu2 : u ≤ 1000) (h : RV u w.length r) : Sm r := ⟨by have := hw.1.2.1; have := h.1; omega, fun x hx => by
  have := h.2 x hx
  have h1 : x.natAbs < 2 ^ 10 := by show _ < 1024; omega
  exact Nat.lt_trans h1 (Nat.pow_lt_pow_right (by decide) (by decide))⟩
def F_rest_walked_in : Fn := ⟨"rest_walked_in", ["equation", "modulus", "row", "word"], con_rest_walked_in⟩
@[simp] theorem F_rest_walked_in_con : F_rest_walked_in.con = con_rest_walked_in := rfl
def N_rest_walked_in : List Str := ["equation", "modulus", "row", "word", "here", "place"]
def B_rest_walked_in : List S := [.set (.nm 4) (.var 2),
  .forr (.nm 5) .seq [.var 3] [.set (.nm 4) (.call F_rest_flipped [.var 0, .var 1, .var 4, .var 5])],
  .ret (.var 4)]
theorem law_rest_walked_in (ds : List D) (st : Store) (Q : Post) (Ex : XPost) (hlen : ds.length = 4) (h : con_rest_walked_in ds st Q Ex) : wpSs B_rest_walked_in (startD N_rest_walked_in ds) st (endF st Q Ex) := by
  obtain ⟨w, m, u, r, v, rfl, hw, hu, hu2, hr, hv, q⟩ := h
  simp [-Bool.exists_bool, B_rest_walked_in, startD, N_rest_walked_in, tN]
  refine ⟨_, _, ⟨rfl, rfl⟩, ?_⟩
  refine forN_of (fun i env st' => st' = st ∧ ∃ a, env = [some (eqT w m), some (.int u), some (tI r), some (tI (v.map fun (k : Nat) => (k : Int))), some (tI (rwI w m u r (v.take i))), a]) ⟨rfl, none, rfl⟩ (fun i env st' _ h => gOk_nil) (fun i x env st' next hx h hnx => ?_) (fun env st' h => ?_)
  · obtain ⟨rfl, a, rfl⟩ := h
    by_cases hi : i < v.length
    · simp [hi] at hx
      subst hx
      have R := rw_rv (w := w) (m := m) hu hr (v := v.take i) fun k hk => hv k (List.mem_of_mem_take hk)
      have hk := hv _ (List.getElem_mem hi)
      simp [-Bool.exists_bool]
      refine ⟨w, m, u, _, v[i], rfl, R.1.symm, by rw [R.1]; exact hk, hw.1.2.2, rv_sm hw hu2 R, by have := hw.2.1; omega, hw.2.2.1, hu, ?_⟩
      have e : rfI w m u (rwI w m u r (v.take i)) v[i] = rwI w m u r (v.take (i + 1)) := by
        rw [List.take_succ, List.getElem?_eq_getElem hi]
        unfold rwI
        rw [List.foldl_append]; rfl
      rw [e]
      exact hnx _ _ ⟨rfl, _, rfl⟩
    · simp [hi] at hx
  · obtain ⟨rfl, a, rfl⟩ := h
    simp
    simpa using q
/-! walked_in -/
def con_walked_in : Con := fun ds st Q _ => ∃ w m l u, ds = [eqT w m, tI l, tN u] ∧ EqOk w m ∧ w.length = l.length ∧ WalkOk w m l u ∧ Q (tI (walkI w m l u)) st
def F_walked_in : Fn := ⟨"walked_in", ["equation", "solution", "word"], con_walked_in⟩
@[simp] theorem F_walked_in_con : F_walked_in.con = con_walked_in := rfl
def N_walked_in : List Str := ["equation", "solution", "word", "here", "place"]
def B_walked_in : List S := [.set (.nm 3) (.var 1),
  .forr (.nm 4) .seq [.var 2] [.set (.nm 3) (.call F_flipped_in [.var 0, .var 3, .var 4])],
  .ret (.var 3)]
theorem law_walked_in (ds : List D) (st : Store) (Q : Post) (Ex : XPost) (hlen : ds.length = 3) (h : con_walked_in ds st Q Ex) : wpSs B_walked_in (startD N_walked_in ds) st (endF st Q Ex) := by
  obtain ⟨w, m, l, u, rfl, he, hwl, hu, q⟩ := h
  simp [-Bool.exists_bool, B_walked_in, startD, N_walked_in, tN]
  refine ⟨_, _, ⟨rfl, rfl⟩, ?_⟩
  refine forN_of (fun i env st' => st' = st ∧ w.length = (walkI w m l (u.take i)).length ∧ WalkOk w m (walkI w m l (u.take i)) (u.drop i) ∧ ∃ a, env = [some (eqT w m), some (tI l), some (tI (u.map fun (k : Nat) => (k : Int))), some (tI (walkI w m l (u.take i))), a]) ⟨rfl, hwl, by simpa [walkI] using hu, none, rfl⟩ (fun i env st' _ h => gOk_nil) (fun i x env st' next hx h hnx => ?_) (fun env st' h => ?_)
  · obtain ⟨rfl, h0, hk, a, rfl⟩ := h
    by_cases hi : i < u.length
    · simp [hi] at hx
      subst hx
      rw [List.drop_eq_getElem_cons hi] at hk
      obtain ⟨k1, k2, k3, k4⟩ := hk
      simp [-Bool.exists_bool]
      refine ⟨w, m, _, u[i], rfl, h0, k1, he.1.2.2, k2, by have := he.2.1; omega, he.2.2.1, k3, ?_⟩
      have e : flI w m (walkI w m l (u.take i)) u[i] = walkI w m l (u.take (i + 1)) := (walkI_succ hi).symm
      rw [e] at k4 ⊢
      exact hnx _ _ ⟨rfl, by rw [← e, flI_length k1]; exact h0, k4, _, rfl⟩
    · simp [hi] at hx
  · obtain ⟨rfl, h0, hk, a, rfl⟩ := h
    simp
    have e : u.take (u.length) = u := List.take_length
    simpa [e] using q
/-! _law_idle -/
def con__law_idle : Con := fun ds st Q _ => ∃ w m l, ds = [eqT w m, tI l] ∧ w.length = l.length ∧ l.length ≤ 100 ∧ (∀ x ∈ w, 1 ≤ x ∧ x ≤ 12) ∧ Sm l ∧ 0 ≤ m ∧ m ≤ 60 ∧
  ∀ i : Int, ((∃ k : Nat, k < l.length ∧ i = k ∧ flG w m l k = l.getD k 0 ∧ ∀ j, j < k → flG w m l j ≠ l.getD j 0) ∨ (i = -1 ∧ ∀ j, j < l.length → flG w m l j ≠ l.getD j 0)) → Q (.int i) st
def F__law_idle : Fn := ⟨"_law_idle", ["told_so", "numbers_so"], con__law_idle⟩
@[simp] theorem F__law_idle_con : F__law_idle.con = con__law_idle := rfl
def N__law_idle : List Str := ["told_so", "numbers_so", "k"]
def B__law_idle : List S := [.forr (.nm 2) .range1 [.prim .len [.var 1]] [.ife (.cmp .eq (.ix (.call F__law_flip [.var 0, .var 1, .var 2]) (.var 2)) (.ix (.var 1) (.var 2))) [.ret (.var 2)] []],
  .ret (.bin .sub (.k (.int 0)) (.k (.int 1)))]
theorem law__law_idle (ds : List D) (st : Store) (Q : Post) (Ex : XPost) (hlen : ds.length = 2) (h : con__law_idle ds st Q Ex) : wpSs B__law_idle (startD N__law_idle ds) st (endF st Q Ex) := by
  obtain ⟨w, m, l, rfl, hwl, hl, hw, hs, hm0, hm, q⟩ := h
  simp [-Bool.exists_bool, B__law_idle, startD, N__law_idle]
  refine ⟨_, _, items_range1 (by show _ ≤ 1000000; omega), ?_⟩
  refine forN_of (fun i env st' => st' = st ∧ (∀ j, j < i → flG w m l j ≠ l.getD j 0) ∧ ∃ a, env = [some (eqT w m), some (tI l), a]) ⟨rfl, fun j h => by omega, none, rfl⟩ (fun i env st' _ h => gOk_nil) (fun i x env st' next hx h hnx => ?_) (fun env st' h => ?_)
  · obtain ⟨rfl, h0, a, rfl⟩ := h
    by_cases hi : i < l.length
    · simp [hi] at hx
      subst hx
      simp [-Bool.exists_bool]
      refine ⟨w, m, l, i, rfl, hwl, hi, hw, hs, hm0, hm, ?_⟩
      have e : (flI w m l i)[i]? = some (flG w m l i) := by
        unfold flI
        rw [List.append_assoc, List.getElem?_append_right (by simp; omega)]
        simp [Nat.min_eq_left (Nat.le_of_lt hi)]
      simp [-Bool.exists_bool, e, hi]
      refine ⟨fun h => ?_, fun h => hnx _ _ ⟨rfl, fun j hj => ?_, _, rfl⟩⟩
      · exact q i (.inl ⟨i, hi, rfl, by simpa [hi] using h, h0⟩)
      · rcases Nat.lt_or_ge j i with h' | h'
        · exact h0 j h'
        · have : j = i := by omega
          subst this
          simpa [hi] using h
    · simp [hi] at hx
  · obtain ⟨rfl, h0, a, rfl⟩ := h
    simp at h0 ⊢
    exact q _ (.inr ⟨rfl, fun j hj => by simpa using h0 j hj⟩)
/-! _law_walk -/
def con__law_walk : Con := fun ds st Q _ => ∃ w m l u, ds = [eqT w m, tI l, tN u] ∧ EqOk w m ∧ w.length = l.length ∧ WalkOk w m l u ∧ Q (tI (walkI w m l u)) st
def F__law_walk : Fn := ⟨"_law_walk", ["told_so", "numbers_so", "word_so"], con__law_walk⟩
@[simp] theorem F__law_walk_con : F__law_walk.con = con__law_walk := rfl
def N__law_walk : List Str := ["told_so", "numbers_so", "word_so", "here", "k"]
def B__law_walk : List S := [.set (.nm 3) (.var 1),
  .forr (.nm 4) .seq [.var 2] [.set (.nm 3) (.call F__law_flip [.var 0, .var 3, .var 4])],
  .ret (.var 3)]
theorem law__law_walk (ds : List D) (st : Store) (Q : Post) (Ex : XPost) (hlen : ds.length = 3) (h : con__law_walk ds st Q Ex) : wpSs B__law_walk (startD N__law_walk ds) st (endF st Q Ex) := by
  obtain ⟨w, m, l, u, rfl, he, hwl, hu, q⟩ := h
  simp [-Bool.exists_bool, B__law_walk, startD, N__law_walk, tN]
  refine ⟨_, _, ⟨rfl, rfl⟩, ?_⟩
  refine forN_of (fun i env st' => st' = st ∧ w.length = (walkI w m l (u.take i)).length ∧ WalkOk w m (walkI w m l (u.take i)) (u.drop i) ∧ ∃ a, env = [some (eqT w m), some (tI l), some (tI (u.map fun (k : Nat) => (k : Int))), some (tI (walkI w m l (u.take i))), a]) ⟨rfl, hwl, by simpa [walkI] using hu, none, rfl⟩ (fun i env st' _ h => gOk_nil) (fun i x env st' next hx h hnx => ?_) (fun env st' h => ?_)
  · obtain ⟨rfl, h0, hk, a, rfl⟩ := h
    by_cases hi : i < u.length
    · simp [hi] at hx
      subst hx
      rw [List.drop_eq_getElem_cons hi] at hk
      obtain ⟨k1, k2, k3, k4⟩ := hk
      simp [-Bool.exists_bool]
      refine ⟨w, m, _, u[i], rfl, h0, k1, he.1.2.2, k2, by have := he.2.1; omega, he.2.2.1, ?_⟩
      have e : flI w m (walkI w m l (u.take i)) u[i] = walkI w m l (u.take (i + 1)) := (walkI_succ hi).symm
      rw [e] at k4 ⊢
      exact hnx _ _ ⟨rfl, by rw [← e, flI_length k1]; exact h0, k4, _, rfl⟩
    · simp [hi] at hx
  · obtain ⟨rfl, h0, hk, a, rfl⟩ := h
    simp
    have e : u.take (u.length) = u := List.take_length
    simpa [e] using q
/-! _law_mixed -/
def con__law_mixed : Con := fun ds st Q _ => ∃ n c w m l, ds = [.ref n, rowT (w, m, l)] ∧ Tin st n c ∧ c + w.length < 1000000 ∧ w.length = l.length ∧ w.length ≤ 100 ∧
  ∀ w' l' st', w'.length = l'.length → (w'.zip l').Perm (w.zip l) → But n st st' → Tin st' n (c + w.length) → Q (.tup [eqT w' m, tI l']) st'
def F__law_mixed : Fn := ⟨"_law_mixed", ["tin", "row_so"], con__law_mixed⟩
@[simp] theorem F__law_mixed_con : F__law_mixed.con = con__law_mixed := rfl
def N__law_mixed : List Str := ["tin", "row_so", "order_so", "k"]
def B__law_mixed : List S := [.set (.nm 2) (.call F__law_pick [.var 0, .prim .listrange [.prim .len [.ix (.var 1) (.k (.int 0))]], .prim .len [.ix (.var 1) (.k (.int 0))]]),
  .ret (.tup [.tup [.tmp (.prim .tuple [.lc (.nm 3) .seq [.var 2] none (.ix (.ix (.var 1) (.k (.int 0))) (.var 3))]), .ix (.var 1) (.k (.int 1))], .tmp (.prim .tuple [.lc (.nm 3) .seq [.var 2] none (.ix (.ix (.var 1) (.k (.int 2))) (.var 3))])])]
theorem law__law_mixed (ds : List D) (st : Store) (Q : Post) (Ex : XPost) (hlen : ds.length = 2) (h : con__law_mixed ds st Q Ex) : wpSs B__law_mixed (startD N__law_mixed ds) st (endF st Q Ex) := by
  obtain ⟨n, c, w, m, l, rfl, ht, hc, hwl, hw, q⟩ := h
  have hlin : (line : Nat) = 1000000 := rfl
  simp [-Bool.exists_bool, B__law_mixed, startD, N__law_mixed, rowT]
  refine ⟨by omega, n, .ref st.length, rangeD 0 w.length, w.length, c, rfl, ht.pre (List.prefix_append _ _), by omega, by simp [seqD], by simp [rangeD]; omega, fun k hk => by have := ht.lt; cases hk; omega, fun found rest st' a hp hfl hb ht' ha hsa => ?_⟩
  have hr0 : rest = [] := by
    have := hp.length_eq
    simp [rangeD] at this hfl
    exact List.length_eq_zero_iff.mp (by omega)
  subst hr0
  rw [List.append_nil] at hp
  have hp2 : found.Perm ((List.range w.length).map fun k : Nat => D.int (k : Int)) := by simpa [rangeD] using hp
  obtain ⟨ord, rfl, po⟩ := perm_map_inv (f := fun k : Nat => D.int (k : Int)) (g := toN) (fun a => by simp [toN]) hp2
  have hord : ∀ k ∈ ord, k < w.length := fun k hk => List.mem_range.mp (po.mem_iff.mp hk)
  have hol : ord.length = w.length := by have := po.length_eq; simpa using this
  refine wp_tupc (ds := [.ref a]) (l := ord.map fun k : Nat => D.int (k : Int)) (g := [(a, ord.map fun k : Nat => D.int (k : Int))]) (fun x => .int (w.getD (toN x) 0)) (fun _ => true) (fun Q Ex h => by simpa using h) (by simp [seq_at hsa, gOf]) (gOk_gOf (d := .ref a) (seq_at hsa)) (by simp; omega) (fun x hx => ⟨_, fun P h => h, givesC_none, fun _ => ⟨rfl, fun st2 Q Ex hs h => ?_⟩⟩) ?_
  · obtain ⟨k, hk, rfl⟩ := List.mem_map.mp hx
    have := hord k hk
    simp [this]
    simpa [toN, this] using h
  simp [-Bool.exists_bool]
  refine ⟨by omega, ?_⟩
  refine wp_tupc (ds := [.ref a]) (l := ord.map fun k : Nat => D.int (k : Int)) (g := [(a, ord.map fun k : Nat => D.int (k : Int))]) (fun x => .int (l.getD (toN x) 0)) (fun _ => true) (fun Q Ex h => by simpa using h) (by simp [seq_at hsa, gOf]) (gOk_gOf (d := .ref a) (seq_at hsa)) (by simp; omega) (fun x hx => ⟨_, fun P h => h, givesC_none, fun _ => ⟨rfl, fun st2 Q Ex hs h => ?_⟩⟩) ?_
  · obtain ⟨k, hk, rfl⟩ := List.mem_map.mp hx
    have := hord k hk
    have h2 : k < l.length := by omega
    simp [h2]
    simpa [toN, h2] using h
  refine ⟨by omega, .inl ?_⟩
  have := q (ord.map fun k => w.getD k 0) (ord.map fun k => l.getD k 0) st' (by simp) ?_ ((But.pre (List.prefix_append _ _)).trans hb) ht'
  · simpa [eqT, tI, filter_true, Function.comp_def, toN] using this
  · have e : (ord.map fun k => w.getD k 0).zip (ord.map fun k => l.getD k 0) = ord.map fun k => (w.getD k 0, l.getD k 0) := by
      rw [List.zip_map', ]
    rw [e]
    refine (po.map _).trans ?_
    have e2 : (List.range w.length).map (fun k => (w.getD k 0, l.getD k 0)) = w.zip l := by
      apply List.ext_getElem
      · simp; omega
      · intro k h1 h2
        simp at h1
        have : k < l.length := by omega
        simp [h1, this]
    rw [e2]
/-! is_equation_in -/
def con_is_equation_in : Con := fun ds st Q _ => ∃ w m, ds = [eqT w m] ∧ EqOk w m ∧ Q (.bl true) st
def F_is_equation_in : Fn := ⟨"is_equation_in", ["thing"], con_is_equation_in⟩
@[simp] theorem F_is_equation_in_con : F_is_equation_in.con = con_is_equation_in := rfl
def N_is_equation_in : List Str := ["thing", "own"]
def B_is_equation_in : List S := [.ife (.or (.not (.call F_is_long [.var 0, .k (.int 2)])) (.or (.not (.call F_are_weights [.ix (.var 0) (.k (.int 0))])) (.not (.call F_is_within [.ix (.var 0) (.k (.int 1)), .k (.int 1), .glob "MOST_FACTOR" (60)])))) [.ret (.k (.bl false))] [],
  .ret (.tmp (.prim .all [.lc (.nm 1) .seq [.ix (.var 0) (.k (.int 0))] none (.cmp .eq (.bin .mod (.ix (.var 0) (.k (.int 1))) (.var 1)) (.k (.int 0)))]))]
theorem law_is_equation_in (ds : List D) (st : Store) (Q : Post) (Ex : XPost) (hlen : ds.length = 1) (h : con_is_equation_in ds st Q Ex) : wpSs B_is_equation_in (startD N_is_equation_in ds) st (endF st Q Ex) := by
  obtain ⟨w, m, rfl, ⟨hw, h1, h2, h3⟩, q⟩ := h
  simp [-Bool.exists_bool, B_is_equation_in, startD, N_is_equation_in]
  refine ⟨_, _, rfl, pure_eqT w m, ?_⟩
  simp [-Bool.exists_bool, eqT]
  refine ⟨w, rfl, hw, ?_⟩
  simp [-Bool.exists_bool]
  refine ⟨_, _, _, rfl, rfl, ?_⟩
  simp [-Bool.exists_bool, h1, h2]
  have hl : (w.map D.int).length ≤ line := by simp; show w.length ≤ 1000000; have := hw.2.1; omega
  refine wp_allT (ds := [tI w]) (l := w.map D.int) (g := []) (fun Q Ex h => by simpa [] using h) rfl gOk_nil hl (fun x hx => ⟨_, fun P h => h, fun st2 Q Ex hs h => ?_⟩) (by simpa using q)
  obtain ⟨i, hi, rfl⟩ := List.mem_map.mp hx
  have a := hw.2.2 i hi
  have b := h3 i hi
  simp [-Bool.exists_bool, D.pure, b]
  exact ⟨by omega, h⟩
/-! is_solution_in -/
def con_is_solution_in : Con := fun ds st Q _ => ∃ w m l, ds = [eqT w m, tI l] ∧ EqOk w m ∧ SolOk w m l ∧ Q (.bl true) st
def F_is_solution_in : Fn := ⟨"is_solution_in", ["equation", "thing"], con_is_solution_in⟩
@[simp] theorem F_is_solution_in_con : F_is_solution_in.con = con_is_solution_in := rfl
def N_is_solution_in : List Str := ["equation", "thing", "left", "right"]
def B_is_solution_in : List S := [.ife (.not (.call F_are_from_one [.var 1, .prim .len [.ix (.var 0) (.k (.int 0))], .bin .sub (.glob "BELOW_NUMBER" BN) (.k (.int 1))])) [.ret (.k (.bl false))] [],
  .set (.nms [2, 3]) (.call F_sides_in [.var 0, .var 1]),
  .ret (.cmp .eq (.var 2) (.var 3))]
theorem law_is_solution_in (ds : List D) (st : Store) (Q : Post) (Ex : XPost) (hlen : ds.length = 2) (h : con_is_solution_in ds st Q Ex) : wpSs B_is_solution_in (startD N_is_solution_in ds) st (endF st Q Ex) := by
  obtain ⟨w, m, l, rfl, he, hs, q⟩ := h
  simp [-Bool.exists_bool, B_is_solution_in, startD, N_is_solution_in]
  refine ⟨l, BN - 1, by rw [hs.1], by have := he.1.2.1; have := hs.1; omega, hs.2.1, ?_⟩
  simp [-Bool.exists_bool]
  refine ⟨w, m, l, rfl, he.sm, hs.sm he, he.m, ?_⟩
  simp [-Bool.exists_bool, hs.2.2]
  exact q
/-! sure_place -/
def con_sure_place : Con := fun ds st Q _ => ∃ w m k, ds = [eqT w m, .int (k : Nat)] ∧ k < w.length ∧ Q (.int (k : Nat)) st
def F_sure_place : Fn := ⟨"sure_place", ["equation", "value"], con_sure_place⟩
@[simp] theorem F_sure_place_con : F_sure_place.con = con_sure_place := rfl
def N_sure_place : List Str := ["equation", "value"]
def B_sure_place : List S := [.ret (.call F_sure_within [.var 1, .k (.int 0), .bin .sub (.prim .len [.ix (.var 0) (.k (.int 0))]) (.k (.int 1))])]
theorem law_sure_place (ds : List D) (st : Store) (Q : Post) (Ex : XPost) (hlen : ds.length = 2) (h : con_sure_place ds st Q Ex) : wpSs B_sure_place (startD N_sure_place ds) st (endF st Q Ex) := by
  obtain ⟨w, m, k, rfl, hk, q⟩ := h
  simp [-Bool.exists_bool, B_sure_place, startD, N_sure_place]
  exact ⟨_, _, _, rfl, by omega, by omega, by simpa using q⟩
/-! sure_word -/
def con_sure_word : Con := fun ds st Q _ => ∃ u n, ds = [.int n, tI u] ∧ u.length ≤ 5000 ∧ (∀ x ∈ u, 0 ≤ x ∧ x < n) ∧ Q (tI u) st
def F_sure_word : Fn := ⟨"sure_word", ["many", "value"], con_sure_word⟩
@[simp] theorem F_sure_word_con : F_sure_word.con = con_sure_word := rfl
def N_sure_word : List Str := ["many", "value", "own"]
def B_sure_word : List S := [.set (.nm 2) (.call F_tupled [.var 1]),
  .ife (.not (.call F_is_word_in [.var 0, .var 2])) [.raise .unfit] [],
  .ret (.var 2)]
theorem law_sure_word (ds : List D) (st : Store) (Q : Post) (Ex : XPost) (hlen : ds.length = 2) (h : con_sure_word ds st Q Ex) : wpSs B_sure_word (startD N_sure_word ds) st (endF st Q Ex) := by
  obtain ⟨u, n, rfl, hl, hb, q⟩ := h
  simp [-Bool.exists_bool, B_sure_word, startD, N_sure_word]
  refine ⟨_, rfl, fit_tI9 (by omega), ?_⟩
  simp [-Bool.exists_bool]
  refine ⟨u, n, rfl, hl, hb, ?_⟩
  simp [-Bool.exists_bool]
  exact q
/-! sure_modulus -/
def con_sure_modulus : Con := fun ds st Q _ => ∃ u, ds = [.int u] ∧ 2 ≤ u ∧ u ≤ 30 ∧ Q (.int u) st
def F_sure_modulus : Fn := ⟨"sure_modulus", ["value"], con_sure_modulus⟩
@[simp] theorem F_sure_modulus_con : F_sure_modulus.con = con_sure_modulus := rfl
def N_sure_modulus : List Str := ["value"]
def B_sure_modulus : List S := [.ret (.call F_sure_within [.var 0, .glob "LEAST_MODULUS" (2), .glob "MOST_MODULUS_rests" (30)])]
theorem law_sure_modulus (ds : List D) (st : Store) (Q : Post) (Ex : XPost) (hlen : ds.length = 1) (h : con_sure_modulus ds st Q Ex) : wpSs B_sure_modulus (startD N_sure_modulus ds) st (endF st Q Ex) := by
  obtain ⟨u, rfl, h1, h2, q⟩ := h
  simp [-Bool.exists_bool, B_sure_modulus, startD, N_sure_modulus]
  exact ⟨u, 2, 30, rfl, h1, h2, by simpa using q⟩
/-! sure_rest_row -/
def con_sure_rest_row : Con := fun ds st Q _ => ∃ u r, ds = [.int (r.length : Nat), .int u, tI r] ∧ r.length ≤ 1000 ∧ RR u r ∧ Q (tI r) st
def F_sure_rest_row : Fn := ⟨"sure_rest_row", ["many", "modulus", "value"], con_sure_rest_row⟩
@[simp] theorem F_sure_rest_row_con : F_sure_rest_row.con = con_sure_rest_row := rfl
def N_sure_rest_row : List Str := ["many", "modulus", "value", "own"]
def B_sure_rest_row : List S := [.set (.nm 3) (.call F_tupled [.var 2]),
  .ife (.not (.call F_is_rest_row_in [.var 0, .var 1, .var 3])) [.raise .unfit] [],
  .ret (.var 3)]
theorem law_sure_rest_row (ds : List D) (st : Store) (Q : Post) (Ex : XPost) (hlen : ds.length = 3) (h : con_sure_rest_row ds st Q Ex) : wpSs B_sure_rest_row (startD N_sure_rest_row ds) st (endF st Q Ex) := by
  obtain ⟨u, r, rfl, hl, hr, q⟩ := h
  simp [-Bool.exists_bool, B_sure_rest_row, startD, N_sure_rest_row]
  exact ⟨_, rfl, fit_tI9 (by omega), u, r, rfl, hl, hr, by simpa using q⟩
/-! _law_drawn -/
def con__law_drawn : Con := fun ds st Q _ => ∃ n c, ds = [.ref n, .int 6] ∧ Tin st n c ∧ c + 100 < 1000000 ∧ ∀ w m l st', RowG w m l → But n st st' → Tin st' n (c + 7) → Q (.tup [eqT w m, tI l]) st'
def F__law_drawn : Fn := ⟨"_law_drawn", ["tin", "long_so"], con__law_drawn⟩
@[simp] theorem F__law_drawn_con : F__law_drawn.con = con__law_drawn := rfl
def N__law_drawn : List Str := ["tin", "long_so", "own"]
def B__law_drawn : List S := [.ret (.call F__law_mixed [.var 0, .call F__law_of [.var 0, .lc (.nm 2) .seq [.call F__law_known []] (some (.cmp .le (.prim .len [.ix (.var 2) (.k (.int 0))]) (.var 1))) (.var 2)]])]
theorem law__law_drawn (ds : List D) (st : Store) (Q : Post) (Ex : XPost) (hlen : ds.length = 2) (h : con__law_drawn ds st Q Ex) : wpSs B__law_drawn (startD N__law_drawn ds) st (endF st Q Ex) := by
  obtain ⟨n, c, rfl, ht, hc, q⟩ := h
  have hlin : (line : Nat) = 1000000 := rfl
  have hk6 : ∀ r ∈ knownL, r.1.length ≤ 6 ∧ r.2.2.length = r.1.length := by decide +kernel
  simp [-Bool.exists_bool, B__law_drawn, startD, N__law_drawn]
  rw [wpE_lc]
  simp only [wpEs_q1, wpEs_q0, wpE_q18, F__law_known_con, con__law_known]
  refine ⟨trivial, fun st1 a hs ha hsa => ?_⟩
  refine lc_core (l := knownL.map rowT) (g := [(a, knownL.map rowT)]) id (fun _ => true) (by simp [seq_at hsa, gOf]) (gOk_gOf (d := .ref a) (seq_at hsa)) (by simp [knownL]; omega) (fun x hx => ⟨_, fun P h => h, ?_, fun _ st2 Q Ex hs h => by simpa using h⟩) ?_
  · obtain ⟨r, hr, rfl⟩ := List.mem_map.mp hx
    have := (hk6 r hr).1
    intro st2 Q Ex hs h
    simp [-Bool.exists_bool, rowT]
    have e : decide ((r.1.length : Int) ≤ 6) = true := decide_eq_true (by omega)
    rw [e]; exact h
  · have ht1 : Tin (st1 ++ [.lst (knownL.map rowT)]) n c := (ht.pre hs).pre (List.prefix_append _ _)
    simp [-Bool.exists_bool, filter_true]
    refine ⟨n, .ref st1.length, knownL.map rowT, c, rfl, by simpa using ht1, by omega, by simp [seqD], fun m hm => by have := (ht.pre hs).lt; cases hm; omega, by simp [knownL], by simp [knownL], fun x st2 hx hb2 ht2 => ?_⟩
    obtain ⟨r, hr, rfl⟩ := List.mem_map.mp hx
    obtain ⟨h6, he⟩ := hk6 r hr
    obtain ⟨rw_, rm, rl⟩ := r
    simp only at h6 he
    refine ⟨n, c + 1, rw_, rm, rl, rfl, ht2, by omega, he.symm, by omega, fun w' l' st' hwl hp hb ht' => .inl (q w' rm l' st' ?_ ?_ ?_)⟩
    · exact rowG_of (r := (rw_, rm, rl)) (List.all_eq_true.mp rows_ok _ hr) hwl hp
    · exact ((But.pre hs).trans ((But.pre (List.prefix_append _ _)).trans (by simpa using hb2))).trans hb
    · exact ht'.mono (by omega)
/-! _law_up -/
def con__law_up : Con := fun ds st Q _ => ∃ n c w m l t, ds = [.ref n, eqT w m, tI l, .int (t : Nat)] ∧ Tin st n c ∧ c + t < 1000000 ∧ RowG w m l ∧ t ≤ tallB w.length - 1 ∧
  ∀ u st', Good w m l u → u.length = t → But n st st' → Tin st' n (c + t) → Q (.tup [tN u, tI (walkI w m l u)]) st'
def F__law_up : Fn := ⟨"_law_up", ["tin", "told_so", "root_so", "tall_so"], con__law_up⟩
@[simp] theorem F__law_up_con : F__law_up.con = con__law_up := rfl
def N__law_up : List Str := ["tin", "told_so", "root_so", "tall_so", "word_so", "here", "idle_so", "lap", "goods_so", "k"]
def B__law_up : List S := [.set (.nms [4, 5]) (.tup [.tup [], .var 2]),
  .set (.nm 6) (.call F__law_idle [.var 1, .var 2]),
  .forr (.nm 7) .range1 [.var 3] [.set (.nm 8) (.lc (.nm 9) .range1 [.prim .len [.var 2]] (some (.and (.cmp .notin (.var 9) (.sl (.var 4) (some (.neg (.k (.int 1)))) none)) (.or (.cmp .gt (.var 7) (.k (.int 0))) (.cmp .ne (.var 9) (.var 6))))) (.var 9)), .set (.nm 4) (.bin .add (.var 4) (.tup [.call F__law_of [.var 0, .var 8]])), .set (.nm 5) (.call F__law_flip [.var 1, .var 5, .ix (.var 4) (.neg (.k (.int 1)))])],
  .ret (.tup [.var 4, .var 5])]
theorem law__law_up (ds : List D) (st : Store) (Q : Post) (Ex : XPost) (hlen : ds.length = 4) (h : con__law_up ds st Q Ex) : wpSs B__law_up (startD N__law_up ds) st (endF st Q Ex) := by
  obtain ⟨n, c, w, m, l, t, rfl, ht, hc, R, htl, q⟩ := h
  have hlin : (line : Nat) = 1000000 := rfl
  have hwl : w.length = l.length := R.sol.1.symm
  have h3 : 3 ≤ l.length := by have := R.eq.1.1; omega
  have h6 : l.length ≤ 6 := by have := R.eq.1.2.1; omega
  have htb : t ≤ 100 := by
    have : w.length = 3 ∨ w.length = 4 ∨ w.length = 5 ∨ w.length = 6 := by have := R.eq.1.1; omega
    have e : tallB w.length ≤ 9 := by rcases this with h | h | h | h <;> rw [h] <;> decide
    omega
  have hm0 : 0 ≤ m := by have := R.eq.2.1; omega
  have sm0 : Sm l := ((R.up 0 [] rfl (by omega) Good.nil).ok R.eq).sm R.eq
  simp [-Bool.exists_bool, B__law_up, startD, N__law_up]
  refine ⟨by omega, w, m, l, rfl, hwl, by omega, R.eq.1.2.2, sm0, hm0, R.eq.2.2.1, fun id hid => ?_⟩
  have hid1 : ∀ k : Nat, k < l.length → (k : Int) ≠ id → flG w m l k ≠ l.getD k 0 := by
    intro k hk hne he
    rcases hid with ⟨k', hk', rfl, e1, _⟩ | ⟨_, h⟩
    · exact hne (by rw [idle_one R.eq R.sol hk hk' he e1])
    · exact h k hk he
  refine ⟨_, _, items_range1 (by omega), ?_⟩
  refine forN_of (fun i env st' => i ≤ t ∧ ∃ u o7 o8, env = [some (.ref n), some (eqT w m), some (tI l), some (.int (t : Nat)), some (tN u), some (tI (walkI w m l u)), some (.int id), o7, o8, none] ∧ Good w m l u ∧ u.length = i ∧ But n st st' ∧ Tin st' n (c + i))
    ⟨Nat.zero_le _, [], none, none, rfl, Good.nil, rfl, But.refl, ht⟩ (fun i env st' _ h => gOk_nil) (fun i x env st' next hx h hnx => ?_) (fun env st' h => ?_)
  · obtain ⟨_, u, o7, o8, rfl, hg, hu, hb, ht'⟩ := h
    by_cases hi : i < t
    · simp [hi] at hx
      subst hx
      have U := R.up i u hu (by omega) hg
      have smU := (U.ok R.eq).sm R.eq
      have hUl := U.len
      refine wp_lc (ds := [.int (l.length : Nat)]) (l := (List.range l.length).map fun (k : Nat) => D.int (k : Int)) (g := []) (fun x => x) (fun x => !decide (u.getLast? = some (toN x)) && (decide (0 < i) || !decide ((toN x : Int) = id))) (fun Q h => by simpa [tI] using h) (items_range1 (by omega)) gOk_nil (by simp; omega) (fun x hx => ⟨_, fun P h => h, fun st2 Q Ex hs h => ?_, fun _ st2 Q Ex hs h => by simpa using h⟩) ?_
      · obtain ⟨k, hk, rfl⟩ := List.mem_map.mp hx
        simp only [List.mem_range] at hk
        have e := cut_m1 (l := (u.map fun (k : Nat) => (k : Int)).map D.int)
        simp only [List.length_map] at e
        simp [-Bool.exists_bool, tN, tI]
        rw [← List.map_map, e, cmp_notin_last]
        refine ⟨_, rfl, fun hr => ?_, fun hr => ?_⟩
        · simp at hr
          simp only [toN, Int.toNat_natCast] at h
          refine ⟨fun h0 => ?_, fun h0 => ?_⟩
          · simpa [hr, h0] using h
          · simp [hr, h0] at h
            by_cases e2 : (k : Int) = id
            · simpa [e2] using h
            · have e3 : ((k : Int) == id) = false := by simpa using e2
              simpa [e2, bne, e3] using h
        · simp at hr
          simp only [toN, Int.toNat_natCast] at h
          simpa [hr] using h
      · generalize hG : ((List.range l.length).map fun (k : Nat) => D.int (k : Int)).filter (fun x => !decide (u.getLast? = some (toN x)) && (decide (0 < i) || !decide ((toN x : Int) = id))) = G
        have hmem : ∀ x, x ∈ G ↔ ∃ k : Nat, k < l.length ∧ x = .int k ∧ u.getLast? ≠ some k ∧ (0 < i ∨ (k : Int) ≠ id) := by
          intro x
          rw [← hG, List.mem_filter, List.mem_map]
          constructor
          · rintro ⟨⟨k, hk, rfl⟩, hb⟩
            simp [toN] at hb hk
            exact ⟨k, hk, rfl, of_decide_eq_false hb.1, hb.2.imp_right of_decide_eq_false⟩
          · rintro ⟨k, hk, rfl, h1, h2⟩
            exact ⟨⟨k, by simpa using hk, rfl⟩, by simpa [toN] using ⟨decide_eq_false h1, h2.imp_right decide_eq_false⟩⟩
        have hGl : G.length ≤ 6 := by
          rw [← hG]
          refine Nat.le_trans (List.length_filter_le _ _) (by simp; omega)
        have hGpos : 0 < G.length := by
          have h01 : ∃ k : Nat, k < l.length ∧ u.getLast? ≠ some k ∧ (0 < i ∨ (k : Int) ≠ id) := by
            by_cases h0 : 0 < i
            · by_cases e0 : u.getLast? = some 0
              · exact ⟨1, by omega, by rw [e0]; simp, .inl h0⟩
              · exact ⟨0, by omega, e0, .inl h0⟩
            · have : u = [] := List.length_eq_zero_iff.mp (by omega)
              subst this
              by_cases e0 : ((0 : Nat) : Int) = id
              · exact ⟨1, by omega, by simp, .inr (by omega)⟩
              · exact ⟨0, by omega, by simp, .inr e0⟩
          obtain ⟨k, h1, h2, h3⟩ := h01
          exact List.length_pos_of_mem ((hmem (.int k)).mpr ⟨k, h1, rfl, h2, h3⟩)
        simp [-Bool.exists_bool, hG]
        refine ⟨n, .ref st'.length, G, c + i, rfl, ht'.pre (List.prefix_append _ _), by omega, by simp [seqD], fun m hm => by have := ht'.lt; cases hm; omega, hGpos, by omega, fun x st2 hx hb2 ht2 => ?_⟩
        obtain ⟨k, hk, rfl, hk1, hk2⟩ := (hmem x).mp hx
        simp [-Bool.exists_bool, tN, tI]
        refine ⟨by omega, by omega, ?_⟩
        refine ⟨w, m, walkI w m l u, k, rfl, by omega, by omega, R.eq.1.2.2, smU, hm0, R.eq.2.2.1, ?_⟩
        refine hnx _ _ ⟨by omega, u ++ [k], _, _, by simp [tN, tI, walkI_snoc]; exact ⟨rfl, rfl⟩, hg.snoc hk hk1 (fun e => ?_), by simp [hu], (hb.trans (But.pre (List.prefix_append _ _))).trans hb2, by simpa [Nat.add_assoc] using ht2⟩
        subst e
        simp at hu
        subst hu
        exact hid1 k hk (by simpa using hk2)
    · simp [hi] at hx
  · obtain ⟨_, u, o7, o8, rfl, hg, hu, hb, ht'⟩ := h
    simp at hu
    simp
    exact ⟨by omega, .inl (q u st' hg hu hb (by simpa using ht'))⟩
/-! sure_equation -/
def con_sure_equation : Con := fun ds st Q _ => ∃ w m, ds = [eqT w m] ∧ EqOk w m ∧ Q (eqT w m) st
def F_sure_equation : Fn := ⟨"sure_equation", ["value"], con_sure_equation⟩
@[simp] theorem F_sure_equation_con : F_sure_equation.con = con_sure_equation := rfl
def N_sure_equation : List Str := ["value", "own"]
def B_sure_equation : List S := [.set (.nm 1) (.call F_tupled [.var 0]),
  .ife (.not (.call F_is_equation_in [.var 1])) [.raise .unfit] [],
  .ret (.var 1)]
theorem law_sure_equation (ds : List D) (st : Store) (Q : Post) (Ex : XPost) (hlen : ds.length = 1) (h : con_sure_equation ds st Q Ex) : wpSs B_sure_equation (startD N_sure_equation ds) st (endF st Q Ex) := by
  obtain ⟨w, m, rfl, he, q⟩ := h
  simp [-Bool.exists_bool, B_sure_equation, startD, N_sure_equation]
  refine ⟨_, rfl, fit_eqT he.sm.1, ?_⟩
  simp [-Bool.exists_bool]
  refine ⟨w, m, rfl, he, ?_⟩
  simp [-Bool.exists_bool]
  exact q
/-! sure_solution -/
def con_sure_solution : Con := fun ds st Q _ => ∃ w m l, ds = [eqT w m, tI l] ∧ EqOk w m ∧ SolOk w m l ∧ Q (tI l) st
def F_sure_solution : Fn := ⟨"sure_solution", ["equation", "value"], con_sure_solution⟩
@[simp] theorem F_sure_solution_con : F_sure_solution.con = con_sure_solution := rfl
def N_sure_solution : List Str := ["equation", "value", "own"]
def B_sure_solution : List S := [.set (.nm 2) (.call F_tupled [.var 1]),
  .ife (.not (.call F_is_solution_in [.var 0, .var 2])) [.raise .unfit] [],
  .ret (.var 2)]
theorem law_sure_solution (ds : List D) (st : Store) (Q : Post) (Ex : XPost) (hlen : ds.length = 2) (h : con_sure_solution ds st Q Ex) : wpSs B_sure_solution (startD N_sure_solution ds) st (endF st Q Ex) := by
  obtain ⟨w, m, l, rfl, he, hs, q⟩ := h
  simp [-Bool.exists_bool, B_sure_solution, startD, N_sure_solution]
  refine ⟨_, rfl, fit_tI9 (by have := (hs.sm he).1; omega), ?_⟩
  simp [-Bool.exists_bool]
  refine ⟨w, m, l, rfl, he, hs, ?_⟩
  simp [-Bool.exists_bool]
  exact q
/-! cut -/
def con_cut : Con := fun ds st Q _ => ∃ v, ds = [tN v] ∧ v.length ≤ 5000 ∧ (∀ k ∈ v, k < 6) ∧ Q (tN (cutL v)) st
def F_cut : Fn := ⟨"cut", ["word"], con_cut⟩
@[simp] theorem F_cut_con : F_cut.con = con_cut := rfl
def N_cut : List Str := ["word"]
def B_cut : List S := [.ret (.call F_cut_in [.call F_sure_word [.glob "MOST_PLACES" (6), .var 0]])]
theorem law_cut (ds : List D) (st : Store) (Q : Post) (Ex : XPost) (hlen : ds.length = 1) (h : con_cut ds st Q Ex) : wpSs B_cut (startD N_cut ds) st (endF st Q Ex) := by
  obtain ⟨v, rfl, hv, h6, q⟩ := h
  simp [-Bool.exists_bool, B_cut, startD, N_cut]
  refine ⟨_, 6, rfl, by simpa using hv, fun x hx => ?_, v, rfl, hv, by simpa using q⟩
  obtain ⟨k, hk, rfl⟩ := List.mem_map.mp hx
  have := h6 k hk
  omega
/-! word_back -/
def con_word_back : Con := fun ds st Q _ => ∃ v, ds = [tN v] ∧ v.length ≤ 5000 ∧ (∀ k ∈ v, k < 6) ∧ Q (tN (cutL v.reverse)) st
def F_word_back : Fn := ⟨"word_back", ["word"], con_word_back⟩
@[simp] theorem F_word_back_con : F_word_back.con = con_word_back := rfl
def N_word_back : List Str := ["word"]
def B_word_back : List S := [.ret (.call F_cut_in [.rev (.call F_sure_word [.glob "MOST_PLACES" (6), .var 0])])]
theorem law_word_back (ds : List D) (st : Store) (Q : Post) (Ex : XPost) (hlen : ds.length = 1) (h : con_word_back ds st Q Ex) : wpSs B_word_back (startD N_word_back ds) st (endF st Q Ex) := by
  obtain ⟨v, rfl, hv, h6, q⟩ := h
  simp [-Bool.exists_bool, B_word_back, startD, N_word_back]
  refine ⟨_, 6, rfl, by simpa using hv, fun x hx => ?_, ?_⟩
  · obtain ⟨k, hk, rfl⟩ := List.mem_map.mp hx
    have := h6 k hk
    omega
  · simp only [tI, rev_tup]
    exact ⟨v.reverse, by simp [tN, tI], by simpa using hv, by simpa using q⟩
/-! rest_row -/
def con_rest_row : Con := fun ds st Q _ => ∃ w m l u, ds = [eqT w m, tI l, .int u] ∧ EqOk w m ∧ SolOk w m l ∧ 2 ≤ u ∧ u ≤ 30 ∧ Q (tI (rsI u l)) st
def F_rest_row : Fn := ⟨"rest_row", ["equation", "solution", "modulus"], con_rest_row⟩
@[simp] theorem F_rest_row_con : F_rest_row.con = con_rest_row := rfl
def N_rest_row : List Str := ["equation", "solution", "modulus", "own", "row"]
def B_rest_row : List S := [.set (.nm 3) (.call F_sure_equation [.var 0]),
  .set (.nm 4) (.call F_sure_solution [.var 3, .var 1]),
  .ret (.call F_rests_in [.var 4, .call F_sure_modulus [.var 2]])]
theorem law_rest_row (ds : List D) (st : Store) (Q : Post) (Ex : XPost) (hlen : ds.length = 3) (h : con_rest_row ds st Q Ex) : wpSs B_rest_row (startD N_rest_row ds) st (endF st Q Ex) := by
  obtain ⟨w, m, l, u, rfl, hw, hl, h1, h2, q⟩ := h
  simp [-Bool.exists_bool, B_rest_row, startD, N_rest_row]
  exact ⟨w, m, rfl, hw, w, m, l, rfl, hw, hl, u, rfl, h1, h2, l, u, rfl, by have := hl.1; have := hw.1.2.1; omega, by omega, by simpa using q⟩
/-! rest_flip -/
def con_rest_flip : Con := fun ds st Q _ => ∃ w m u r k, ds = [eqT w m, .int u, tI r, .int (k : Nat)] ∧ EqOk w m ∧ 2 ≤ u ∧ u ≤ 30 ∧ RV u w.length r ∧ k < w.length ∧ Q (tI (rfI w m u r k)) st
def F_rest_flip : Fn := ⟨"rest_flip", ["equation", "modulus", "row", "place"], con_rest_flip⟩
@[simp] theorem F_rest_flip_con : F_rest_flip.con = con_rest_flip := rfl
def N_rest_flip : List Str := ["equation", "modulus", "row", "place", "own", "many", "told"]
def B_rest_flip : List S := [.par [4, 5] [.call F_sure_equation [.var 0], .call F_sure_modulus [.var 1]],
  .set (.nm 6) (.call F_sure_rest_row [.prim .len [.ix (.var 4) (.k (.int 0))], .var 5, .var 2]),
  .ret (.call F_rest_flipped [.var 4, .var 5, .var 6, .call F_sure_place [.var 4, .var 3]])]
theorem law_rest_flip (ds : List D) (st : Store) (Q : Post) (Ex : XPost) (hlen : ds.length = 4) (h : con_rest_flip ds st Q Ex) : wpSs B_rest_flip (startD N_rest_flip ds) st (endF st Q Ex) := by
  obtain ⟨w, m, u, r, k, rfl, hw, h1, h2, hr, hk, q⟩ := h
  have hwl := hr.1
  simp [-Bool.exists_bool, B_rest_flip, startD, N_rest_flip]
  refine ⟨w, m, rfl, hw, u, rfl, h1, h2, ?_⟩
  simp [-Bool.exists_bool]
  exact ⟨u, r, by rw [hwl], by have := hw.1.2.1; omega, hr.2, w, m, k, rfl, hk, w, m, u, r, k, rfl, hwl.symm, by omega, hw.1.2.2, rv_sm hw (by omega) hr, by have := hw.2.1; omega, hw.2.2.1, by omega, by simpa using q⟩
/-! rest_walked -/
def con_rest_walked : Con := fun ds st Q _ => ∃ w m u r v, ds = [eqT w m, .int u, tI r, tN v] ∧ EqOk w m ∧ 2 ≤ u ∧ u ≤ 30 ∧ RV u w.length r ∧ v.length ≤ 5000 ∧ (∀ k ∈ v, k < w.length) ∧ Q (tI (rwI w m u r v)) st
def F_rest_walked : Fn := ⟨"rest_walked", ["equation", "modulus", "row", "word"], con_rest_walked⟩
@[simp] theorem F_rest_walked_con : F_rest_walked.con = con_rest_walked := rfl
def N_rest_walked : List Str := ["equation", "modulus", "row", "word", "own", "many", "told"]
def B_rest_walked : List S := [.par [4, 5] [.call F_sure_equation [.var 0], .call F_sure_modulus [.var 1]],
  .set (.nm 6) (.call F_sure_rest_row [.prim .len [.ix (.var 4) (.k (.int 0))], .var 5, .var 2]),
  .ret (.call F_rest_walked_in [.var 4, .var 5, .var 6, .call F_sure_word [.prim .len [.ix (.var 4) (.k (.int 0))], .var 3]])]
theorem law_rest_walked (ds : List D) (st : Store) (Q : Post) (Ex : XPost) (hlen : ds.length = 4) (h : con_rest_walked ds st Q Ex) : wpSs B_rest_walked (startD N_rest_walked ds) st (endF st Q Ex) := by
  obtain ⟨w, m, u, r, v, rfl, hw, h1, h2, hr, hv, hk, q⟩ := h
  have hwl := hr.1
  simp [-Bool.exists_bool, B_rest_walked, startD, N_rest_walked]
  refine ⟨w, m, rfl, hw, u, rfl, h1, h2, ?_⟩
  simp [-Bool.exists_bool]
  refine ⟨u, r, by rw [hwl], by have := hw.1.2.1; omega, hr.2, _, _, rfl, by simpa using hv, fun x hx => ?_, w, m, u, r, v, rfl, hw, by omega, by omega, hr, hk, by simpa using q⟩
  obtain ⟨k, hk', rfl⟩ := List.mem_map.mp hx
  have := hk k hk'
  omega
/-! word_round -/
theorem eqv_ints : ∀ (l r : List Int), D.eqv (tI l) (tI r) = decide (l = r) := by
  have h : ∀ (l r : List Int), D.eqvAll (l.map D.int) (r.map D.int) = decide (l = r) := by
    intro l
    induction l with
    | nil => intro r; cases r <;> simp [D.eqvAll]
    | cons a l ih =>
      intro r
      cases r with
      | nil => simp [D.eqvAll]
      | cons b r => simp [D.eqvAll, D.eqv, ih, Bool.decide_and]; rfl
  intro l r
  simp only [tI, D.eqv, h]
theorem cmp_neT {l r : List Int} {st : Store} : cmpD .ne (tI l) (tI r) st = some (!decide (l = r)) := by
  rw [cmp_neP (pure_tI _) (pure_tI _) (by have := depth_tI l; omega) (by have := depth_tI r; omega), eqv_ints]
theorem cmp_eqT {l r : List Int} {st : Store} : cmpD .eq (tI l) (tI r) st = some (decide (l = r)) := by
  rw [cmp_eqP (pure_tI _) (pure_tI _) (by have := depth_tI l; omega) (by have := depth_tI r; omega), eqv_ints]
theorem exists_least {α : Type} {f : α → α} {x : α} : ∀ (n T : Nat), T ≤ n → 1 ≤ T → iter f T x = x → ∃ S, Least f x S ∧ S ≤ T
  | 0, T, h, h1, _ => by omega
  | n + 1, T, h, h1, h2 => by
    by_cases hl : ∃ t, 1 ≤ t ∧ t < T ∧ iter f t x = x
    · obtain ⟨t, a, b, c⟩ := hl
      obtain ⟨S, hS, hle⟩ := exists_least n t (by omega) a c
      exact ⟨S, hS, by omega⟩
    · exact ⟨T, ⟨h1, h2, fun t a b c => hl ⟨t, a, b, c⟩⟩, Nat.le_refl _⟩
def con_word_round : Con := fun ds st Q _ => ∃ w m l v u T, ds = [eqT w m, tI l, tN v, .int u] ∧ EqOk w m ∧ SolOk w m l ∧ v.length ≤ 5000 ∧ (∀ k ∈ v, k < w.length) ∧ 2 ≤ u ∧ u ≤ 30 ∧ T ≤ 20000 ∧ Least (fun r => rwI w m u r v) (rsI u l) T ∧ Q (.int (T : Nat)) st
def F_word_round : Fn := ⟨"word_round", ["equation", "solution", "word", "modulus"], con_word_round⟩
@[simp] theorem F_word_round_con : F_word_round.con = con_word_round := rfl
def N_word_round : List Str := ["equation", "solution", "word", "modulus", "own", "row", "told", "many", "first", "here", "often"]
def B_word_round : List S := [.set (.nm 4) (.call F_sure_equation [.var 0]),
  .set (.nm 5) (.call F_sure_solution [.var 4, .var 1]),
  .set (.nm 6) (.call F_sure_word [.prim .len [.ix (.var 4) (.k (.int 0))], .var 2]),
  .set (.nm 7) (.call F_sure_modulus [.var 3]),
  .set (.nm 8) (.call F_rests_in [.var 5, .var 7]),
  .par [9, 10] [.call F_rest_walked_in [.var 4, .var 7, .var 8, .var 6], .k (.int 1)],
  .while (.cmp .ne (.var 9) (.var 8)) [.ife (.cmp .eq (.var 10) (.glob "MOST_LAPS" (20000))) [.raise .tooMany] [], .par [9, 10] [.call F_rest_walked_in [.var 4, .var 7, .var 9, .var 6], .bin .add (.var 10) (.k (.int 1))]],
  .ret (.var 10)]
theorem law_word_round (ds : List D) (st : Store) (Q : Post) (Ex : XPost) (hlen : ds.length = 4) (h : con_word_round ds st Q Ex) : wpSs B_word_round (startD N_word_round ds) st (endF st Q Ex) := by
  obtain ⟨w, m, l, v, u, T, rfl, hw, hl, hv, hvk, hu1, hu2, hT, ⟨L1, L2', L3⟩, q⟩ := h
  have hu : 0 < u := by omega
  have hll : l.length = w.length := hl.1
  have R0 : RV u w.length (rsI u l) := ⟨by rw [rsI_length]; exact hll, rsI_rr hu l⟩
  simp [-Bool.exists_bool, B_word_round, startD, N_word_round]
  refine ⟨w, m, rfl, hw, w, m, l, rfl, hw, hl, ?_⟩
  simp [-Bool.exists_bool]
  refine ⟨_, _, rfl, by simpa using hv, fun x hx => ?_, u, rfl, hu1, hu2, l, u, rfl, by have := hw.1.2.1; omega, hu, w, m, u, _, v, rfl, hw, hu, by omega, R0, hvk, T - 1 + 1, ?_⟩
  · obtain ⟨k, hk, rfl⟩ := List.mem_map.mp hx
    have := hvk k hk
    omega
  refine loopN_of (fun j env st' => st' = st ∧ j + 1 ≤ T ∧ env = [some (eqT w m), some (tI l), some (tN v), some (.int u), some (eqT w m), some (tI l), some (tN v), some (.int u), some (tI (rsI u l)), some (tI (iter (fun r => rwI w m u r v) (j + 1) (rsI u l))), some (.int ((j + 1 : Nat) : Int))]) (T - 1) 0
    ⟨rfl, L1, rfl⟩ (fun j env st' next h hn => ?_)
  obtain ⟨rfl, hj, rfl⟩ := h
  have R := iter_rv (w := w) (m := m) hu R0 hvk (j + 1)
  by_cases he : j + 1 = T
  · have e : iter (fun r => rwI w m u r v) (j + 1) (rsI u l) = rsI u l := by rw [he]; exact L2'
    rw [e]
    simp [-Bool.exists_bool, cmp_neT]
    have e2 : ((j : Int) + 1) = ((T : Nat) : Int) := by omega
    rw [e2]
    exact q
  · have e : iter (fun r => rwI w m u r v) (j + 1) (rsI u l) ≠ rsI u l := L3 _ (by omega) (by omega)
    have h2 : ¬ ((j : Int) + 1 = 20000) := by omega
    have hne : (((j : Int) + 1) == 20000) = false := by simp; omega
    simp [-Bool.exists_bool, cmp_neT, e, h2, hne]
    refine ⟨w, m, u, _, v, rfl, hw, hu, by omega, R, hvk, ?_⟩
    refine hn (by omega) _ _ ⟨rfl, by omega, ?_⟩
    rfl
/-! walked -/
def con_walked : Con := fun ds st Q _ => ∃ w m l u, ds = [eqT w m, tI l, tN u] ∧ EqOk w m ∧ SolOk w m l ∧ u.length ≤ 5000 ∧ (∀ k ∈ u, k < w.length) ∧ WalkOk w m l u ∧ Q (tI (walkI w m l u)) st
def F_walked : Fn := ⟨"walked", ["equation", "solution", "word"], con_walked⟩
@[simp] theorem F_walked_con : F_walked.con = con_walked := rfl
def N_walked : List Str := ["equation", "solution", "word", "own", "row"]
def B_walked : List S := [.set (.nm 3) (.call F_sure_equation [.var 0]),
  .set (.nm 4) (.call F_sure_solution [.var 3, .var 1]),
  .ret (.call F_walked_in [.var 3, .var 4, .call F_sure_word [.prim .len [.ix (.var 3) (.k (.int 0))], .var 2]])]
theorem law_walked (ds : List D) (st : Store) (Q : Post) (Ex : XPost) (hlen : ds.length = 3) (h : con_walked ds st Q Ex) : wpSs B_walked (startD N_walked ds) st (endF st Q Ex) := by
  obtain ⟨w, m, l, u, rfl, he, hs, hu, hb, hk, q⟩ := h
  simp [-Bool.exists_bool, B_walked, startD, N_walked]
  refine ⟨w, m, rfl, he, ?_⟩
  simp [-Bool.exists_bool]
  refine ⟨w, m, l, rfl, he, hs, ?_⟩
  simp [-Bool.exists_bool]
  refine ⟨_, _, rfl, by simpa using hu, fun x hx => ?_, w, m, l, u, rfl, he, hs.1.symm, hk, by simpa using q⟩
  obtain ⟨k, hk, rfl⟩ := List.mem_map.mp hx
  have := hb k hk
  omega
/-! sure_road -/
def con_sure_road : Con := fun ds st Q _ => ∃ w m l i j, ds = [eqT w m, tI l, .int (i : Nat), .int (j : Nat)] ∧ EqOk w m ∧ SolOk w m l ∧ i < l.length ∧ j < l.length ∧ i ≠ j ∧
  Q (.tup [.int (l.getD i 0), .int (l.getD j 0), .int (m / w.getD i 1 * prodI (othI l i j)), .int (m / w.getD j 1 * prodI (othI l i j))]) st
def F_sure_road : Fn := ⟨"sure_road", ["equation", "solution", "one", "other"], con_sure_road⟩
@[simp] theorem F_sure_road_con : F_sure_road.con = con_sure_road := rfl
def N_sure_road : List Str := ["equation", "solution", "one", "other", "own", "row", "near", "far", "rest", "place", "its"]
def B_sure_road : List S := [.set (.nm 4) (.call F_sure_equation [.var 0]),
  .set (.nm 5) (.call F_sure_solution [.var 4, .var 1]),
  .set (.nm 6) (.call F_sure_place [.var 4, .var 2]),
  .set (.nm 7) (.call F_sure_place [.var 4, .var 3]),
  .ife (.cmp .eq (.var 6) (.var 7)) [.raise .unfit] [],
  .set (.nm 8) (.tmp (.call F_product_of [.lc (.nms [9, 10]) .enum [.var 5] (some (.cmp .notin (.var 9) (.tup [.var 6, .var 7]))) (.var 10)])),
  .ret (.tup [.ix (.var 5) (.var 6), .ix (.var 5) (.var 7), .bin .mul (.bin .fdiv (.ix (.var 4) (.k (.int 1))) (.ix (.ix (.var 4) (.k (.int 0))) (.var 6))) (.var 8), .bin .mul (.bin .fdiv (.ix (.var 4) (.k (.int 1))) (.ix (.ix (.var 4) (.k (.int 0))) (.var 7))) (.var 8)])]
theorem div_ok {w : List Int} {m : Int} (he : EqOk w m) {k : Nat} (hk : k < w.length) : 0 < w[k] ∧ w[k] < bigI ∧ (m / w[k]).natAbs < 2 ^ 4000 := by
  have hw := he.1.2.2 _ (List.getElem_mem hk)
  have hm0 : 0 ≤ m := by have := he.2.1; omega
  have hm := he.2.2.1
  have h0 : 0 ≤ m / w[k] := Int.ediv_nonneg hm0 (by omega)
  have h1 : m / w[k] ≤ m := Int.ediv_le_self _ hm0
  have h2 : (m / w[k]).natAbs < 2 ^ 6 := by omega
  exact ⟨by omega, lt_big (by omega), Nat.lt_trans h2 (Nat.pow_lt_pow_right (by decide) (by decide))⟩
theorem law_sure_road (ds : List D) (st : Store) (Q : Post) (Ex : XPost) (hlen : ds.length = 4) (h : con_sure_road ds st Q Ex) : wpSs B_sure_road (startD N_sure_road ds) st (endF st Q Ex) := by
  obtain ⟨w, m, l, i, j, rfl, he, hs, hi, hj, hij, q⟩ := h
  have hwl := hs.1
  have hsm := hs.sm he
  have hl6 : l.length ≤ 6 := by have := he.1.2.1; omega
  have hiw : i < w.length := by omega
  have hjw : j < w.length := by omega
  obtain ⟨a1, a2, a3⟩ := div_ok he hiw
  obtain ⟨b1, b2, b3⟩ := div_ok he hjw
  have ho : (othI l i j).length ≤ 100 := Nat.le_trans othI_length (by omega)
  have hob : ∀ x ∈ othI l i j, x.natAbs < 2 ^ 4000 := fun x hx => hsm.2 x (othI_mem hx)
  have hpb := prodI_bound (othI l i j) 1 4000 1 hob (by decide)
  have hpl : 4000 + (1 + 4000 * (othI l i j).length) + 2 ≤ 1000000 := by
    have := Nat.mul_le_mul_left 4000 ho
    omega
  have hm1 : MulOk (m / w[i]) (prodI (othI l i j)) := mulOk_of a3 hpb hpl
  have hm2 : MulOk (m / w[j]) (prodI (othI l i j)) := mulOk_of b3 hpb hpl
  simp [-Bool.exists_bool, B_sure_road, startD, N_sure_road]
  refine ⟨w, m, rfl, he, ?_⟩
  simp [-Bool.exists_bool]
  refine ⟨w, m, l, rfl, he, hs, ?_⟩
  simp [-Bool.exists_bool]
  refine ⟨w, m, i, rfl, hiw, ?_⟩
  simp [-Bool.exists_bool]
  refine ⟨w, m, j, rfl, hjw, ?_⟩
  have hij2 : ¬ (i : Int) = j := by omega
  simp [-Bool.exists_bool, hij2, hij]
  refine wp_tmp (d := .int (prodI (othI l i j))) rfl (fun Q' hq Ex' => ?_) ?_
  · simp only [wpE_q18, wpEs_q1, wpEs_q0]
    refine wp_lc (ds := [tI l]) (l := numUp (l.map D.int)) (g := []) (fun x => match x with | .tup [_, d] => d | _ => .non) (fun x => match x with | .tup [.int k, _] => !((i : Int) == k || (j : Int) == k) | _ => false) (fun Q h => by simpa using h) rfl gOk_nil ?_ (fun x hx => ?_) ?_
    · rw [numUp_length, List.length_map]; show _ ≤ 1000000; omega
    · rw [numUp_range] at hx
      obtain ⟨k, hk, rfl⟩ := List.mem_map.mp hx
      refine ⟨_, fun P h => ⟨_, rfl, h⟩, ?_, fun _ st2 Q Ex hs h => ?_⟩
      · refine givesC_some (d := .bl (!((i : Int) == k || (j : Int) == k))) (fun st2 Q Ex hs h => ?_) fun st2 _ => rfl
        simp [-Bool.exists_bool]
        exact ⟨by decide, by simpa using h⟩
      · simpa using h
    · refine ⟨_, othI l i j, rfl, ?_, ho, hob, hq _ (List.prefix_append _ _)⟩
      have e : ((numUp (l.map D.int)).filter (fun x => match x with | .tup [.int k, _] => !((i : Int) == k || (j : Int) == k) | _ => false)).map (fun x => match x with | .tup [_, d] => d | _ => .non) = (othI l i j).map D.int := by
        rw [numUp_range, List.filter_map, List.map_map, othI, List.map_map]
        congr 1
        apply List.filter_congr
        intro k _
        show (!((i : Int) == (k : Int) || (j : Int) == (k : Int))) = !(k == i || k == j)
        have f1 : ((i : Int) == (k : Int)) = (k == i) := by
          rw [Bool.eq_iff_iff]; simp; omega
        have f2 : ((j : Int) == (k : Int)) = (k == j) := by
          rw [Bool.eq_iff_iff]; simp; omega
        rw [f1, f2]
      simp only [intsOf, seqD, atEnd, Option.bind_some]
      rw [e]
      exact intsD_map _
  · simp [-Bool.exists_bool, hi, hj, hiw, hjw, a1, a2, b1, b2, hm1, hm2]
    simp [hi, hj, hiw, hjw] at q
    exact ⟨by decide, q⟩
/-! road_rest -/
theorem near_bd {w : List Int} {m : Int} {l : List Int} {i j : Nat} (hw : EqOk w m) (hl : SolOk w m l) (hi : i < w.length) : (nearI w m l i j).natAbs < 2 ^ 100000 := by
  have hs := hl.sm hw
  have h1 : (prodI (othI l i j)).natAbs < 2 ^ (1 + 4000 * (othI l i j).length) := prodI_bound _ 1 4000 1 (fun x hx => hs.2 x (othI_mem hx)) (by decide)
  have h2 : (othI l i j).length ≤ 6 := by have := othI_length (l := l) (i := i) (j := j); have := hl.1; have := hw.1.2.1; omega
  have hwk := hw.1.2.2 _ (List.getElem_mem hi)
  have e : w.getD i 1 = w[i] := by simp [hi]
  have h3 : (m / w.getD i 1).natAbs < 2 ^ 6 := by
    rw [e]
    have h0 : 0 ≤ m / w[i] := Int.ediv_nonneg (by have := hw.2.1; omega) (by omega)
    have h1 : m / w[i] ≤ m := Int.ediv_le_self _ (by have := hw.2.1; omega)
    have := hw.2.2.1
    show _ < 64
    omega
  have h4 : (nearI w m l i j).natAbs < 2 ^ (6 + (1 + 4000 * (othI l i j).length)) := L2.wide_lt h3 h1
  exact Nat.lt_of_lt_of_le h4 (Nat.pow_le_pow_right (by decide) (by omega))
theorem tab_bd {a b : Int} (ha : a.natAbs < 2 ^ 100000) (hb : b.natAbs < 2 ^ 100000) : Bd (tabM a b) ∧ MulOk a b := by
  have le : ∀ {x : Int} {n : Nat}, n ≤ 400000 → x.natAbs < 2 ^ n → x.natAbs < 2 ^ 400000 := fun hn hx => Nat.lt_of_lt_of_le hx (Nat.pow_le_pow_right (by decide) hn)
  refine ⟨⟨?_, le (by decide) ha, ?_, ?_⟩, mulOk_of ha hb (by decide)⟩
  · exact Nat.lt_of_lt_of_le (show (-1 : Int).natAbs < 2 ^ 1 by decide) (Nat.pow_le_pow_right (by decide) (by decide))
  · show (-b).natAbs < _
    rw [Int.natAbs_neg]; exact le (by decide) hb
  · show (a * b - 1).natAbs < _
    have h : (a * b).natAbs < 2 ^ (100000 + 100000) := L2.wide_lt ha hb
    have h2 : (a * b - 1).natAbs ≤ (a * b).natAbs + 1 := by omega
    have h3 : ∀ n : Nat, 2 ^ n + 2 ^ n ≤ 2 ^ (n + 1) := fun n => by rw [Nat.pow_succ]; omega
    have h5 : 2 ^ (100000 + 100000 + 1) ≤ 2 ^ 400000 := Nat.pow_le_pow_right (by decide) (by decide)
    have h6 := h3 (100000 + 100000)
    have h4 : 1 ≤ 2 ^ (100000 + 100000) := Nat.two_pow_pos _
    have key : ∀ z y x n : Nat, n < z → z + z ≤ y → y ≤ x → 1 ≤ z → n + 1 < x + 1 → (a * b - 1).natAbs ≤ n + 1 → (a * b - 1).natAbs < x := fun z y x n _ _ _ _ _ _ => by omega
    exact key _ _ _ _ h h6 h5 h4 (by omega) h2
/-- the double flip of a road -/
def roadM (w : List Int) (m : Int) (l : List Int) (i j : Nat) : M2 := tabM (nearI w m l i j) (nearI w m l j i)
def con_road_rest : Con := fun ds st Q _ => ∃ w m l i j t u, ds = [eqT w m, tI l, .int (i : Nat), .int (j : Nat), .int (t : Nat), .int u] ∧ EqOk w m ∧ SolOk w m l ∧ i < l.length ∧ j < l.length ∧ i ≠ j ∧ t ≤ 10 ^ 18 ∧ 2 ≤ u ∧ u ≤ 1000 ∧
  Q (tI [(pst u ((roadM w m l i j).pw t) (l.getD i 0, l.getD j 0)).1, (pst u ((roadM w m l i j).pw t) (l.getD i 0, l.getD j 0)).2]) st
def F_road_rest : Fn := ⟨"road_rest", ["equation", "solution", "one", "other", "often", "modulus"], con_road_rest⟩
@[simp] theorem F_road_rest_con : F_road_rest.con = con_road_rest := rfl
def N_road_rest : List Str := ["equation", "solution", "one", "other", "often", "modulus", "first", "second", "near", "far", "times", "under", "table", "row"]
def B_road_rest : List S := [.set (.nms [6, 7, 8, 9]) (.call F_sure_road [.var 0, .var 1, .var 2, .var 3]),
  .set (.nm 10) (.call F_sure_within [.var 4, .k (.int 0), .glob "MOST_OFTEN" (1000000000000000000)]),
  .set (.nm 11) (.call F_sure_within [.var 5, .k (.int 2), .glob "MOST_MODULUS_roads" (1000)]),
  .set (.nm 12) (.call F_table_power [.call F_table_of [.var 8, .var 9], .var 10, .var 11]),
  .ret (.tmp (.prim .tuple [.lc (.nm 13) .seq [.var 12] none (.bin .mod (.bin .add (.bin .mul (.ix (.var 13) (.k (.int 0))) (.var 6)) (.bin .mul (.ix (.var 13) (.k (.int 1))) (.var 7))) (.var 11))]))]
theorem law_road_rest (ds : List D) (st : Store) (Q : Post) (Ex : XPost) (hlen : ds.length = 6) (h : con_road_rest ds st Q Ex) : wpSs B_road_rest (startD N_road_rest ds) st (endF st Q Ex) := by
  obtain ⟨w, m, l, i, j, t, u, rfl, hw, hl, hi, hj, hij, ht, hu1, hu2, q⟩ := h
  have hu : 0 < u := by omega
  have hlw : l.length = w.length := hl.1
  have hs := hl.sm hw
  obtain ⟨tb, tm⟩ := tab_bd (near_bd hw hl (i := i) (j := j) (by omega)) (near_bd hw hl (i := j) (j := i) (by omega))
  have hli : (l.getD i 0).natAbs < 2 ^ 400000 := by
    have : (l.getD i 0).natAbs < 2 ^ 4000 := by simp [hi]; exact hs.2 _ (List.getElem_mem hi)
    exact Nat.lt_of_lt_of_le this (Nat.pow_le_pow_right (by decide) (by decide))
  have hlj : (l.getD j 0).natAbs < 2 ^ 400000 := by
    have : (l.getD j 0).natAbs < 2 ^ 4000 := by simp [hj]; exact hs.2 _ (List.getElem_mem hj)
    exact Nat.lt_of_lt_of_le this (Nat.pow_le_pow_right (by decide) (by decide))
  simp [-Bool.exists_bool, B_road_rest, startD, N_road_rest]
  refine ⟨w, m, l, i, j, rfl, hw, hl, hi, hj, hij, ?_⟩
  have en : m / w.getD j 1 * prodI (othI l i j) = nearI w m l j i := by unfold nearI; rw [oth_comm]
  have en2 : m / w.getD i 1 * prodI (othI l i j) = nearI w m l i j := rfl
  rw [en, en2]
  simp [-Bool.exists_bool]
  refine ⟨(t : Int), 0, 10 ^ 18, by simp, by omega, by omega, u, 2, 1000, rfl, hu1, hu2, ?_⟩
  refine ⟨_, _, rfl, tm, tabM (nearI w m l i j) (nearI w m l j i), u, t, rfl, tb, hu1, hu2, ht, ?_⟩
  have rb := red_bd (x := (tabM (nearI w m l i j) (nearI w m l j i)).pw t) hu hu2
  have pr := pst_red u ((roadM w m l i j).pw t) (l.getD i 0, l.getD j 0)
  rw [← pr] at q
  unfold roadM at q
  generalize ((tabM (nearI w m l i j) (nearI w m l j i)).pw t).red u = X at *
  obtain ⟨b1, b2, b3, b4⟩ := rb
  have g1 : l.getD i 0 = l[i] := by simp [hi]
  have g2 : l.getD j 0 = l[j] := by simp [hj]
  refine wp_tupc (ds := [tM X]) (l := [tI [X.a, X.b], tI [X.c, X.d]]) (g := []) (fun x => match x with | .tup [.int a, .int b] => .int ((a * l.getD i 0 + b * l.getD j 0) % u) | _ => .non) (fun _ => true) (fun Q Ex h => by simpa using h) rfl gOk_nil (by show 2 ≤ 1000000; decide) (fun x hx => ⟨_, fun P h => h, givesC_none, fun _ => ?_⟩) ?_
  · simp at hx
    rcases hx with rfl | rfl
    · refine ⟨rfl, fun st2 Q Ex hs h => ?_⟩
      simp [-Bool.exists_bool, tI, ← g1, ← g2, bd_mul b1 hli, bd_mul b2 hlj, hu] at h ⊢
      refine ⟨by have := bd_mul b1 hli; simpa [hi] using this, by have := bd_mul b2 hlj; simpa [hj] using this, ?_⟩
      simpa [hi, hj] using h
    · refine ⟨rfl, fun st2 Q Ex hs h => ?_⟩
      simp [-Bool.exists_bool, tI, ← g1, ← g2, bd_mul b3 hli, bd_mul b4 hlj, hu] at h ⊢
      refine ⟨by have := bd_mul b3 hli; simpa [hi] using this, by have := bd_mul b4 hlj; simpa [hj] using this, ?_⟩
      simpa [hi, hj] using h
  · simp
    simpa [pst, tI] using q
/-! road_round -/
def con_road_round : Con := fun ds st Q _ => ∃ w m l i j u T, ds = [eqT w m, tI l, .int (i : Nat), .int (j : Nat), .int u] ∧ EqOk w m ∧ SolOk w m l ∧ i < l.length ∧ j < l.length ∧ i ≠ j ∧ 2 ≤ u ∧ u ≤ 1000 ∧ Least (pst u (roadM w m l i j)) (l.getD i 0 % u, l.getD j 0 % u) T ∧ Q (.int (T : Nat)) st
def pT (p : Int × Int) : D := tI [p.1, p.2]
theorem pst_comp {X : M2} {u : Int} {p : Int × Int} {env : Env'} {st : Store} {Q : Post} {Ex : XPost} {z : Nat} (hb : Bd X) (hu : 0 < u) (p1 : p.1.natAbs < 2 ^ 400000) (p2 : p.2.natAbs < 2 ^ 400000) (h9 : env[9]? = some (some (.int u))) (h10 : env[10]? = some (some (tM X))) (hz : env[z]? = some (some (pT p))) (hk : 14 < env.length) (hzk : z ≠ 14)
    (hQ : Q (pT (pst u X p)) st) :
    wpE (.tmp (.prim .tuple [.lc (.nm 14) .seq [.var 10] none (.bin .mod (.bin .add (.bin .mul (.ix (.var 14) (.k (.int 0))) (.ix (.var z) (.k (.int 0)))) (.bin .mul (.ix (.var 14) (.k (.int 1))) (.ix (.var z) (.k (.int 1))))) (.var 9))])) env st Q Ex := by
  obtain ⟨b1, b2, b3, b4⟩ := hb
  have e14 : ∀ d : D, (env.set 14 (some d))[14]? = some (some d) := fun d => by simp [hk]
  have ez : ∀ d : D, (env.set 14 (some d))[z]? = some (some (pT p)) := fun d => by rw [List.getElem?_set_ne (Ne.symm hzk)]; exact hz
  have e9 : ∀ d : D, (env.set 14 (some d))[9]? = some (some (.int u)) := fun d => by rw [List.getElem?_set_ne (by decide)]; exact h9
  refine wp_tupc (ds := [tM X]) (l := [tI [X.a, X.b], tI [X.c, X.d]]) (g := []) (fun x => match x with | .tup [.int a, .int b] => .int ((a * p.1 + b * p.2) % u) | _ => .non) (fun _ => true) (fun Q Ex h => by simpa [h10] using h) rfl gOk_nil (by show 2 ≤ 1000000; decide) (fun x hx => ⟨_, fun P h => h, givesC_none, fun _ => ?_⟩) ?_
  · simp at hx
    rcases hx with rfl | rfl
    · refine ⟨rfl, fun st2 Q Ex hs h => ?_⟩
      simp [-Bool.exists_bool, e14, ez, e9, pT, bd_mul b1 p1, bd_mul b2 p2, hu]
      simpa [tI] using h
    · refine ⟨rfl, fun st2 Q Ex hs h => ?_⟩
      simp [-Bool.exists_bool, e14, ez, e9, pT, bd_mul b3 p1, bd_mul b4 p2, hu]
      simpa [tI] using h
  · simpa [pst, tI, pT] using hQ
theorem mod_bd {u : Int} (hu : 0 < u) (hu2 : u ≤ 1000) (z : Int) : (z % u).natAbs < 2 ^ 400000 := by
  have h1 := Int.emod_nonneg z (show u ≠ 0 by omega)
  have h2 := Int.emod_lt_of_pos z hu
  have h3 : (z % u).natAbs < 2 ^ 10 := by show _ < 1024; omega
  exact Nat.lt_of_lt_of_le h3 (Nat.pow_le_pow_right (by decide) (by decide))
theorem iter_pst_bd {X : M2} {u : Int} {p q : Int} (hu : 0 < u) (hu2 : u ≤ 1000) : ∀ t, (iter (pst u X) t (p % u, q % u)).1.natAbs < 2 ^ 400000 ∧ (iter (pst u X) t (p % u, q % u)).2.natAbs < 2 ^ 400000
  | 0 => ⟨mod_bd hu hu2 p, mod_bd hu hu2 q⟩
  | t + 1 => ⟨mod_bd hu hu2 _, mod_bd hu hu2 _⟩
theorem cmp_neP2 {p q : Int × Int} {st : Store} : cmpD .ne (pT p) (pT q) st = some (!decide (p = q)) := by
  unfold pT
  rw [cmp_neT]
  have : ([p.1, p.2] = [q.1, q.2]) ↔ p = q := by
    constructor
    · intro h; simp at h; exact Prod.ext h.1 h.2
    · rintro rfl; rfl
  simp [this]
def F_road_round : Fn := ⟨"road_round", ["equation", "solution", "one", "other", "modulus"], con_road_round⟩
@[simp] theorem F_road_round_con : F_road_round.con = con_road_round := rfl
def N_road_round : List Str := ["equation", "solution", "one", "other", "modulus", "first", "second", "near", "far", "under", "table", "found", "begin", "here", "row"]
def B_road_round : List S := [.set (.nms [5, 6, 7, 8]) (.call F_sure_road [.var 0, .var 1, .var 2, .var 3]),
  .set (.nm 9) (.call F_sure_within [.var 4, .k (.int 2), .glob "MOST_MODULUS_roads" (1000)]),
  .par [10, 11] [.call F_table_of [.var 7, .var 8], .k (.int 1)],
  .set (.nm 12) (.tup [.bin .mod (.var 5) (.var 9), .bin .mod (.var 6) (.var 9)]),
  .set (.nm 13) (.tmp (.prim .tuple [.lc (.nm 14) .seq [.var 10] none (.bin .mod (.bin .add (.bin .mul (.ix (.var 14) (.k (.int 0))) (.ix (.var 12) (.k (.int 0)))) (.bin .mul (.ix (.var 14) (.k (.int 1))) (.ix (.var 12) (.k (.int 1))))) (.var 9))])),
  .while (.cmp .ne (.var 13) (.var 12)) [.set (.nm 13) (.tmp (.prim .tuple [.lc (.nm 14) .seq [.var 10] none (.bin .mod (.bin .add (.bin .mul (.ix (.var 14) (.k (.int 0))) (.ix (.var 13) (.k (.int 0)))) (.bin .mul (.ix (.var 14) (.k (.int 1))) (.ix (.var 13) (.k (.int 1))))) (.var 9))])), .set (.nm 11) (.bin .add (.var 11) (.k (.int 1)))],
  .ret (.var 11)]
theorem law_road_round (ds : List D) (st : Store) (Q : Post) (Ex : XPost) (hlen : ds.length = 5) (h : con_road_round ds st Q Ex) : wpSs B_road_round (startD N_road_round ds) st (endF st Q Ex) := by
  obtain ⟨w, m, l, i, j, u, T, rfl, hw, hl, hi, hj, hij, hu1, hu2, ⟨L1, L2', L3⟩, q⟩ := h
  have hu : 0 < u := by omega
  have hlw : l.length = w.length := hl.1
  have hline : 2 ≤ line := by decide
  obtain ⟨tb, tm⟩ := tab_bd (near_bd hw hl (i := i) (j := j) (by omega)) (near_bd hw hl (i := j) (j := i) (by omega))
  unfold B_road_round
  simp only [wpSs_q1, wpS_q0, wpE_q18, wpEs_q1, wpEs_q0, wpE_q0]
  simp [-Bool.exists_bool, startD, N_road_round]
  refine ⟨w, m, l, i, j, rfl, hw, hl, hi, hj, hij, ?_⟩
  have en : m / w.getD j 1 * prodI (othI l i j) = nearI w m l j i := by unfold nearI; rw [oth_comm]
  have en2 : m / w.getD i 1 * prodI (othI l i j) = nearI w m l i j := rfl
  rw [en, en2]
  simp [-Bool.exists_bool]
  refine ⟨u, 2, 1000, rfl, hu1, hu2, ?_⟩
  simp [-Bool.exists_bool]
  refine ⟨_, _, rfl, tm, ?_⟩
  simp [-Bool.exists_bool, hu, hline]
  have L1s := iter_pst_bd (X := tabM (nearI w m l i j) (nearI w m l j i)) (p := l.getD i 0) (q := l.getD j 0) hu hu2
  unfold roadM at L2' L3
  simp only [List.getD_eq_getElem?_getD] at L1s L2' L3
  have eb : D.tup [.int (l[i]?.getD 0 % u), .int (l[j]?.getD 0 % u)] = pT (l[i]?.getD 0 % u, l[j]?.getD 0 % u) := rfl
  rw [eb]
  generalize tabM (nearI w m l i j) (nearI w m l j i) = X at *
  refine pst_comp (p := (l[i]?.getD 0 % u, l[j]?.getD 0 % u)) tb hu (mod_bd hu hu2 _) (mod_bd hu hu2 _) rfl rfl rfl (by simp) (by decide) ?_
  generalize (l[i]?.getD 0 % u, l[j]?.getD 0 % u) = p0 at *
  refine ⟨T - 1 + 1, loopN_of (fun k env st' => st' = st ∧ k + 1 ≤ T ∧ env = [some (eqT w m), some (tI l), some (.int (i : Nat)), some (.int (j : Nat)), some (.int u), some (.int (l[i]?.getD 0)), some (.int (l[j]?.getD 0)), some (.int (nearI w m l i j)), some (.int (nearI w m l j i)), some (.int u), some (tM X), some (.int ((k + 1 : Nat) : Int)), some (pT p0), some (pT (iter (pst u X) (k + 1) p0)), none]) (T - 1) 0
    ⟨rfl, L1, rfl⟩ (fun k env st' next h hn => ?_)⟩
  obtain ⟨rfl, hk, rfl⟩ := h
  by_cases he : k + 1 = T
  · have e : iter (pst u X) (k + 1) p0 = p0 := by rw [he]; exact L2'
    rw [e]
    simp [-Bool.exists_bool, cmp_neP2]
    have e2 : ((k : Int) + 1) = ((T : Nat) : Int) := by omega
    rw [e2]
    exact q
  · have e : iter (pst u X) (k + 1) p0 ≠ p0 := L3 _ (by omega) (by omega)
    simp [-Bool.exists_bool, cmp_neP2, e]
    refine pst_comp (p := iter (pst u X) (k + 1) p0) tb hu (L1s (k + 1)).1 (L1s (k + 1)).2 rfl rfl rfl (by simp) (by decide) ?_
    exact hn (by omega) _ _ ⟨rfl, by omega, rfl⟩
/-! law -/
def con_law : Con := fun ds st Q _ => ∃ (g : Nat) (l : List Int), ds = [.ref g] ∧ st[g]? = some (.ro (l.map D.int)) ∧ l.length ≤ 63 ∧ Q (.bl true) st
def F_law : Fn := ⟨"law", ["script"], con_law⟩
@[simp] theorem F_law_con : F_law.con = con_law := rfl
def N_law : List Str := ["script", "tin", "lap", "told_so", "root_so", "long_so", "here", "under_so", "first_so", "x", "word_so", "k", "end_so", "due", "got", "row_so", "j", "beside_so", "goal_so", "both_so", "round_so", "often_so", "more_so", "told_round", "rows_so", "at_so", "turn", "own"]
def SL1_0 : S := .set (.nms [3, 4]) (.call F__law_drawn [.var 1, .k (.int 6)])
def SL1_1 : S := .set (.nm 5) (.prim .len [.var 4])
def SL1_2 : S := .set (.nm 6) (.ix (.call F__law_up [.var 1, .var 3, .var 4, .call F__law_take [.var 1, .k (.int 3)]]) (.k (.int 1)))
def SL1_3 : S := .set (.nm 7) (.bin .add (.k (.int 2)) (.call F__law_take [.var 1, .k (.int 29)]))
def SL1_4 : S := .set (.nm 8) (.tmp (.prim .tuple [.lc (.nm 9) .seq [.var 6] none (.bin .mod (.var 9) (.var 7))]))
def SL1_5 : S := .set (.nm 10) (.prim .tuple [.lc (.nm 11) .range1 [.call F__law_take [.var 1, .k (.int 5)]] none (.call F__law_take [.var 1, .var 5])])
def SL1_6 : S := .set (.nm 12) (.call F__law_walk [.var 3, .var 6, .var 10])
def SL1_7 : S := .set (.nm 13) (.tmp (.prim .tuple [.lc (.nm 9) .seq [.var 12] none (.bin .mod (.var 9) (.var 7))]))
def SL1_8 : S := .set (.nm 14) (.lst [.callk F_rest_row [] ["equation", "solution", "modulus"] [0, 1, 2] [.var 3, .var 6, .var 7], .call F_rest_row [.var 3, .callk F_walked [] ["equation", "solution", "word"] [0, 1, 2] [.var 3, .var 6, .var 10], .var 7]])
def SL1_9 : S := .set (.nm 14) (.bin .add (.var 14) (.lst [.callk F_rest_walked [] ["equation", "modulus", "row", "word"] [0, 1, 2, 3] [.var 3, .var 7, .var 8, .var 10], .call F_rest_walked [.var 3, .var 7, .var 13, .callk F_word_back [] ["word"] [0] [.var 10]]]))
def SL1_10 : S := .set (.nm 14) (.bin .add (.var 14) (.lst [.call F_rest_walked [.var 3, .var 7, .var 8, .callk F_cut [] ["word"] [0] [.var 10]], .call F_rest_walked [.var 3, .var 7, .var 8, .bin .add (.var 10) (.rev (.var 10))]]))
def SL1_11 : S := .ife (.not (.call F__law_same [.var 14, .lst [.var 8, .var 13, .var 13, .var 8, .var 13, .var 8]])) [.ret (.k (.bl false))] []
def SL1_12 : S := .set (.nms [15, 11]) (.tup [.prim .tuple [.lc (.nm 16) .range1 [.var 5] none (.call F__law_take [.var 1, .var 7])], .call F__law_take [.var 1, .var 5]])
def SL1_13 : S := .set (.nm 17) (.tmp (.call F__law_prod [.lc (.nm 16) .range1 [.var 5] (some (.cmp .ne (.var 16) (.var 11))) (.ix (.var 15) (.var 16))]))
def SL1_14 : S := .set (.nm 18) (.bin .add (.bin .add (.sl (.var 15) none (some (.var 11))) (.tup [.bin .mod (.bin .sub (.bin .mul (.bin .fdiv (.ix (.var 3) (.k (.int 1))) (.ix (.ix (.var 3) (.k (.int 0))) (.var 11))) (.var 17)) (.ix (.var 15) (.var 11))) (.var 7)])) (.sl (.var 15) (some (.bin .add (.var 11) (.k (.int 1)))) none))
def SL1_15 : S := .set (.nm 14) (.lst [.callk F_rest_flip [] ["equation", "modulus", "row", "place"] [0, 1, 2, 3] [.var 3, .var 7, .var 15, .var 11], .call F_rest_flip [.var 3, .var 7, .var 18, .var 11]])
def SL1_16 : S := .ife (.not (.call F__law_same [.var 14, .lst [.var 18, .var 15]])) [.ret (.k (.bl false))] []
def SL1_17 : S := .set (.nm 19) (.prim .tuple [.call F__law_pick [.var 1, .prim .listrange [.var 5], .k (.int 2)]])
def SL1_18 : S := .set (.nm 20) (.callk F_road_round [] ["equation", "solution", "one", "other", "modulus"] [0, 1, 2, 3, 4] [.var 3, .var 6, .ix (.var 19) (.k (.int 0)), .ix (.var 19) (.k (.int 1)), .var 7])
def SL1_19 : S := .ife (.not (.call F__law_same [.callk F_word_round [] ["equation", "solution", "word", "modulus"] [0, 1, 2, 3] [.var 3, .var 6, .var 19, .var 7], .var 20])) [.ret (.k (.bl false))] []
def SL1_20 : S := .set (.nm 21) (.call F__law_take [.var 1, .k (.int 12)])
def SL1_21 : S := .set (.nm 13) (.call F_rest_walked [.var 3, .var 7, .var 8, .bin .mul (.var 19) (.var 21)])
def SL1_22 : S := .ife (.not (.call F__law_same [.callk F_road_rest [] ["equation", "solution", "one", "other", "often", "modulus"] [0, 1, 2, 3, 4, 5] [.var 3, .var 6, .ix (.var 19) (.k (.int 0)), .ix (.var 19) (.k (.int 1)), .var 21, .var 7], .tup [.ix (.var 13) (.ix (.var 19) (.k (.int 0))), .ix (.var 13) (.ix (.var 19) (.k (.int 1)))]])) [.ret (.k (.bl false))] []
def SL1_23 : S := .ife (.not (.call F__law_same [.cmp .eq (.call F_rest_walked [.var 3, .var 7, .var 8, .bin .mul (.var 19) (.bin .mod (.var 20) (.k (.int 400)))]) (.var 8), .or (.cmp .lt (.var 20) (.k (.int 400))) (.cmp .eq (.bin .mod (.var 20) (.k (.int 400))) (.k (.int 0)))])) [.ret (.k (.bl false))] []
def SL1_24 : S := .set (.nm 22) (.sl (.var 10) none (some (.k (.int 3))))
def SL1_25 : S := .set (.nm 23) (.callk F_word_round [] ["equation", "solution", "word", "modulus"] [0, 1, 2, 3] [.var 3, .var 6, .var 22, .var 7])
def SL1_26 : S := .ife (.cmp .le (.var 23) (.k (.int 300))) [.par [24, 25] [.lst [], .var 8], .forr (.nm 26) .range1 [.var 23] [.set (.nm 25) (.call F_rest_walked [.var 3, .var 7, .var 25, .var 22]), .expr (.meth .append (.var 24) [.var 25])], .ife (.tmp (.cmp .ne (.lc (.nm 27) .seq [.var 24] none (.cmp .eq (.var 27) (.var 8))) (.bin .add (.bin .mul (.lst [.k (.bl false)]) (.bin .sub (.var 23) (.k (.int 1)))) (.lst [.k (.bl true)])))) [.ret (.k (.bl false))] []] []
def BL1 : List S := [SL1_0, SL1_1, SL1_2, SL1_3, SL1_4, SL1_5, SL1_6, SL1_7, SL1_8, SL1_9, SL1_10, SL1_11, SL1_12, SL1_13, SL1_14, SL1_15, SL1_16, SL1_17, SL1_18, SL1_19, SL1_20, SL1_21, SL1_22, SL1_23, SL1_24, SL1_25, SL1_26]
def B_law : List S := [.set (.nm 1) (.call F__law_box [.call F__law_cells [.var 0, .k (.int 1)], .k (.int 0)]),
  .forr (.nm 2) .range1 [.k (.int 2)] BL1,
  .ret (.k (.bl true))]
theorem rv_of {w : List Int} {m u : Int} {h : List Int} (hh : SolOk w m h) (hu1 : 2 ≤ u) : RV u w.length (rsI u h) := ⟨by rw [rsI_length]; exact hh.1, rsI_rr (by omega) h⟩
theorem seq6 {st : Store} {a b : Nat} {A B : List D} {Q : Post} (ha : st[a]? = some (.lst A)) (hb : st[b]? = some (.lst B)) (h : A.length = B.length) (hl : A.length ≤ 1000) (hz : ∀ p ∈ A.zip B, SameD st 8 p.1 p.2) : SameD st 9 (.ref a) (.ref b) :=
  ⟨A, B, seq_at ha, seq_at hb, h, by show _ ≤ 1000000; omega, hz⟩
theorem same_tI {st : Store} {l : List Int} {k : Nat} (h : l.length ≤ 1000) : SameD st (k + 1) (tI l) (tI l) := same_fit (fit_tI (by show _ ≤ 1000000; omega))
theorem segB {n : Nat} {w h : List Int} {m u : Int} {v : List Nat} {st : Store} {N : En} {o0 o2 o4 o9 o11 o12 o14 o15 o16 o17 o18 o19 o20 o21 o22 o23 o24 o25 o26 o27 : Option D} (hw : EqOk w m) (hh : SolOk w m h) (hu1 : 2 ≤ u) (hu2 : u ≤ 30) (hv4 : v.length ≤ 100) (hv : ∀ k ∈ v, k < w.length) (hW : WalkOk w m h v) (hS : SolOk w m (walkI w m h v))
    (hN : ∀ p14 st', st <+: st' → N.nx [o0, some (.ref n), o2, some (eqT w m), o4, some (.int (h.length : Nat)), some (tI h), some (.int u), some (tI (rsI u h)), o9, some (tN v), o11, o12, some (tI (rsI u (walkI w m h v))), p14, o15, o16, o17, o18, o19, o20, o21, o22, o23, o24, o25, o26, o27] st') : wpSs [SL1_8, SL1_9, SL1_10, SL1_11] [o0, some (.ref n), o2, some (eqT w m), o4, some (.int (h.length : Nat)), some (tI h), some (.int u), some (tI (rsI u h)), o9, some (tN v), o11, o12, some (tI (rsI u (walkI w m h v))), o14, o15, o16, o17, o18, o19, o20, o21, o22, o23, o24, o25, o26, o27] st N := by
  have hlin : (line : Nat) = 1000000 := rfl
  have hu : 0 < u := by omega
  have hn6 : w.length ≤ 6 := hw.1.2.1
  have R := rv_of (u := u) hh hu1
  have hv' : ∀ k ∈ v, k < h.length := fun k hk => by rw [hh.1]; exact hv k hk
  have e0 : rsI u (walkI w m h v) = rwI w m u (rsI u h) v := rw_rs v h hv'
  rw [e0] at hN ⊢
  have RX := rw_rv (w := w) (m := m) hu R hv
  have hvF : ∀ k ∈ v, k < (rsI u h).length := fun k hk => by rw [R.1]; exact hv k hk
  have e1 : rwI w m u (rwI w m u (rsI u h) v) (cutL v.reverse) = rsI u h := by
    rw [rw_cut hu RX.2 (by intro k hk; rw [RX.1]; exact hv k (by simpa using hk))]
    exact rw_back hu R.2 hvF
  have e2 : rwI w m u (rsI u h) (cutL v) = rwI w m u (rsI u h) v := rw_cut hu R.2 hvF
  have e3 : rwI w m u (rsI u h) (v ++ v.reverse) = rsI u h := by rw [rw_append]; exact rw_back hu R.2 hvF
  have cl1 := cutL_length v
  have cl2 := cutL_length v.reverse
  rw [List.length_reverse] at cl2
  have l6 : ∀ {r : List Int}, RV u w.length r → r.length ≤ 1000 := fun h => by rw [h.1]; omega
  have two : 2 ≤ line := by omega
  have six : 6 ≤ line := by omega
  have four : 4 ≤ line := by omega
  simp [-Bool.exists_bool, SL1_8, reord]
  refine ⟨w, m, h, u, rfl, hw, hh, hu1, hu2, w, m, h, v, rfl, hw, hh, by omega, hv, hW, w, m, _, u, rfl, hw, hS, hu1, hu2, two, ?_⟩
  rw [e0]
  simp [-Bool.exists_bool, SL1_9, reord]
  refine ⟨w, m, u, _, v, rfl, hw, hu1, hu2, R, by omega, hv, v, rfl, by omega, fun k hk => by have := hv k hk; omega, w, m, u, _, _, rfl, hw, hu1, hu2, RX, by omega, fun k hk => hv k (by simpa using cutL_mem _ k hk), two, ?_⟩
  rw [e1, bin_addL (l := [tI (rsI u h), tI (rwI w m u (rsI u h) v)]) (r := [tI (rwI w m u (rsI u h) v), tI (rsI u h)]) (by simp) (by simp)]
  refine ⟨by show 4 ≤ line; exact four, ?_⟩
  simp [-Bool.exists_bool, SL1_10, reord]
  refine ⟨v, rfl, by omega, fun k hk => by have := hv k hk; omega, w, m, u, _, _, rfl, hw, hu1, hu2, R, by omega, fun k hk => hv k (cutL_mem _ k hk), ?_⟩
  have et : ∀ st : Store, ∀ Q : Post, revD (tN v) st Q = Q (tN v.reverse) st := fun st Q => by simp [tN, tI]
  have ea : ∀ st : Store, ∀ Q : Post, binD .add (tN v) (tN v.reverse) st Q = (v.length + v.reverse.length ≤ line ∧ Q (tN (v ++ v.reverse)) st) := fun st Q => by simp [tN, tI]
  simp only [et, ea]
  refine ⟨by rw [List.length_reverse]; omega, w, m, u, _, _, rfl, hw, hu1, hu2, R, by rw [List.length_append, List.length_reverse]; omega, fun k hk => hv k (by simpa using hk), two, ?_⟩
  rw [e2, e3, bin_addL (l := [tI (rsI u h), tI (rwI w m u (rsI u h) v)] ++ [tI (rwI w m u (rsI u h) v), tI (rsI u h)]) (r := [tI (rwI w m u (rsI u h) v), tI (rsI u h)]) (by simp) (by simp)]
  refine ⟨by show 6 ≤ line; exact six, ?_⟩
  simp [-Bool.exists_bool, SL1_11, reord]
  refine ⟨six, _, _, rfl, seq6 (A := [tI (rsI u h), tI (rwI w m u (rsI u h) v), tI (rwI w m u (rsI u h) v), tI (rsI u h), tI (rwI w m u (rsI u h) v), tI (rsI u h)]) (B := [tI (rsI u h), tI (rwI w m u (rsI u h) v), tI (rwI w m u (rsI u h) v), tI (rsI u h), tI (rwI w m u (rsI u h) v), tI (rsI u h)]) (Q := fun _ _ => True) (by simp) (by simp) rfl (by simp) (fun p hp => ?_), ?_⟩
  · simp at hp
    rcases hp with rfl | rfl | rfl | rfl | rfl | rfl <;> exact same_tI (l6 (by assumption))
  · simp [-Bool.exists_bool]
    exact hN _ _ (List.prefix_append _ _)
theorem drawT {n c cnt B b z : Nat} {env : Env'} {st1 : Store} {fin : Store → Prop} (h1 : env[1]? = some (some (.ref n))) (hb : env[b]? = some (some (.int (B : Nat)))) (hz1 : z ≠ 1) (hzb : z ≠ b) (ht : Tin st1 n c) (hc : c + cnt ≤ 1000000) (hB0 : 0 < B) (hB : B ≤ 1000000) (hcnt : cnt ≤ 1000)
    (hf : ∀ (xs : List Nat) st', xs.length = cnt → (∀ x ∈ xs, x < B) → But n st1 st' → Tin st' n (c + cnt) → st'[st1.length]? = some (.lst (xs.map fun (k : Nat) => D.int (k : Int))) → fin st') :
    ∃ l g, itemsD .range1 [.int (cnt : Nat)] st1 = some (l, g) ∧
      lcN st1.length g (fun x next st2 => asgD (.nm z) x env fun env' => wpC none env' st2 (fun r st3 =>
        (r = true → wpE (.call F__law_take [.var 1, .var b]) env' st3 (fun y st4 => ∃ acc, st4[st1.length]? = some (MO.lst acc) ∧ acc.length < line ∧ next (st4.set st1.length (.lst (acc ++ [y])))) (fun _ _ => False)) ∧
        (r = false → next st3)) (fun _ _ => False)) fin l (st1 ++ [.lst []]) := by
  have hlin : (line : Nat) = 1000000 := rfl
  refine ⟨_, _, items_range1 (by omega), ?_⟩
  refine lcN_of (fun i st' => i ≤ cnt ∧ ∃ xs : List Nat, xs.length = i ∧ (∀ x ∈ xs, x < B) ∧ But n st1 st' ∧ Tin st' n (c + i) ∧ st'[st1.length]? = some (.lst (xs.map fun (k : Nat) => D.int (k : Int))))
    ⟨Nat.zero_le _, [], rfl, by simp, But.pre (List.prefix_append _ _), ht.pre (List.prefix_append _ _), by simp⟩ (fun i st' _ _ => gOk_nil) (fun i x st' next hx h hn => ?_) (fun st' h => ?_)
  · obtain ⟨hi, xs, hl, hx2, hbu, ht', hs⟩ := h
    by_cases hlt : i < cnt
    · have e1 : (env.set z (some x))[1]? = some (some (.ref n)) := by rw [List.getElem?_set_ne hz1]; exact h1
      have e2 : (env.set z (some x))[b]? = some (some (.int (B : Nat))) := by rw [List.getElem?_set_ne hzb]; exact hb
      simp [-Bool.exists_bool, e1, e2]
      refine ⟨n, B, c + i, rfl, ht', by omega, hB0, hB, fun r st2 hr hb2 ht2 => ?_⟩
      have hn1 := ht.lt
      have g1 := hb2.2 _ _ (show st1.length ≠ n by omega) hs
      refine ⟨_, g1, by simp; omega, hn _ ⟨by omega, xs ++ [r], by simp [hl], fun y hy => ?_, ?_, ?_, ?_⟩⟩
      · rcases List.mem_append.mp hy with hy | hy
        · exact hx2 y hy
        · simp at hy; omega
      · refine ⟨by have := hbu.1; have := hb2.1; simp; omega, fun k' o' hk he => ?_⟩
        have hlt' : k' < st1.length := by
          rcases Nat.lt_or_ge k' st1.length with q' | q'
          · exact q'
          · rw [List.getElem?_eq_none q'] at he; cases he
        rw [List.getElem?_set_ne (by omega)]
        exact hb2.2 _ _ hk (hbu.2 _ _ hk he)
      · obtain ⟨b0, b1, b2, e, r'⟩ := ht2
        exact ⟨b0, b1, b2, by rw [List.getElem?_set_ne (by omega)]; exact e, by simpa [Nat.add_assoc] using r'⟩
      · rw [get_set g1]; simp
    · rw [List.getElem?_eq_none (by simp; omega)] at hx
      cases hx
  · obtain ⟨hi, xs, hl, hx2, hbu, ht', hs⟩ := h
    simp only [List.length_map, List.length_range] at hl ht'
    exact hf xs st' hl hx2 hbu ht' hs
theorem tN_eq (v : List Nat) : D.tup (v.map fun (k : Nat) => D.int (k : Int)) = tN v := by simp [tN, tI]
/-- the others, one by one -/
theorem oth1 {r : List Int} {k : Nat} (hk : k < r.length) : prodI ((((List.range r.length).filter fun j => !(j == k)).map fun j => r.getD j 0)) = prodI (r.take k ++ r.drop (k + 1)) := by
  have h1 : (k :: (List.range r.length).filter fun j => !(j == k)).Perm (List.range r.length) := by
    refine (List.perm_ext_iff_of_nodup ?_ List.nodup_range).2 fun a => ?_
    · exact List.nodup_cons.2 ⟨by simp, List.nodup_range.sublist List.filter_sublist⟩
    · simp only [List.mem_cons, List.mem_filter, List.mem_range]
      constructor
      · rintro (rfl | h)
        · exact hk
        · exact h.1
      · intro h
        by_cases e : a = k
        · exact .inl e
        · exact .inr ⟨h, by simp [e]⟩
  have h2 := h1.map fun j => r.getD j 0
  have h3 : (List.range r.length).map (fun j => r.getD j 0) = r := by
    apply List.ext_getElem
    · simp
    · intro j h1 h2
      simp at h1
      simp [h1]
  rw [h3] at h2
  have h4 := erase_at hk
  rw [List.eraseIdx_eq_take_drop_succ] at h4
  have e : r.getD k 0 = r[k] := by simp [hk]
  rw [List.map_cons, e] at h2
  exact prodI_perm ((h2.trans h4.symm).cons_inv)
theorem segC {n c : Nat} {w h : List Int} {m : Int} {u : Nat} {st : Store} {N : En} {o0 o2 o4 o9 o10 o11 o12 o13 o14 o15 o16 o17 o18 o19 o20 o21 o22 o23 o24 o25 o26 o27 : Option D} (hw : EqOk w m) (hh : SolOk w m h) (hu1 : 2 ≤ u) (hu2 : u ≤ 30) (ht : Tin st n c) (hc : c < 1000)
    (hN : ∀ p11 p14 p15 p17 p18 st', But n st st' → Tin st' n (c + 10) → N.nx [o0, some (.ref n), o2, some (eqT w m), o4, some (.int (h.length : Nat)), some (tI h), some (.int u), some (tI (rsI u h)), o9, o10, p11, o12, o13, p14, p15, o16, p17, p18, o19, o20, o21, o22, o23, o24, o25, o26, o27] st') : wpSs [SL1_12, SL1_13, SL1_14, SL1_15, SL1_16] [o0, some (.ref n), o2, some (eqT w m), o4, some (.int (h.length : Nat)), some (tI h), some (.int u), some (tI (rsI u h)), o9, o10, o11, o12, o13, o14, o15, o16, o17, o18, o19, o20, o21, o22, o23, o24, o25, o26, o27] st N := by
  have hlin : (line : Nat) = 1000000 := rfl
  have hlw : h.length = w.length := hh.1
  have hn6 : w.length ≤ 6 := hw.1.2.1
  have hn3 : 3 ≤ w.length := hw.1.1
  have two : 2 ≤ line := by omega
  have U1 : (2 : Int) ≤ (u : Int) := by omega
  have U2 : (u : Int) ≤ 30 := by omega
  have U0 : (0 : Int) < (u : Int) := by omega
  rw [wpSs_q1]
  simp only [SL1_12, wpS_q0, wpE_q13, wpEs_q1, wpEs_q0, wpE_q20]
  rw [wpE_lc]
  simp only [wpEs_q1, wpEs_q0, wpE_q0]
  refine ⟨_, rfl, ?_⟩
  refine drawT (n := n) (c := c) (B := u) rfl rfl (by decide) (by decide) ht (by omega) (by omega) (by omega) (by omega) fun xs st1 hl hx hb1 ht1 hs1 => ?_
  simp [-Bool.exists_bool, seq_at hs1]
  refine ⟨n, h.length, _, rfl, ht1, by omega, by omega, by omega, fun k st2 hk hb2 ht2 => ?_⟩
  have hRV : RV (u : Int) w.length (xs.map fun (k : Nat) => (k : Int)) := ⟨by simp [hl, hlw], fun x hx' => by
    obtain ⟨y, hy, rfl⟩ := List.mem_map.mp hx'
    have := hx y hy
    omega⟩
  have hkr : k < (xs.map fun (k : Nat) => (k : Int)).length := by simp; omega
  have er : D.tup (xs.map fun (k : Nat) => D.int (k : Int)) = tI (xs.map fun (k : Nat) => (k : Int)) := by simp [tI]
  rw [er]
  generalize (xs.map fun (k : Nat) => (k : Int)) = r at *
  have hsm : Sm r := rv_sm hw (by omega) hRV
  have hrl : r.length = h.length := by rw [hRV.1, hlw]
  simp [-Bool.exists_bool, SL1_13]
  refine ⟨two, ?_⟩
  refine wp_tmp (d := .int (prodI (r.take k ++ r.drop (k + 1)))) rfl (fun Q' hq Ex' => ?_) ?_
  · rw [wpE_q18]
    simp only [wpEs_q1, wpEs_q0]
    refine wp_lc (ds := [.int (h.length : Nat)]) (l := (List.range h.length).map fun (k : Nat) => D.int (k : Int)) (g := []) (fun x => .int (r.getD (toN x) 0)) (fun x => !(toN x == k)) (fun Q h => by simpa using h) (items_range1 (by omega)) gOk_nil (by simp; omega) (fun x hx => ⟨_, fun P h => h, fun st2 Q Ex hs h => ?_, fun _ st2 Q Ex hs h => ?_⟩) ?_
    · obtain ⟨j, hj, rfl⟩ := List.mem_map.mp hx
      simp [-Bool.exists_bool]
      have e : ((j : Int) != (k : Int)) = !(j == k) := by
        rw [Bool.eq_iff_iff]; simp; omega
      rw [e]; simpa [toN] using h
    · obtain ⟨j, hj, rfl⟩ := List.mem_map.mp hx
      have hj' : j < r.length := by rw [hrl]; simpa using hj
      simp [hj']
      simpa [toN, hj'] using h
    · have e : (((List.range h.length).map fun (k : Nat) => D.int (k : Int)).filter (fun x => !(toN x == k))).map (fun x => D.int (r.getD (toN x) 0)) = (((List.range r.length).filter fun j => !(j == k)).map fun j => r.getD j 0).map D.int := by
        rw [List.filter_map, List.map_map, List.map_map, hrl]
        rfl
      rw [e]
      refine ⟨_, (((List.range r.length).filter fun j => !(j == k)).map fun j => r.getD j 0), rfl, by simp only [intsOf, seqD, atEnd, Option.bind_some, intsD_map], ⟨?_, fun x hx => ?_⟩, ?_⟩
      · rw [List.length_map]
        have := List.length_filter_le (fun j => !(j == k)) (List.range r.length)
        simp at this ⊢
        omega
      · obtain ⟨j, hj, rfl⟩ := List.mem_map.mp hx
        have := (List.mem_filter.mp hj).1
        rw [List.mem_range] at this
        simp [this]
        exact hsm.2 _ (List.getElem_mem this)
      · rw [oth1 hkr]
        exact hq _ (List.prefix_append _ _)
  have e1 : cutD (r.map D.int) none (some (k : Int)) = (r.take k).map D.int := by rw [cut_take, List.map_take]
  have e2 : cutD (r.map D.int) (some ((k : Int) + 1)) none = (r.drop (k + 1)).map D.int := by
    have := cut_drop (l := r.map D.int) (k := k + 1)
    rw [List.map_drop, ← this]; rfl
  have hkw : k < w.length := by omega
  have hwk := hw.1.2.2 _ (List.getElem_mem hkw)
  have hsmp : ∀ x ∈ r.take k ++ r.drop (k + 1), x.natAbs < 2 ^ 4000 := fun x hx => by
    rcases List.mem_append.mp hx with h | h
    · exact hsm.2 x (List.mem_of_mem_take h)
    · exact hsm.2 x (List.mem_of_mem_drop h)
  have hdiv : (m / w[k]).natAbs < 2 ^ 4000 := by
    have h0 : 0 ≤ m / w[k] := Int.ediv_nonneg (by have := hw.2.1; omega) (by omega)
    have h1 : m / w[k] ≤ m := Int.ediv_le_self _ (by have := hw.2.1; omega)
    have h2 : (m / w[k]).natAbs < 2 ^ 6 := by have := hw.2.2.1; show _ < 64; omega
    exact Nat.lt_trans h2 (Nat.pow_lt_pow_right (by decide) (by decide))
  have hlen2 : (r.take k ++ r.drop (k + 1)).length ≤ 100 := by rw [List.length_append, List.length_take, List.length_drop]; omega
  have hmu : MulOk (m / w[k]) (prodI (r.take k ++ r.drop (k + 1))) := mulOk_of hdiv (prodI_bound _ 1 4000 1 hsmp (by decide)) (by have := Nat.mul_le_mul_left 4000 hlen2; omega)
  have hb := lt_big (j := w[k]) (by omega)
  have g1 : flG w m r k = m / w[k] * prodI (r.take k ++ r.drop (k + 1)) - r[k] := by simp [flG, hkw, hkr]
  have one : 1 ≤ line := by omega
  simp [-Bool.exists_bool, SL1_14, hkr, hkw, hmu, hb, U0, one]
  refine ⟨by omega, ?_⟩
  have hsl : ∀ {lo hi : Option Int} {st : Store} {Q : Post}, slD (tI r) lo hi st Q = Q (.tup (cutD (r.map D.int) lo hi)) st := rfl
  simp [-Bool.exists_bool, hsl, e1, e2]
  refine ⟨by omega, by omega, ?_⟩
  have eg : D.tup ((r.map D.int).take k ++ D.int ((m / w[k] * prodI (r.take k ++ r.drop (k + 1)) - r[k]) % (u : Int)) :: (r.map D.int).drop (k + 1)) = tI (rfI w m (u : Int) r k) := by
    simp [tI, rfI, g1]
  rw [eg]
  have RV2 := rv_keeps (w := w) (m := m) U0 r k hRV (by omega)
  have back := rv_back (w := w) (m := m) (n := w.length) r k hRV (by omega)
  simp [-Bool.exists_bool, SL1_15, reord]
  refine ⟨by omega, w, m, u, r, k, rfl, hw, U1, U2, hRV, hkw, w, m, u, _, k, rfl, hw, U1, U2, RV2, hkw, two, ?_⟩
  rw [back]
  simp [-Bool.exists_bool, SL1_16]
  refine ⟨two, _, _, rfl, seq6 (A := [tI (rfI w m u r k), tI r]) (B := [tI (rfI w m u r k), tI r]) (Q := fun _ _ => True) (by simp) (by simp) rfl (by simp) (fun p hp => ?_), ?_⟩
  · simp at hp
    rcases hp with rfl | rfl
    · exact same_tI (by rw [RV2.1]; omega)
    · exact same_tI (by rw [hRV.1]; omega)
  · simp [-Bool.exists_bool]
    refine hN _ _ _ _ _ _ ?_ ?_
    · exact (hb1.trans hb2).trans (But.pre (List.prefix_append _ _))
    · exact (ht2.mono (by omega)).pre (List.prefix_append _ _)
theorem oth_rs {u : Int} {h : List Int} {i j : Nat} : othI (rsI u h) i j = rsI u (othI h i j) := by
  unfold othI
  rw [rsI_length]
  simp only [rsI, List.map_map]
  apply List.map_congr_left
  intro k hk
  have := (List.mem_filter.mp hk).1
  rw [List.mem_range] at this
  simp [this]
theorem near_mod {w : List Int} {m u : Int} {h : List Int} {i j : Nat} : nearI w m h i j % u = (m / w.getD i 1 * prodI (othI (rsI u h) i j)) % u := by
  unfold nearI
  rw [oth_rs, Int.mul_emod, ← prodI_mod, ← Int.mul_emod]
theorem rs_get {u : Int} {h : List Int} {i : Nat} (hi : i < h.length) : (rsI u h).getD i 0 = h.getD i 0 % u := by
  simp [rsI, hi]
theorem rep_tN (t i j : Nat) : D.tup (List.replicate t [D.int (i : Int), D.int (j : Int)]).flatten = tN (List.replicate t [i, j]).flatten := by
  simp [tN, tI, List.map_flatten]
theorem rep_mem {t i j n : Nat} (hi : i < n) (hj : j < n) : ∀ k ∈ (List.replicate t [i, j]).flatten, k < n := by
  intro k hk
  simp only [List.mem_flatten, List.mem_replicate] at hk
  obtain ⟨l, ⟨_, rfl⟩, hk⟩ := hk
  simp at hk
  rcases hk with rfl | rfl <;> assumption
theorem rep_len (t i j : Nat) : (List.replicate t [i, j]).flatten.length = t * 2 := by simp
theorem segD {n c : Nat} {w h : List Int} {m : Int} {u : Nat} {st : Store} {N : En} {o0 o2 o4 o9 o10 o11 o12 o13 o14 o15 o16 o17 o18 o19 o20 o21 o22 o23 o24 o25 o26 o27 : Option D} (hw : EqOk w m) (hh : SolOk w m h) (hu1 : 2 ≤ u) (hu2 : u ≤ 30) (ht : Tin st n c) (hc : c < 1000)
    (hN : ∀ p13 p19 p20 p21 st', But n st st' → Tin st' n (c + 10) → N.nx [o0, some (.ref n), o2, some (eqT w m), o4, some (.int (h.length : Nat)), some (tI h), some (.int (u : Nat)), some (tI (rsI (u : Int) h)), o9, o10, o11, o12, p13, o14, o15, o16, o17, o18, p19, p20, p21, o22, o23, o24, o25, o26, o27] st') : wpSs [SL1_17, SL1_18, SL1_19, SL1_20, SL1_21, SL1_22, SL1_23] [o0, some (.ref n), o2, some (eqT w m), o4, some (.int (h.length : Nat)), some (tI h), some (.int (u : Nat)), some (tI (rsI (u : Int) h)), o9, o10, o11, o12, o13, o14, o15, o16, o17, o18, o19, o20, o21, o22, o23, o24, o25, o26, o27] st N := by
  have hlin : (line : Nat) = 1000000 := rfl
  have hlw : h.length = w.length := hh.1
  have hn6 : w.length ≤ 6 := hw.1.2.1
  have hn3 : 3 ≤ w.length := hw.1.1
  have U1 : (2 : Int) ≤ (u : Int) := by omega
  have U2 : (u : Int) ≤ 30 := by omega
  have U0 : (0 : Int) < (u : Int) := by omega
  have two : 2 ≤ line := by omega
  rw [wpSs_q1]
  simp only [SL1_17, wpS_q0, wpE_q20, wpE_q18, wpEs_q1, wpEs_q0, F__law_pick_con]
  simp [-Bool.exists_bool]
  refine ⟨by omega, n, .ref st.length, rangeD 0 h.length, 2, c, rfl, ht.pre (List.prefix_append _ _), by omega, by simp [seqD], by simp [rangeD]; omega, fun k hk => by have := ht.lt; cases hk; omega, fun found rest st1 b hp hfl hb1 ht1 hb2 hsb => ?_⟩
  have hp2 : (found ++ rest).Perm ((List.range h.length).map fun k : Nat => D.int (k : Int)) := by simpa [rangeD] using hp
  obtain ⟨ord, eo, po⟩ := perm_map_inv (f := fun k : Nat => D.int (k : Int)) (g := toN) (fun a => by simp [toN]) hp2
  have hnd : ord.Nodup := po.symm.nodup List.nodup_range
  have hfl2 : found.length = 2 := by simp [rangeD] at hfl; omega
  obtain ⟨x, y, rfl⟩ : ∃ x y, found = [x, y] := by
    match found, hfl2 with
    | [x, y], _ => exact ⟨x, y, rfl⟩
  obtain ⟨i, ord, rfl⟩ : ∃ i o, ord = i :: o := by cases ord <;> simp at eo ⊢
  obtain ⟨j, ord, rfl⟩ : ∃ j o, ord = j :: o := by cases ord <;> simp at eo ⊢
  simp at eo
  obtain ⟨rfl, rfl, rfl⟩ := eo
  have hij : i ≠ j := by simp at hnd; omega
  have hi : i < h.length := List.mem_range.mp (po.mem_iff.mp (by simp))
  have hj : j < h.length := List.mem_range.mp (po.mem_iff.mp (by simp))
  have hiw : i < w.length := by omega
  have hjw : j < w.length := by omega
  refine ⟨_, seq_at hsb, ?_⟩
  -- the rounds
  have R := rv_of (u := (u : Int)) hh U1
  have hv : ∀ k ∈ [i, j], k < w.length := by simp [hiw, hjw]
  obtain ⟨T', t1, t2, t3⟩ := round_two (w := w) (m := m) (v := [i, j]) U0 R hv (i := i) (j := j) (by simp)
  obtain ⟨T, LT, hTT⟩ := exists_least T' T' (Nat.le_refl _) t1 t3
  have hT9 : T ≤ 900 := by
    have : (u : Int).toNat * (u : Int).toNat ≤ 30 * 30 := Nat.mul_le_mul (by omega) (by omega)
    omega
  have ha := near_mod (w := w) (m := m) (u := (u : Int)) (h := h) (i := i) (j := j)
  have hb : nearI w m h j i % (u : Int) = (m / w.getD j 1 * prodI (othI (rsI (u : Int) h) i j)) % (u : Int) := by
    rw [near_mod, oth_comm]
  have two' := iter_two (w := w) (m := m) U0 R hij hiw hjw ha hb
  have LP := (least_two (w := w) (m := m) U0 R hij hiw hjw ha hb T).mp LT
  rw [rs_get hi, rs_get hj] at LP two'
  simp [-Bool.exists_bool, SL1_18, reord]
  refine ⟨w, m, h, i, j, u, T, rfl, hw, hh, hi, hj, hij, U1, by omega, LP, ?_⟩
  simp [-Bool.exists_bool, SL1_19, reord]
  refine ⟨w, m, h, [i, j], u, T, rfl, hw, hh, by simp, hv, U1, U2, by omega, LT, _, _, rfl, (show SameD st1 9 (.int (T : Nat)) (.int (T : Nat)) from rfl), ?_⟩
  simp [-Bool.exists_bool, SL1_20]
  refine ⟨n, 12, _, rfl, ht1, by omega, by omega, by omega, fun t st2 ht12 hb3 ht3 => ?_⟩
  simp [-Bool.exists_bool, SL1_21]
  refine ⟨by omega, ?_⟩
  rw [rep_tN]
  refine ⟨w, m, u, _, _, rfl, hw, U1, U2, R, by rw [rep_len]; omega, rep_mem hiw hjw, ?_⟩
  obtain ⟨e1, e2, e3⟩ := two' t
  rw [iter_rw, iter_pst] at e1
  have RX := rw_rv (w := w) (m := m) U0 R (v := (List.replicate t [i, j]).flatten) (rep_mem hiw hjw)
  generalize hX : rwI w m (u : Int) (rsI (u : Int) h) (List.replicate t [i, j]).flatten = X at *
  have hXi : X[i]? = some (X.getD i 0) := by have : i < X.length := by rw [RX.1]; exact hiw
                                             simp [this]
  have hXj : X[j]? = some (X.getD j 0) := by have : j < X.length := by rw [RX.1]; exact hjw
                                             simp [this]
  simp [-Bool.exists_bool, SL1_22, reord]
  refine ⟨w, m, h, i, j, t, u, rfl, hw, hh, hi, hj, hij, by omega, U1, by omega, ?_⟩
  rw [hXi, hXj]
  simp [-Bool.exists_bool]
  refine ⟨two, _, _, rfl, ?_, ?_⟩
  · have f1 : X.getD i 0 = (pst (u : Int) ((roadM w m h i j).pw t) (h.getD i 0, h.getD j 0)).1 := congrArg Prod.fst e1
    have f2 : X.getD j 0 = (pst (u : Int) ((roadM w m h i j).pw t) (h.getD i 0, h.getD j 0)).2 := congrArg Prod.snd e1
    simp only [List.getD_eq_getElem?_getD] at f1 f2
    rw [f1, f2]
    exact same_tI (by simp)
  simp [-Bool.exists_bool, SL1_23]
  have em : (T : Int) % 400 = ((T % 400 : Nat) : Int) := by omega
  rw [em]
  refine ⟨by omega, by omega, ?_⟩
  rw [show ((T % 400 : Nat) : Int).toNat = T % 400 by omega, rep_tN]
  refine ⟨w, m, u, _, _, rfl, hw, U1, U2, R, by rw [rep_len]; omega, rep_mem hiw hjw, ?_⟩
  have key : decide (rwI w m (u : Int) (rsI (u : Int) h) (List.replicate (T % 400) [i, j]).flatten = rsI (u : Int) h) = (decide (T < 400) || decide (T % 400 = 0)) := by
    rw [← iter_rw]
    by_cases h4 : T < 400
    · have : T % 400 = T := Nat.mod_eq_of_lt h4
      rw [this]
      simp [h4, LT.2.1]
    · by_cases h0 : T % 400 = 0
      · rw [h0]; simp [iter]
      · have := LT.2.2 (T % 400) (by omega) (by omega)
        simp [h4, h0, this]
  simp [-Bool.exists_bool, cmp_eqT, key]
  have bu : But n st st2 := ((But.pre (List.prefix_append _ _)).trans hb1).trans hb3
  refine ⟨fun h4 => ⟨_, _, rfl, ?_, ?_⟩, fun h4 => ⟨_, _, rfl, ?_, ?_⟩⟩
  · have : T < 400 := by omega
    simp [SameD, this, h4]
  · simp [-Bool.exists_bool]
    exact hN _ _ _ _ _ bu (ht3.mono (by omega))
  · have h5 : ¬ T < 400 := by omega
    simp only [SameD, h5, decide_false, Bool.false_or]
    rw [Bool.eq_iff_iff]; simp; omega
  · simp [-Bool.exists_bool]
    exact hN _ _ _ _ _ bu (ht3.mono (by omega))
theorem segE {n : Nat} {w h : List Int} {m : Int} {u : Nat} {v : List Nat} {st : Store} {N : En} {o0 o2 o4 o9 o11 o12 o13 o14 o15 o16 o17 o18 o19 o20 o21 o22 o23 o24 o25 o26 o27 : Option D} (hw : EqOk w m) (hh : SolOk w m h) (hu1 : 2 ≤ u) (hu2 : u ≤ 30) (hv4 : v.length ≤ 100) (hv : ∀ k ∈ v, k < w.length)
    (hN : ∀ p22 p23 p24 p25 p26 st', st <+: st' → N.nx [o0, some (.ref n), o2, some (eqT w m), o4, some (.int (h.length : Nat)), some (tI h), some (.int (u : Nat)), some (tI (rsI (u : Int) h)), o9, some (tN v), o11, o12, o13, o14, o15, o16, o17, o18, o19, o20, o21, p22, p23, p24, p25, p26, o27] st') : wpSs [SL1_24, SL1_25, SL1_26] [o0, some (.ref n), o2, some (eqT w m), o4, some (.int (h.length : Nat)), some (tI h), some (.int (u : Nat)), some (tI (rsI (u : Int) h)), o9, some (tN v), o11, o12, o13, o14, o15, o16, o17, o18, o19, o20, o21, o22, o23, o24, o25, o26, o27] st N := by
  have hlin : (line : Nat) = 1000000 := rfl
  have hn6 : w.length ≤ 6 := hw.1.2.1
  have U1 : (2 : Int) ≤ (u : Int) := by omega
  have U2 : (u : Int) ≤ 30 := by omega
  have U0 : (0 : Int) < (u : Int) := by omega
  have R := rv_of (u := (u : Int)) hh U1
  have hv3 : ∀ k ∈ v.take 3, k < w.length := fun k hk => hv k (List.mem_of_mem_take hk)
  have hl3 : (v.take 3).length ≤ 3 := by rw [List.length_take]; omega
  obtain ⟨T', t1, t2, t3⟩ := round_le (v := v.take 3) hw U1 U2 R hl3 hv3
  obtain ⟨T, LT, hTT⟩ := exists_least T' T' (Nat.le_refl _) t1 t3
  have e1 : cutD (v.map fun (k : Nat) => D.int (k : Int)) none (some 3) = (v.take 3).map fun (k : Nat) => D.int (k : Int) := by
    have := cut_take (l := v.map fun (k : Nat) => D.int (k : Int)) (k := 3)
    rw [List.map_take]; exact this
  have e1' : ∀ (st : Store) (Q : Post), slD (tN v) none (some 3) st Q = Q (tN (v.take 3)) st := fun st Q => by
    rw [← tN_eq, sl_tup, e1, tN_eq]
  simp [-Bool.exists_bool, SL1_24, e1', SL1_25, reord]
  refine ⟨w, m, h, v.take 3, u, T, rfl, hw, hh, by omega, hv3, U1, U2, by omega, LT, ?_⟩
  simp [-Bool.exists_bool, SL1_26]
  refine ⟨fun h300 => ?_, fun _ => hN _ _ _ _ _ _ (List.prefix_refl _)⟩
  have hT3 : T ≤ 300 := by omega
  refine ⟨_, _, items_range1 (n := T) (by omega), ?_⟩
  generalize hrows : (fun (i : Nat) => (List.range i).map fun (k : Nat) => tI (iter (fun r => rwI w m (u : Int) r (v.take 3)) (k + 1) (rsI (u : Int) h))) = rows
  refine forN_of (fun i env st' => i ≤ T ∧ st' = st ++ [.lst (rows i)] ∧ ∃ p26, env = [o0, some (.ref n), o2, some (eqT w m), o4, some (.int (h.length : Nat)), some (tI h), some (.int (u : Nat)), some (tI (rsI (u : Int) h)), o9, some (tN v), o11, o12, o13, o14, o15, o16, o17, o18, o19, o20, o21, some (tN (v.take 3)), some (.int (T : Nat)), some (.ref st.length), some (tI (iter (fun r => rwI w m (u : Int) r (v.take 3)) i (rsI (u : Int) h))), p26, o27]) ⟨Nat.zero_le _, by rw [← hrows]; rfl, _, rfl⟩ (fun i env st' _ _ => gOk_nil) (fun i x env st' next hx h hnx => ?_) (fun env st' h => ?_)
  · obtain ⟨hiT, rfl, p26, rfl⟩ := h
    by_cases hi : i < T
    · simp [hi] at hx
      subst hx
      have Ri := iter_rv (w := w) (m := m) U0 R hv3 i
      simp [-Bool.exists_bool]
      refine ⟨w, m, u, _, _, rfl, hw, U1, U2, Ri, by omega, hv3, ?_⟩
      refine ⟨⟨rows i, by simp⟩, ?_⟩
      rw [meth_append (l := rows i) (by simp)]
      have hlr : (rows i).length = i := by rw [← hrows]; simp
      refine ⟨by rw [hlr]; omega, hnx _ _ ⟨by omega, ?_, _, rfl⟩⟩
      rw [set_end]
      have : rows (i + 1) = rows i ++ [tI (rwI w m (u : Int) (iter (fun r => rwI w m (u : Int) r (v.take 3)) i (rsI (u : Int) h)) (v.take 3))] := by
        rw [← hrows]
        simp only [List.range_succ, List.map_append, List.map_cons, List.map_nil]
        rfl
      rw [this]
    · rw [List.getElem?_eq_none (by simp; omega)] at hx
      cases hx
  · obtain ⟨hiT, rfl, p26, rfl⟩ := h
    simp only [List.length_map, List.length_range]
    have hlr : (rows T).length = T := by rw [← hrows]; simp
    refine wp_tmp (d := .bl false) rfl (fun Q' hq Ex' => ?_) ?_
    · rw [wpE_q4]
      refine wp_lc (ds := [.ref st.length]) (l := rows T) (g := [(st.length, rows T)]) (fun x => D.bl (D.eqv x (tI (rsI (u : Int) h)))) (fun _ => true) (fun Q h => by simpa using h) (by simp [seqD, gOf]) (gOk_gOf (d := .ref st.length) (by simp [seqD])) (by rw [hlr]; omega) (fun x hx => ⟨_, fun P h => h, givesC_none, fun _ st2 Q Ex hs hq3 => ?_⟩) ?_
      · rw [← hrows] at hx
        obtain ⟨k, hk, rfl⟩ := List.mem_map.mp hx
        rw [eqv_ints] at hq3
        simp [-Bool.exists_bool, cmp_eqT]
        exact hq3
      · rw [filter_true]
        have hm : (rows T).map (fun x => D.bl (D.eqv x (tI (rsI (u : Int) h)))) = (List.replicate (T - 1) (D.bl false)) ++ [.bl true] := by
          rw [← hrows]
          simp only [List.map_map]
          apply List.ext_getElem
          · simp; have := LT.1; omega
          · intro k h1 h2
            simp at h1
            rw [List.getElem_map]
            simp only [Function.comp, List.getElem_range, eqv_ints]
            by_cases hk : k + 1 = T
            · have : iter (fun r => rwI w m (u : Int) r (v.take 3)) (k + 1) (rsI (u : Int) h) = rsI (u : Int) h := by rw [hk]; exact LT.2.1
              have hk2 : k = T - 1 := by omega
              subst hk2
              simp [this]
            · have := LT.2.2 (k + 1) (by omega) (by omega)
              have hk2 : k < T - 1 := by omega
              rw [List.getElem_append_left (by simpa using hk2)]
              simp [this]
        rw [hm]
        generalize hL : List.replicate (T - 1) (D.bl false) ++ [D.bl true] = L
        have pu : D.pureAll L = true := by
          rw [← hL]
          refine D.pureAll_of fun x hx => ?_
          rcases List.mem_append.mp hx with hx | hx
          · rw [(List.mem_replicate.mp hx).2]; rfl
          · simp at hx; subst hx; rfl
        have de : D.depthAll L = 0 := by
          have : ∀ l : List D, (∀ x ∈ l, D.depth x = 0) → D.depthAll l = 0 := by
            intro l
            induction l with
            | nil => intro _; rfl
            | cons a l ih => intro h; simp [D.depthAll, h a (by simp), ih fun x hx => h x (by simp [hx])]
          refine this L fun x hx => ?_
          rw [← hL] at hx
          rcases List.mem_append.mp hx with hx | hx
          · rw [(List.mem_replicate.mp hx).2]; rfl
          · simp at hx; subst hx; rfl
        have eqL : D.eqvAll L L = true := by
          have : ∀ l : List D, (∀ x ∈ l, D.eqv x x = true) → D.eqvAll l l = true := by
            intro l
            induction l with
            | nil => intro _; rfl
            | cons a l ih => intro h; simp [D.eqvAll, h a (by simp), ih fun x hx => h x (by simp [hx])]
          refine this L fun x hx => ?_
          rw [← hL] at hx
          rcases List.mem_append.mp hx with hx | hx
          · rw [(List.mem_replicate.mp hx).2]; rfl
          · simp at hx; subst hx; rfl
        have one : 1 ≤ line := by omega
        simp [-Bool.exists_bool, one]
        have bin_mulL : ∀ {a : Nat} {st : Store} {l : List D} {k : Int} {Q : Post}, st[a]? = some (.lst l) → binD .mul (.ref a) (.int k) st Q = (0 ≤ k ∧ k ≤ line ∧ l.length * k.toNat ≤ line ∧ Q (.ref st.length) (st ++ [.lst (List.replicate k.toNat l).flatten])) := fun h1 => by simp only [binD, h1]
        have hT1 := LT.1
        rw [bin_mulL (l := [.bl false]) (by simp)]
        refine ⟨by omega, by omega, by simp; omega, ?_⟩
        rw [bin_addL (l := (List.replicate ((T : Int) - 1).toNat [D.bl false]).flatten) (r := [.bl true]) (by simp) (by simp)]
        have eL : (List.replicate ((T : Int) - 1).toNat [D.bl false]).flatten ++ [D.bl true] = L := by
          rw [← hL, show ((T : Int) - 1).toNat = T - 1 by omega]
          congr 1
          generalize T - 1 = z
          induction z with
          | zero => rfl
          | succ z ih => simp [List.replicate_succ] at ih ⊢
        rw [eL]
        refine ⟨by simp; omega, false, ?_, hq _ ?_⟩
        · simp [cmpD, eqD, pu, de, eqL]
        · simp
    · exact ⟨false, rfl, fun h => Bool.noConfusion h, fun _ => hN _ _ _ _ _ _ (List.prefix_append _ _)⟩
theorem wpSs_app : ∀ (a b : List S) (env : Env') (st : Store) (N : En), wpSs (a ++ b) env st N = wpSs a env st { N with nx := fun e s => wpSs b e s N }
  | [], b, env, st, N => by simp only [List.nil_append, wpSs_q0]
  | s :: a, b, env, st, N => by
    simp only [List.cons_append, wpSs_q1]
    have : ∀ e s', wpSs (a ++ b) e s' N = wpSs a e s' { N with nx := fun e s => wpSs b e s N } := fun e s' => wpSs_app a b e s' N
    simp only [this]
theorem segAll {n c : Nat} {w h : List Int} {m : Int} {u : Nat} {v : List Nat} {st : Store} {N : En} {o0 o2 o4 o9 o11 o12 o14 o15 o16 o17 o18 o19 o20 o21 o22 o23 o24 o25 o26 o27 : Option D} (hw : EqOk w m) (hh : SolOk w m h) (hu1 : 2 ≤ u) (hu2 : u ≤ 30) (hv4 : v.length ≤ 100) (hv : ∀ k ∈ v, k < w.length) (hW : WalkOk w m h v) (hS : SolOk w m (walkI w m h v)) (ht : Tin st n c) (hc : c < 900)
    (hN : ∀ p11 p13 p14 p15 p17 p18 p19 p20 p21 p22 p23 p24 p25 p26 st', But n st st' → Tin st' n (c + 20) → N.nx [o0, some (.ref n), o2, some (eqT w m), o4, some (.int (h.length : Nat)), some (tI h), some (.int (u : Nat)), some (tI (rsI (u : Int) h)), o9, some (tN v), p11, o12, p13, p14, p15, o16, p17, p18, p19, p20, p21, p22, p23, p24, p25, p26, o27] st') : wpSs [SL1_8, SL1_9, SL1_10, SL1_11, SL1_12, SL1_13, SL1_14, SL1_15, SL1_16, SL1_17, SL1_18, SL1_19, SL1_20, SL1_21, SL1_22, SL1_23, SL1_24, SL1_25, SL1_26] [o0, some (.ref n), o2, some (eqT w m), o4, some (.int (h.length : Nat)), some (tI h), some (.int (u : Nat)), some (tI (rsI (u : Int) h)), o9, some (tN v), o11, o12, some (tI (rsI (u : Int) (walkI w m h v))), o14, o15, o16, o17, o18, o19, o20, o21, o22, o23, o24, o25, o26, o27] st N := by
  show wpSs ([SL1_8, SL1_9, SL1_10, SL1_11] ++ ([SL1_12, SL1_13, SL1_14, SL1_15, SL1_16] ++ ([SL1_17, SL1_18, SL1_19, SL1_20, SL1_21, SL1_22, SL1_23] ++ [SL1_24, SL1_25, SL1_26]))) _ _ _
  rw [wpSs_app]
  refine segB hw hh (by omega) (by omega) hv4 hv hW hS fun p14 st1 hs1 => ?_
  show wpSs _ _ _ _
  rw [wpSs_app]
  refine segC hw hh hu1 hu2 (ht.pre hs1) (by omega) fun p11 p14 p15 p17 p18 st2 hb2 ht2 => ?_
  show wpSs _ _ _ _
  rw [wpSs_app]
  refine segD hw hh hu1 hu2 ht2 (by omega) fun p13 p19 p20 p21 st3 hb3 ht3 => ?_
  show wpSs _ _ _ _
  refine segE hw hh hu1 hu2 hv4 hv fun p22 p23 p24 p25 p26 st4 hs4 => ?_
  exact hN _ _ _ _ _ _ _ _ _ _ _ _ _ _ _ (((But.pre hs1).trans hb2).trans (hb3.trans (But.pre hs4))) (ht3.pre hs4)
theorem modT {a : Nat} {l : List Int} {u : Int} {env : Env'} {st : Store} {Q : Post} {Ex : XPost} (ha : env[a]? = some (some (tI l))) (h7 : env[7]? = some (some (.int u))) (h9 : 9 < env.length) (hl : l.length ≤ 1000) (hu : 0 < u) (hQ : Q (tI (rsI u l)) st) :
    wpE (.tmp (.prim .tuple [.lc (.nm 9) .seq [.var a] none (.bin .mod (.var 9) (.var 7))])) env st Q Ex := by
  have hlin : (line : Nat) = 1000000 := rfl
  refine wp_tupc (ds := [tI l]) (l := l.map D.int) (g := []) (fun x => match x with | .int i => .int (i % u) | _ => .non) (fun _ => true) (fun Q Ex h => by simpa [ha] using h) rfl gOk_nil (by simp; omega) (fun x hx => ⟨_, fun P h => h, givesC_none, fun _ => ?_⟩) ?_
  · obtain ⟨i, hi, rfl⟩ := List.mem_map.mp hx
    refine ⟨rfl, fun st2 Q Ex hs h => ?_⟩
    have e9 : (env.set 9 (some (.int i)))[9]? = some (some (.int i)) := by simp [h9]
    have e7 : (env.set 9 (some (.int i)))[7]? = some (some (.int u)) := by rw [List.getElem?_set_ne (by decide)]; exact h7
    simp [-Bool.exists_bool, e9, e7, hu]
    exact h
  · simpa [filter_true, tI, rsI, Function.comp_def] using hQ
theorem law_law (ds : List D) (st : Store) (Q : Post) (Ex : XPost) (hlen : ds.length = 1) (h : con_law ds st Q Ex) : wpSs B_law (startD N_law ds) st (endF st Q Ex) := by
  obtain ⟨g, sc, rfl, hg, h63, q⟩ := h
  have hlin : (line : Nat) = 1000000 := rfl
  simp [-Bool.exists_bool, B_law, startD, N_law]
  refine ⟨g, sc, rfl, hg, h63, fun st1 b x hs1 hb => ⟨.ref b, [x], rfl, seq_at hb, by simp, by simp, fun st2 n hs2 hn ht => ?_⟩⟩
  have hnl : st.length ≤ n := by rw [hn]; exact hs1.length_le
  have hs12 := hs1.trans hs2
  refine ⟨_, _, items_range1 (n := 2) (by omega), ?_⟩
  refine forN_of (fun i env st' => i ≤ 2 ∧ st <+: st' ∧ Tin st' n (100 * i) ∧ ∃ o2 o3 o4 o5 o6 o7 o8 o9 o10 o11 o12 o13 o14 o15 o16 o17 o18 o19 o20 o21 o22 o23 o24 o25 o26 o27, env = [some (.ref g), some (.ref n), o2, o3, o4, o5, o6, o7, o8, o9, o10, o11, o12, o13, o14, o15, o16, o17, o18, o19, o20, o21, o22, o23, o24, o25, o26, o27]) ⟨by omega, hs12, ht, _, _, _, _, _, _, _, _, _, _, _, _, _, _, _, _, _, _, _, _, _, _, _, _, _, _, rfl⟩ (fun i env st' _ _ => gOk_nil) (fun i x env st' next hx h hnx => ?_) (fun env st' h => ?_)
  · obtain ⟨hi2, hs, ht, o2, o3, o4, o5, o6, o7, o8, o9, o10, o11, o12, o13, o14, o15, o16, o17, o18, o19, o20, o21, o22, o23, o24, o25, o26, o27, rfl⟩ := h
    by_cases hi : i < 2
    · simp [hi] at hx
      subst hx
      simp [-Bool.exists_bool, BL1, SL1_0]
      refine ⟨n, 100 * i, rfl, ht, by omega, fun w m l st3 R hb3 ht3 => ?_⟩
      have hw := R.eq
      have hwl := R.sol.1
      have hn6 : w.length ≤ 6 := hw.1.2.1
      have hn3 : 3 ≤ w.length := hw.1.1
      have h4t : 4 ≤ tallB w.length := by
        have : w.length = 3 ∨ w.length = 4 ∨ w.length = 5 ∨ w.length = 6 := by omega
        rcases this with h | h | h | h <;> rw [h] <;> decide
      simp [-Bool.exists_bool, SL1_1, SL1_2]
      refine ⟨n, 3, 100 * i + 7, rfl, ht3, by omega, by omega, by omega, fun t st4 ht3' hb4 ht4 => ?_⟩
      refine ⟨n, 100 * i + 7 + 1, w, m, l, t, rfl, ht4, by omega, R, by omega, fun u st5 hg5 hu5 hb5 ht5 => ?_⟩
      have U := R.up t u hu5 (by omega) hg5
      obtain ⟨_, W2, _⟩ := walk_any hw u l 210 R.sol (by have := R.sum0; omega) (by decide) hg5.lt
      have hSh : 2 * (shI w (walkI w m l u)).sum ≤ 210 ^ 4 := by
        refine Int.le_trans W2 ?_
        have : t = 0 ∨ t = 1 ∨ t = 2 := by omega
        rw [hu5]
        rcases this with h | h | h <;> rw [h] <;> decide
      have hhl := U.len
      have hsv := U.sol
      have hok := U.ok hw
      generalize walkI w m l u = h at *
      simp [-Bool.exists_bool, SL1_3]
      refine ⟨n, 29, _, rfl, ht5, by omega, by omega, by omega, fun k st6 hk hb6 ht6 => ?_⟩
      have e2 : (2 : Int) + (k : Int) = ((2 + k : Nat) : Int) := by omega
      simp only [bin_addI]
      rw [e2]
      have hU1 : 2 ≤ 2 + k := by omega
      have hU2 : 2 + k ≤ 30 := by omega
      generalize 2 + k = un at *
      simp only [SL1_4, wpS_q0, asg_nm]
      refine modT (l := h) (u := (un : Int)) rfl rfl (by simp) (by omega) (by omega) ?_
      simp only [SL1_5, wpS_q0, wpE_q20, wpEs_q1, wpEs_q0]
      rw [wpE_lc]
      simp only [wpEs_q1, wpEs_q0, wpE_q18, wpE_q0, wpE_q1, F__law_take_con]
      refine ⟨_, rfl, n, 5, _, rfl, ht6, by omega, by omega, by omega, fun cnt st7 hcnt hb7 ht7 => ?_⟩
      refine drawT (n := n) (B := l.length) (b := 5) rfl rfl (by decide) (by decide) ht7 (by omega) (by omega) (by omega) (by omega) fun v st8 hvl hvx hb8 ht8 hs8 => ?_
      simp [-Bool.exists_bool, seq_at hs8]
      rw [tN_eq]
      have hv : ∀ k ∈ v, k < w.length := fun k hk => by have := hvx k hk; omega
      obtain ⟨S1, S2, S3⟩ := walk_any hw v h (210 ^ 4) hsv hSh (by decide) (fun k hk => by have := hvx k hk; omega)
      have hpow : ((210 : Int) ^ 4) ^ (2 ^ v.length) ≤ 10 ^ 200 := by
        have : v.length = 0 ∨ v.length = 1 ∨ v.length = 2 ∨ v.length = 3 ∨ v.length = 4 := by omega
        rcases this with h | h | h | h | h <;> rw [h] <;> decide +kernel
      have hbn : (10 : Int) ^ 200 < BN := by decide +kernel
      have hW : WalkOk w m h v := S3 (by omega)
      have hS : SolOk w m (walkI w m h v) := S1.ok hw (by
        have h1 := S2
        have : (shI w (walkI w m h v)).sum ≤ 2 * (shI w (walkI w m h v)).sum := by
          have : 0 ≤ (shI w (walkI w m h v)).sum := sum_nonneg fun x hx => by have := (S1.sh hw).1 x hx; omega
          omega
        omega)
      simp [-Bool.exists_bool, SL1_6]
      refine ⟨w, m, h, v, rfl, hw, hok.1.symm, hW, ?_⟩
      simp only [SL1_7, wpS_q0, asg_nm]
      refine modT (l := walkI w m h v) (u := (un : Int)) rfl rfl (by simp) (by have := hS.1; omega) (by omega) ?_
      have SA := @segAll
      simp only [wpSs_q1, wpSs_q0] at SA
      have el : (l.length : Int) = (h.length : Nat) := by omega
      rw [el]
      refine SA (N := ⟨next, orP st Q, fun _ st1 => orP st Q (.bl true) st1, next, (endF st Q Ex).ex⟩) hw hok hU1 hU2 (by omega) hv hW hS ht8 (by omega) fun p11 p13 p14 p15 p17 p18 p19 p20 p21 p22 p23 p24 p25 p26 st9 hb9 ht9 => ?_
      refine hnx _ _ ⟨by omega, ?_, ht9.mono (by omega), _, _, _, _, _, _, _, _, _, _, _, _, _, _, _, _, _, _, _, _, _, _, _, _, _, _, rfl⟩
      exact pre_but hs hnl (((((hb3.trans hb4).trans hb5).trans hb6).trans (hb7.trans hb8)).trans hb9)
    · rw [List.getElem?_eq_none (by simp; omega)] at hx
      cases hx
  · obtain ⟨_, hs, ht, o2, o3, o4, o5, o6, o7, o8, o9, o10, o11, o12, o13, o14, o15, o16, o17, o18, o19, o20, o21, o22, o23, o24, o25, o26, o27, rfl⟩ := h
    exact .inr ⟨rfl, hs, q⟩
end Pf

set_option maxHeartbeats 0
namespace Hd
open PySem PySem.Spec PyProof.Rows L2
def top (i : Nat) : Stmt := PySem.Challenge.pw_flippedthrees_k62_across_rests_words_and.main.body.getD i (.Pass ⟨0, 0, 0, 0⟩)
def mkD (x : Str) (i : Nat) : He.DefD := ⟨(x, none), x, x, defArgs (top i), defBody (top i), defScope (top i), [], []⟩
def fn : List He.DefD := [mkD "is_number" 4, mkD "is_within" 5, mkD "is_long" 6, mkD "are_numbers" 7, mkD "tupled" 8, mkD "sure_within" 9, mkD "are_weights" 17, mkD "is_equation_in" 18, mkD "sure_equation" 19, mkD "product_of" 20, mkD "shares_in" 21, mkD "sides_in" 22, mkD "are_from_one" 23, mkD "is_solution_in" 24, mkD "sure_solution" 25, mkD "sure_place" 26, mkD "is_word_in" 27, mkD "sure_word" 28, mkD "sure_modulus" 33, mkD "is_rest_row_in" 34, mkD "sure_rest_row" 35, mkD "rests_in" 36, mkD "rest_flipped" 37, mkD "rest_walked_in" 38, mkD "rest_row" 39, mkD "rest_flip" 40, mkD "rest_walked" 41, mkD "word_round" 42, mkD "flipped_in" 44, mkD "walked_in" 45, mkD "walked" 46, mkD "sure_road" 50, mkD "table_of" 51, mkD "table_times" 52, mkD "table_power" 53, mkD "road_rest" 54, mkD "road_round" 55, mkD "cut_in" 57, mkD "cut" 58, mkD "word_back" 59, mkD "_law_box" 61, mkD "_law_take" 62, mkD "_law_cells" 63, mkD "_law_of" 64, mkD "_law_pick" 65, mkD "_law_same" 66, mkD "_law_prod" 67, mkD "_law_flip" 68, mkD "_law_idle" 69, mkD "_law_walk" 70, mkD "_law_known" 71, mkD "_law_mixed" 72, mkD "_law_drawn" 73, mkD "_law_up" 74, mkD "law" 75]
def fa0 : List He.Fa := [.glo "is_number", .glo "is_within", .glo "is_long", .glo "are_numbers", .glo "tupled", .glo "sure_within", .glo "are_weights", .glo "is_equation_in", .glo "sure_equation", .glo "product_of", .glo "shares_in", .glo "sides_in", .glo "are_from_one", .glo "is_solution_in", .glo "sure_solution", .glo "sure_place", .glo "is_word_in", .glo "sure_word", .glo "sure_modulus", .glo "is_rest_row_in", .glo "sure_rest_row", .glo "rests_in", .glo "rest_flipped", .glo "rest_walked_in", .glo "rest_row", .glo "rest_flip", .glo "rest_walked", .glo "word_round", .glo "flipped_in", .glo "walked_in"]
def fa1 : List He.Fa := [.glo "walked", .glo "sure_road", .glo "table_of", .glo "table_times", .glo "table_power", .glo "road_rest", .glo "road_round", .glo "cut_in", .glo "cut", .glo "word_back", .glo "_law_box", .glo "_law_take", .glo "_law_cells", .glo "_law_of", .glo "_law_pick", .glo "_law_same", .glo "_law_prod", .glo "_law_flip", .glo "_law_idle", .glo "_law_walk", .glo "_law_known", .glo "_law_mixed", .glo "_law_drawn", .glo "_law_up", .glo "law", .glo "TooMany", .glo "Unfit", .int "LEAST_PLACES" (3), .int "MOST_PLACES" (6), .int "MOST_WEIGHT" (12)]
def fa2 : List He.Fa := [.int "MOST_FACTOR" (60), .int "BELOW_NUMBER" (10 ^ 400), .int "MOST_WORD" (5000), .int "LEAST_MODULUS" (2), .int "MOST_MODULUS_rests" (30), .int "MOST_LAPS" (20000), .int "MOST_OFTEN" (1000000000000000000), .int "MOST_MODULUS_roads" (1000), .free "ValueError", .free "abs", .free "all", .free "any", .free "bool", .free "enumerate", .free "int", .free "isinstance", .free "len", .free "list", .free "max", .free "min", .free "range", .free "str", .free "sum", .free "tuple", .free "zip", .exc "TooMany", .exc "Unfit"]
def fa : List He.Fa := fa0 ++ fa1 ++ fa2
def lo0 : List PySem.Str := ["TooMany", "Unfit", "is_number", "is_within", "is_long", "are_numbers", "tupled", "sure_within", "LEAST_PLACES", "MOST_PLACES", "MOST_WEIGHT", "MOST_FACTOR", "BELOW_NUMBER", "MOST_WORD", "are_weights", "is_equation_in", "sure_equation", "product_of", "shares_in", "sides_in", "are_from_one", "is_solution_in", "sure_solution", "sure_place", "is_word_in", "sure_word", "LEAST_MODULUS", "MOST_MODULUS_rests", "MOST_LAPS", "sure_modulus"]
def lo1 : List PySem.Str := ["is_rest_row_in", "sure_rest_row", "rests_in", "rest_flipped", "rest_walked_in", "rest_row", "rest_flip", "rest_walked", "word_round", "flipped_in", "walked_in", "walked", "MOST_OFTEN", "MOST_MODULUS_roads", "sure_road", "table_of", "table_times", "table_power", "road_rest", "road_round", "cut_in", "cut", "word_back", "_law_box", "_law_take", "_law_cells", "_law_of", "_law_pick", "_law_same", "_law_prod"]
def lo2 : List PySem.Str := ["_law_flip", "_law_idle", "_law_walk", "_law_known", "_law_mixed", "_law_drawn", "_law_up"]
def loose : List PySem.Str := lo0 ++ lo1 ++ lo2
abbrev R : PySem.W.OpenRow := PySem.W.OpenLaw.row PySem.Challenge.rw_flippedthrees_k62_across_rests_words_and
abbrev hk : PySem.W.Hook := He.hookD 4 fa fn
def ob (s : PySem.W.SharedT) : He.AlD := He.obsDG 4 fa fn (HandSHeadRun.getT s)
theorem ob_eq (s : PySem.W.SharedT) : ob s = hk.obs s.abs := He.obsDG_eq (HandSHeadRun.getT_eq s)
def mx : Nat := 12000
theorem run (w : World) : HandSHeadRun.RunEq R (PySem.W.view R.prog [75]) hk ob 12000 loose w := by
  intro os
  kernel_rfl
end Hd

set_option maxHeartbeats 4000000
namespace Pf
open PySem PySem.Spec PyProof.Rows L2 Ev
theorem frees {K : PySem.W.Frag} {h : Heap} {mg : Str → Option Value} (X : K.In h) (G : h.Ns mainGlobals mg) (c : He.SaysD Hd.fa Hd.fn K) : ∀ x ∈ bltNames, mg x = none := by
  intro x hx
  simp only [bltNames, List.mem_cons, List.not_mem_nil, or_false] at hx
  rcases hx with rfl | rfl | rfl | rfl | rfl | rfl | rfl | rfl | rfl | rfl | rfl | rfl | rfl | rfl | rfl | rfl
  · exact He.free_ok X G (c.fact 76 (f := .free "len") rfl)
  · exact He.free_ok X G (c.fact 83 (f := .free "tuple") rfl)
  · exact He.free_ok X G (c.fact 77 (f := .free "list") rfl)
  · exact He.free_ok X G (c.fact 82 (f := .free "sum") rfl)
  · exact He.free_ok X G (c.fact 78 (f := .free "max") rfl)
  · exact He.free_ok X G (c.fact 79 (f := .free "min") rfl)
  · exact He.free_ok X G (c.fact 69 (f := .free "abs") rfl)
  · exact He.free_ok X G (c.fact 74 (f := .free "int") rfl)
  · exact He.free_ok X G (c.fact 70 (f := .free "all") rfl)
  · exact He.free_ok X G (c.fact 71 (f := .free "any") rfl)
  · exact He.free_ok X G (c.fact 75 (f := .free "isinstance") rfl)
  · exact He.free_ok X G (c.fact 72 (f := .free "bool") rfl)
  · exact He.free_ok X G (c.fact 81 (f := .free "str") rfl)
  · exact He.free_ok X G (c.fact 80 (f := .free "range") rfl)
  · exact He.free_ok X G (c.fact 73 (f := .free "enumerate") rfl)
  · exact He.free_ok X G (c.fact 84 (f := .free "zip") rfl)
variable {P : Program} {w : World} {K : PySem.W.Frag} {h base : Heap} {mg : Str → Option Value}
theorem sc_is_number : FnScope N_is_number ["thing"] (defScope (top 4)) := ⟨rfl, rfl, rfl, by decide +kernel, rfl, by decide +kernel, by decide +kernel⟩
theorem tr_is_number : trSs N_is_number (defScope (top 4)) (B_is_number) (defBody (top 4)) = true := by kernel_rfl
theorem kn_is_number (U : Ux Hd.fa Hd.fn K h mg) : KnG P w K mg base (xaK K) 0 B_is_number := by
  simp only [KnG, B_is_number, KnSs, KnS, KnE, KnEs, KnO, and_true, true_and, List.length_nil, List.length_cons, Nat.reduceAdd]
theorem okF_is_number (U : Ux Hd.fa Hd.fn K h mg) : ∃ fd, FunD K "is_number" "is_number" (defArgs (top 4)) (defBody (top 4)) (defScope (top 4)) [] [] (He.ga K "is_number") fd ∧ FnOk P w K mg base (L2.CX P w) 1 (He.ga K "is_number") fd ["thing"] (spD K (xaK K) 1 con_is_number) := by
  obtain ⟨fd, F⟩ := U.c.def_ 0 (d := Hd.mkD "is_number" 4) rfl
  exact ⟨fd, F, fn_ok U.free F sc_is_number tr_is_number (kn_is_number U) law_is_number⟩
theorem ok_is_number (U : Ux Hd.fa Hd.fn K h mg) : FnG P w K mg base (xaK K) 1 F_is_number := by
  obtain ⟨fd, F, ok⟩ := okF_is_number (P := P) (w := w) (base := base) U
  exact ⟨_, fd, U.glo 0 (x := "is_number") rfl, F.kp, ok, F.bindsN fun _ _ _ _ _ _ us hl => match us, hl with | [_], _ => rfl⟩
theorem sc_is_long : FnScope N_is_long ["thing", "length"] (defScope (top 6)) := ⟨rfl, rfl, rfl, by decide +kernel, rfl, by decide +kernel, by decide +kernel⟩
theorem tr_is_long : trSs N_is_long (defScope (top 6)) (B_is_long) (defBody (top 6)) = true := by kernel_rfl
theorem kn_is_long (U : Ux Hd.fa Hd.fn K h mg) : KnG P w K mg base (xaK K) 0 B_is_long := by
  simp only [KnG, B_is_long, KnSs, KnS, KnE, KnEs, KnO, and_true, true_and, List.length_nil, List.length_cons, Nat.reduceAdd]
theorem okF_is_long (U : Ux Hd.fa Hd.fn K h mg) : ∃ fd, FunD K "is_long" "is_long" (defArgs (top 6)) (defBody (top 6)) (defScope (top 6)) [] [] (He.ga K "is_long") fd ∧ FnOk P w K mg base (L2.CX P w) 1 (He.ga K "is_long") fd ["thing", "length"] (spD K (xaK K) 2 con_is_long) := by
  obtain ⟨fd, F⟩ := U.c.def_ 2 (d := Hd.mkD "is_long" 6) rfl
  exact ⟨fd, F, fn_ok U.free F sc_is_long tr_is_long (kn_is_long U) law_is_long⟩
theorem ok_is_long (U : Ux Hd.fa Hd.fn K h mg) : FnG P w K mg base (xaK K) 1 F_is_long := by
  obtain ⟨fd, F, ok⟩ := okF_is_long (P := P) (w := w) (base := base) U
  exact ⟨_, fd, U.glo 2 (x := "is_long") rfl, F.kp, ok, F.bindsN fun _ _ _ _ _ _ us hl => match us, hl with | [_, _], _ => rfl⟩
theorem sc_tupled : FnScope N_tupled ["value"] (defScope (top 8)) := ⟨rfl, rfl, rfl, by decide +kernel, rfl, by decide +kernel, by decide +kernel⟩
def Fz_tupled : Fn := ⟨"tupled", ["value"], fun _ _ _ _ => False⟩
theorem trz_tupled : trSs N_tupled (defScope (top 8)) (B_tupled Fz_tupled) (defBody (top 8)) = true := by kernel_rfl
theorem tr_tupled (n : Nat) : trSs N_tupled (defScope (top 8)) (B_tupled (Fr_tupled n)) (defBody (top 8)) = true := by kernel_rfl
theorem okR_tupled (U : Ux Hd.fa Hd.fn K h mg) : ∃ fd, FunD K "tupled" "tupled" (defArgs (top 8)) (defBody (top 8)) (defScope (top 8)) [] [] (He.ga K "tupled") fd ∧ ∀ n, FnOk P w K mg base (L2.CX P w) (0 + n + 1) (He.ga K "tupled") fd ["value"] (spD K (xaK K) 1 (con_tupled n)) := by
  obtain ⟨fd, F⟩ := U.c.def_ 4 (d := Hd.mkD "tupled" 8) rfl
  have b : Binds K fd ["value"] [] := F.bindsN fun _ _ _ _ _ _ us hl => match us, hl with | [_], _ => rfl
  refine ⟨fd, F, fun n => ?_⟩
  induction n with
  | zero =>
    have f_self : FnG P w K mg base (xaK K) 0 Fz_tupled := ⟨_, fd, U.glo 4 (x := "tupled") rfl, F.kp, ⟨fun _ _ _ _ h => h.1, fun A outer s H args us vs Q E _ _ _ _ hs => by obtain ⟨_, _, _, _, _, _, _, _, hf, _⟩ := hs; exact hf.elim⟩, b⟩
    exact fn_ok U.free F sc_tupled trz_tupled (by simp only [KnG, B_tupled, KnSs, KnS, KnE, KnEs, KnO, and_true, true_and, f_self]) (fun ds st Q Ex hl h => law_tupled0 ds st Q Ex hl h _)
  | succ n ih =>
    have f_self : FnG P w K mg base (xaK K) (0 + (n + 1)) (Fr_tupled n) := ⟨_, fd, U.glo 4 (x := "tupled") rfl, F.kp, ih, b⟩
    exact fn_ok U.free F sc_tupled (tr_tupled n) (by simp only [KnG, B_tupled, KnSs, KnS, KnE, KnEs, KnO, and_true, true_and, f_self]) (law_tupled n)
theorem ok_tupled (U : Ux Hd.fa Hd.fn K h mg) : FnG P w K mg base (xaK K) (0 + 10) F_tupled := by
  obtain ⟨fd, F, ok⟩ := okR_tupled (P := P) (w := w) (base := base) U
  exact ⟨_, fd, U.glo 4 (x := "tupled") rfl, F.kp, ok 9, F.bindsN fun _ _ _ _ _ _ us hl => match us, hl with | [_], _ => rfl⟩
theorem sc_product_of : FnScope N_product_of ["numbers"] (defScope (top 20)) := ⟨rfl, rfl, rfl, by decide +kernel, rfl, by decide +kernel, by decide +kernel⟩
theorem tr_product_of : trSs N_product_of (defScope (top 20)) (B_product_of) (defBody (top 20)) = true := by kernel_rfl
theorem kn_product_of (U : Ux Hd.fa Hd.fn K h mg) : KnG P w K mg base (xaK K) 0 B_product_of := by
  simp only [KnG, B_product_of, KnSs, KnS, KnE, KnEs, KnO, and_true, true_and, List.length_nil, List.length_cons, Nat.reduceAdd]
theorem okF_product_of (U : Ux Hd.fa Hd.fn K h mg) : ∃ fd, FunD K "product_of" "product_of" (defArgs (top 20)) (defBody (top 20)) (defScope (top 20)) [] [] (He.ga K "product_of") fd ∧ FnOk P w K mg base (L2.CX P w) 1 (He.ga K "product_of") fd ["numbers"] (spD K (xaK K) 1 con_product_of) := by
  obtain ⟨fd, F⟩ := U.c.def_ 9 (d := Hd.mkD "product_of" 20) rfl
  exact ⟨fd, F, fn_ok U.free F sc_product_of tr_product_of (kn_product_of U) law_product_of⟩
theorem ok_product_of (U : Ux Hd.fa Hd.fn K h mg) : FnG P w K mg base (xaK K) 1 F_product_of := by
  obtain ⟨fd, F, ok⟩ := okF_product_of (P := P) (w := w) (base := base) U
  exact ⟨_, fd, U.glo 9 (x := "product_of") rfl, F.kp, ok, F.bindsN fun _ _ _ _ _ _ us hl => match us, hl with | [_], _ => rfl⟩
theorem sc_shares_in : FnScope N_shares_in ["equation", "numbers"] (defScope (top 21)) := ⟨rfl, rfl, rfl, by decide +kernel, rfl, by decide +kernel, by decide +kernel⟩
theorem tr_shares_in : trSs N_shares_in (defScope (top 21)) (B_shares_in) (defBody (top 21)) = true := by kernel_rfl
theorem kn_shares_in (U : Ux Hd.fa Hd.fn K h mg) : KnG P w K mg base (xaK K) 0 B_shares_in := by
  simp only [KnG, B_shares_in, KnSs, KnS, KnE, KnEs, KnO, and_true, true_and, List.length_nil, List.length_cons, Nat.reduceAdd]
theorem okF_shares_in (U : Ux Hd.fa Hd.fn K h mg) : ∃ fd, FunD K "shares_in" "shares_in" (defArgs (top 21)) (defBody (top 21)) (defScope (top 21)) [] [] (He.ga K "shares_in") fd ∧ FnOk P w K mg base (L2.CX P w) 1 (He.ga K "shares_in") fd ["equation", "numbers"] (spD K (xaK K) 2 con_shares_in) := by
  obtain ⟨fd, F⟩ := U.c.def_ 10 (d := Hd.mkD "shares_in" 21) rfl
  exact ⟨fd, F, fn_ok U.free F sc_shares_in tr_shares_in (kn_shares_in U) law_shares_in⟩
theorem ok_shares_in (U : Ux Hd.fa Hd.fn K h mg) : FnG P w K mg base (xaK K) 1 F_shares_in := by
  obtain ⟨fd, F, ok⟩ := okF_shares_in (P := P) (w := w) (base := base) U
  exact ⟨_, fd, U.glo 10 (x := "shares_in") rfl, F.kp, ok, F.bindsN fun _ _ _ _ _ _ us hl => match us, hl with | [_, _], _ => rfl⟩
theorem sc_rests_in : FnScope N_rests_in ["numbers", "modulus"] (defScope (top 36)) := ⟨rfl, rfl, rfl, by decide +kernel, rfl, by decide +kernel, by decide +kernel⟩
theorem tr_rests_in : trSs N_rests_in (defScope (top 36)) (B_rests_in) (defBody (top 36)) = true := by kernel_rfl
theorem kn_rests_in (U : Ux Hd.fa Hd.fn K h mg) : KnG P w K mg base (xaK K) 0 B_rests_in := by
  simp only [KnG, B_rests_in, KnSs, KnS, KnE, KnEs, KnO, and_true, true_and, List.length_nil, List.length_cons, Nat.reduceAdd]
theorem okF_rests_in (U : Ux Hd.fa Hd.fn K h mg) : ∃ fd, FunD K "rests_in" "rests_in" (defArgs (top 36)) (defBody (top 36)) (defScope (top 36)) [] [] (He.ga K "rests_in") fd ∧ FnOk P w K mg base (L2.CX P w) 1 (He.ga K "rests_in") fd ["numbers", "modulus"] (spD K (xaK K) 2 con_rests_in) := by
  obtain ⟨fd, F⟩ := U.c.def_ 21 (d := Hd.mkD "rests_in" 36) rfl
  exact ⟨fd, F, fn_ok U.free F sc_rests_in tr_rests_in (kn_rests_in U) law_rests_in⟩
theorem ok_rests_in (U : Ux Hd.fa Hd.fn K h mg) : FnG P w K mg base (xaK K) 1 F_rests_in := by
  obtain ⟨fd, F, ok⟩ := okF_rests_in (P := P) (w := w) (base := base) U
  exact ⟨_, fd, U.glo 21 (x := "rests_in") rfl, F.kp, ok, F.bindsN fun _ _ _ _ _ _ us hl => match us, hl with | [_, _], _ => rfl⟩
theorem sc_table_of : FnScope N_table_of ["near", "far"] (defScope (top 51)) := ⟨rfl, rfl, rfl, by decide +kernel, rfl, by decide +kernel, by decide +kernel⟩
theorem tr_table_of : trSs N_table_of (defScope (top 51)) (B_table_of) (defBody (top 51)) = true := by kernel_rfl
theorem kn_table_of (U : Ux Hd.fa Hd.fn K h mg) : KnG P w K mg base (xaK K) 0 B_table_of := by
  simp only [KnG, B_table_of, KnSs, KnS, KnE, KnEs, KnO, and_true, true_and, List.length_nil, List.length_cons, Nat.reduceAdd]
theorem okF_table_of (U : Ux Hd.fa Hd.fn K h mg) : ∃ fd, FunD K "table_of" "table_of" (defArgs (top 51)) (defBody (top 51)) (defScope (top 51)) [] [] (He.ga K "table_of") fd ∧ FnOk P w K mg base (L2.CX P w) 1 (He.ga K "table_of") fd ["near", "far"] (spD K (xaK K) 2 con_table_of) := by
  obtain ⟨fd, F⟩ := U.c.def_ 32 (d := Hd.mkD "table_of" 51) rfl
  exact ⟨fd, F, fn_ok U.free F sc_table_of tr_table_of (kn_table_of U) law_table_of⟩
theorem ok_table_of (U : Ux Hd.fa Hd.fn K h mg) : FnG P w K mg base (xaK K) 1 F_table_of := by
  obtain ⟨fd, F, ok⟩ := okF_table_of (P := P) (w := w) (base := base) U
  exact ⟨_, fd, U.glo 32 (x := "table_of") rfl, F.kp, ok, F.bindsN fun _ _ _ _ _ _ us hl => match us, hl with | [_, _], _ => rfl⟩
theorem sc_table_times : FnScope N_table_times ["one", "other", "modulus"] (defScope (top 52)) := ⟨rfl, rfl, rfl, by decide +kernel, rfl, by decide +kernel, by decide +kernel⟩
theorem tr_table_times : trSs N_table_times (defScope (top 52)) (B_table_times) (defBody (top 52)) = true := by kernel_rfl
theorem kn_table_times (U : Ux Hd.fa Hd.fn K h mg) : KnG P w K mg base (xaK K) 0 B_table_times := by
  simp only [KnG, B_table_times, KnSs, KnS, KnE, KnEs, KnO, and_true, true_and, List.length_nil, List.length_cons, Nat.reduceAdd]
theorem okF_table_times (U : Ux Hd.fa Hd.fn K h mg) : ∃ fd, FunD K "table_times" "table_times" (defArgs (top 52)) (defBody (top 52)) (defScope (top 52)) [] [] (He.ga K "table_times") fd ∧ FnOk P w K mg base (L2.CX P w) 1 (He.ga K "table_times") fd ["one", "other", "modulus"] (spD K (xaK K) 3 con_table_times) := by
  obtain ⟨fd, F⟩ := U.c.def_ 33 (d := Hd.mkD "table_times" 52) rfl
  exact ⟨fd, F, fn_ok U.free F sc_table_times tr_table_times (kn_table_times U) law_table_times⟩
theorem ok_table_times (U : Ux Hd.fa Hd.fn K h mg) : FnG P w K mg base (xaK K) 1 F_table_times := by
  obtain ⟨fd, F, ok⟩ := okF_table_times (P := P) (w := w) (base := base) U
  exact ⟨_, fd, U.glo 33 (x := "table_times") rfl, F.kp, ok, F.bindsN fun _ _ _ _ _ _ us hl => match us, hl with | [_, _, _], _ => rfl⟩
theorem sc_cut_in : FnScope N_cut_in ["word"] (defScope (top 57)) := ⟨rfl, rfl, rfl, by decide +kernel, rfl, by decide +kernel, by decide +kernel⟩
theorem tr_cut_in : trSs N_cut_in (defScope (top 57)) (B_cut_in) (defBody (top 57)) = true := by kernel_rfl
theorem kn_cut_in (U : Ux Hd.fa Hd.fn K h mg) : KnG P w K mg base (xaK K) 0 B_cut_in := by
  simp only [KnG, B_cut_in, KnSs, KnS, KnE, KnEs, KnO, and_true, true_and, List.length_nil, List.length_cons, Nat.reduceAdd]
theorem okF_cut_in (U : Ux Hd.fa Hd.fn K h mg) : ∃ fd, FunD K "cut_in" "cut_in" (defArgs (top 57)) (defBody (top 57)) (defScope (top 57)) [] [] (He.ga K "cut_in") fd ∧ FnOk P w K mg base (L2.CX P w) 1 (He.ga K "cut_in") fd ["word"] (spD K (xaK K) 1 con_cut_in) := by
  obtain ⟨fd, F⟩ := U.c.def_ 37 (d := Hd.mkD "cut_in" 57) rfl
  exact ⟨fd, F, fn_ok U.free F sc_cut_in tr_cut_in (kn_cut_in U) law_cut_in⟩
theorem ok_cut_in (U : Ux Hd.fa Hd.fn K h mg) : FnG P w K mg base (xaK K) 1 F_cut_in := by
  obtain ⟨fd, F, ok⟩ := okF_cut_in (P := P) (w := w) (base := base) U
  exact ⟨_, fd, U.glo 37 (x := "cut_in") rfl, F.kp, ok, F.bindsN fun _ _ _ _ _ _ us hl => match us, hl with | [_], _ => rfl⟩
theorem sc__law_box : FnScope N__law_box ["script", "k"] (defScope (top 61)) := ⟨rfl, rfl, rfl, by decide +kernel, rfl, by decide +kernel, by decide +kernel⟩
theorem tr__law_box : trSs N__law_box (defScope (top 61)) (B__law_box) (defBody (top 61)) = true := by kernel_rfl
theorem kn__law_box (U : Ux Hd.fa Hd.fn K h mg) : KnG P w K mg base (xaK K) 0 B__law_box := by
  simp only [KnG, B__law_box, KnSs, KnS, KnE, KnEs, KnO, and_true, true_and, List.length_nil, List.length_cons, Nat.reduceAdd]
theorem okF__law_box (U : Ux Hd.fa Hd.fn K h mg) : ∃ fd, FunD K "_law_box" "_law_box" (defArgs (top 61)) (defBody (top 61)) (defScope (top 61)) [] [] (He.ga K "_law_box") fd ∧ FnOk P w K mg base (L2.CX P w) 1 (He.ga K "_law_box") fd ["script", "k"] (spD K (xaK K) 2 con__law_box) := by
  obtain ⟨fd, F⟩ := U.c.def_ 40 (d := Hd.mkD "_law_box" 61) rfl
  exact ⟨fd, F, fn_ok U.free F sc__law_box tr__law_box (kn__law_box U) law__law_box⟩
theorem ok__law_box (U : Ux Hd.fa Hd.fn K h mg) : FnG P w K mg base (xaK K) 1 F__law_box := by
  obtain ⟨fd, F, ok⟩ := okF__law_box (P := P) (w := w) (base := base) U
  exact ⟨_, fd, U.glo 40 (x := "_law_box") rfl, F.kp, ok, F.bindsN fun _ _ _ _ _ _ us hl => match us, hl with | [_, _], _ => rfl⟩
theorem sc__law_take : FnScope N__law_take ["tin", "below_so"] (defScope (top 62)) := ⟨rfl, rfl, rfl, by decide +kernel, rfl, by decide +kernel, by decide +kernel⟩
theorem tr__law_take : trSs N__law_take (defScope (top 62)) (B__law_take) (defBody (top 62)) = true := by kernel_rfl
theorem kn__law_take (U : Ux Hd.fa Hd.fn K h mg) : KnG P w K mg base (xaK K) 0 B__law_take := by
  simp only [KnG, B__law_take, KnSs, KnS, KnE, KnEs, KnO, and_true, true_and, List.length_nil, List.length_cons, Nat.reduceAdd]
theorem okF__law_take (U : Ux Hd.fa Hd.fn K h mg) : ∃ fd, FunD K "_law_take" "_law_take" (defArgs (top 62)) (defBody (top 62)) (defScope (top 62)) [] [] (He.ga K "_law_take") fd ∧ FnOk P w K mg base (L2.CX P w) 1 (He.ga K "_law_take") fd ["tin", "below_so"] (spD K (xaK K) 2 con__law_take) := by
  obtain ⟨fd, F⟩ := U.c.def_ 41 (d := Hd.mkD "_law_take" 62) rfl
  exact ⟨fd, F, fn_ok U.free F sc__law_take tr__law_take (kn__law_take U) law__law_take⟩
theorem ok__law_take (U : Ux Hd.fa Hd.fn K h mg) : FnG P w K mg base (xaK K) 1 F__law_take := by
  obtain ⟨fd, F, ok⟩ := okF__law_take (P := P) (w := w) (base := base) U
  exact ⟨_, fd, U.glo 41 (x := "_law_take") rfl, F.kp, ok, F.bindsN fun _ _ _ _ _ _ us hl => match us, hl with | [_, _], _ => rfl⟩
theorem sc__law_cells : FnScope N__law_cells ["script", "most_so"] (defScope (top 63)) := ⟨rfl, rfl, rfl, by decide +kernel, rfl, by decide +kernel, by decide +kernel⟩
theorem tr__law_cells : trSs N__law_cells (defScope (top 63)) (B__law_cells) (defBody (top 63)) = true := by kernel_rfl
theorem kn__law_cells (U : Ux Hd.fa Hd.fn K h mg) : KnG P w K mg base (xaK K) 0 B__law_cells := by
  simp only [KnG, B__law_cells, KnSs, KnS, KnE, KnEs, KnO, and_true, true_and, List.length_nil, List.length_cons, Nat.reduceAdd]
theorem okF__law_cells (U : Ux Hd.fa Hd.fn K h mg) : ∃ fd, FunD K "_law_cells" "_law_cells" (defArgs (top 63)) (defBody (top 63)) (defScope (top 63)) [] [] (He.ga K "_law_cells") fd ∧ FnOk P w K mg base (L2.CX P w) 1 (He.ga K "_law_cells") fd ["script", "most_so"] (spD K (xaK K) 2 con__law_cells) := by
  obtain ⟨fd, F⟩ := U.c.def_ 42 (d := Hd.mkD "_law_cells" 63) rfl
  exact ⟨fd, F, fn_ok U.free F sc__law_cells tr__law_cells (kn__law_cells U) law__law_cells⟩
theorem ok__law_cells (U : Ux Hd.fa Hd.fn K h mg) : FnG P w K mg base (xaK K) 1 F__law_cells := by
  obtain ⟨fd, F, ok⟩ := okF__law_cells (P := P) (w := w) (base := base) U
  exact ⟨_, fd, U.glo 42 (x := "_law_cells") rfl, F.kp, ok, F.bindsN fun _ _ _ _ _ _ us hl => match us, hl with | [_, _], _ => rfl⟩
theorem sc__law_same : FnScope N__law_same ["got", "due"] (defScope (top 66)) := ⟨rfl, rfl, rfl, by decide +kernel, rfl, by decide +kernel, by decide +kernel⟩
def Fz__law_same : Fn := ⟨"_law_same", ["got", "due"], fun _ _ _ _ => False⟩
theorem trz__law_same : trSs N__law_same (defScope (top 66)) (B__law_same Fz__law_same) (defBody (top 66)) = true := by kernel_rfl
theorem tr__law_same (n : Nat) : trSs N__law_same (defScope (top 66)) (B__law_same (Fr__law_same n)) (defBody (top 66)) = true := by kernel_rfl
theorem okR__law_same (U : Ux Hd.fa Hd.fn K h mg) : ∃ fd, FunD K "_law_same" "_law_same" (defArgs (top 66)) (defBody (top 66)) (defScope (top 66)) [] [] (He.ga K "_law_same") fd ∧ ∀ n, FnOk P w K mg base (L2.CX P w) (0 + n + 1) (He.ga K "_law_same") fd ["got", "due"] (spD K (xaK K) 2 (con__law_same n)) := by
  obtain ⟨fd, F⟩ := U.c.def_ 45 (d := Hd.mkD "_law_same" 66) rfl
  have b : Binds K fd ["got", "due"] [] := F.bindsN fun _ _ _ _ _ _ us hl => match us, hl with | [_, _], _ => rfl
  refine ⟨fd, F, fun n => ?_⟩
  induction n with
  | zero =>
    have f_self : FnG P w K mg base (xaK K) 0 Fz__law_same := ⟨_, fd, U.glo 45 (x := "_law_same") rfl, F.kp, ⟨fun _ _ _ _ h => h.1, fun A outer s H args us vs Q E _ _ _ _ hs => by obtain ⟨_, _, _, _, _, _, _, _, hf, _⟩ := hs; exact hf.elim⟩, b⟩
    exact fn_ok U.free F sc__law_same trz__law_same (by simp only [KnG, B__law_same, KnSs, KnS, KnE, KnEs, KnO, and_true, true_and, f_self]) (fun ds st Q Ex hl h => law__law_same0 ds st Q Ex hl h _)
  | succ n ih =>
    have f_self : FnG P w K mg base (xaK K) (0 + (n + 1)) (Fr__law_same n) := ⟨_, fd, U.glo 45 (x := "_law_same") rfl, F.kp, ih, b⟩
    exact fn_ok U.free F sc__law_same (tr__law_same n) (by simp only [KnG, B__law_same, KnSs, KnS, KnE, KnEs, KnO, and_true, true_and, f_self]) (law__law_same n)
theorem ok__law_same (U : Ux Hd.fa Hd.fn K h mg) : FnG P w K mg base (xaK K) (0 + 10) F__law_same := by
  obtain ⟨fd, F, ok⟩ := okR__law_same (P := P) (w := w) (base := base) U
  exact ⟨_, fd, U.glo 45 (x := "_law_same") rfl, F.kp, ok 9, F.bindsN fun _ _ _ _ _ _ us hl => match us, hl with | [_, _], _ => rfl⟩
theorem sc__law_prod : FnScope N__law_prod ["numbers_so"] (defScope (top 67)) := ⟨rfl, rfl, rfl, by decide +kernel, rfl, by decide +kernel, by decide +kernel⟩
theorem tr__law_prod : trSs N__law_prod (defScope (top 67)) (B__law_prod) (defBody (top 67)) = true := by kernel_rfl
theorem kn__law_prod (U : Ux Hd.fa Hd.fn K h mg) : KnG P w K mg base (xaK K) 0 B__law_prod := by
  simp only [KnG, B__law_prod, KnSs, KnS, KnE, KnEs, KnO, and_true, true_and, List.length_nil, List.length_cons, Nat.reduceAdd]
theorem okF__law_prod (U : Ux Hd.fa Hd.fn K h mg) : ∃ fd, FunD K "_law_prod" "_law_prod" (defArgs (top 67)) (defBody (top 67)) (defScope (top 67)) [] [] (He.ga K "_law_prod") fd ∧ FnOk P w K mg base (L2.CX P w) 1 (He.ga K "_law_prod") fd ["numbers_so"] (spD K (xaK K) 1 con__law_prod) := by
  obtain ⟨fd, F⟩ := U.c.def_ 46 (d := Hd.mkD "_law_prod" 67) rfl
  exact ⟨fd, F, fn_ok U.free F sc__law_prod tr__law_prod (kn__law_prod U) law__law_prod⟩
theorem ok__law_prod (U : Ux Hd.fa Hd.fn K h mg) : FnG P w K mg base (xaK K) 1 F__law_prod := by
  obtain ⟨fd, F, ok⟩ := okF__law_prod (P := P) (w := w) (base := base) U
  exact ⟨_, fd, U.glo 46 (x := "_law_prod") rfl, F.kp, ok, F.bindsN fun _ _ _ _ _ _ us hl => match us, hl with | [_], _ => rfl⟩
theorem sc__law_known : FnScope N__law_known [] (defScope (top 71)) := ⟨rfl, rfl, rfl, by decide +kernel, rfl, by decide +kernel, by decide +kernel⟩
theorem tr__law_known : trSs N__law_known (defScope (top 71)) (B__law_known) (defBody (top 71)) = true := by kernel_rfl
theorem kn__law_known (U : Ux Hd.fa Hd.fn K h mg) : KnG P w K mg base (xaK K) 0 B__law_known := by
  simp only [KnG, B__law_known, KnSs, KnS, KnE, KnEs, KnO, and_true, true_and, List.length_nil, List.length_cons, Nat.reduceAdd]
theorem okF__law_known (U : Ux Hd.fa Hd.fn K h mg) : ∃ fd, FunD K "_law_known" "_law_known" (defArgs (top 71)) (defBody (top 71)) (defScope (top 71)) [] [] (He.ga K "_law_known") fd ∧ FnOk P w K mg base (L2.CX P w) 1 (He.ga K "_law_known") fd [] (spD K (xaK K) 0 con__law_known) := by
  obtain ⟨fd, F⟩ := U.c.def_ 50 (d := Hd.mkD "_law_known" 71) rfl
  exact ⟨fd, F, fn_ok U.free F sc__law_known tr__law_known (kn__law_known U) law__law_known⟩
theorem ok__law_known (U : Ux Hd.fa Hd.fn K h mg) : FnG P w K mg base (xaK K) 1 F__law_known := by
  obtain ⟨fd, F, ok⟩ := okF__law_known (P := P) (w := w) (base := base) U
  exact ⟨_, fd, U.glo 50 (x := "_law_known") rfl, F.kp, ok, F.bindsN fun _ _ _ _ _ _ us hl => match us, hl with | [], _ => rfl⟩
theorem sc_is_within : FnScope N_is_within ["thing", "least", "most"] (defScope (top 5)) := ⟨rfl, rfl, rfl, by decide +kernel, rfl, by decide +kernel, by decide +kernel⟩
theorem tr_is_within : trSs N_is_within (defScope (top 5)) (B_is_within) (defBody (top 5)) = true := by kernel_rfl
theorem kn_is_within (U : Ux Hd.fa Hd.fn K h mg) : KnG P w K mg base (xaK K) 1 B_is_within := by
  have f_is_number := (ok_is_number (P := P) (w := w) (base := base) U).mono (k := 1) (by decide)
  simp only [KnG, B_is_within, KnSs, KnS, KnE, KnEs, KnO, and_true, true_and, List.length_nil, List.length_cons, Nat.reduceAdd, f_is_number]
theorem okF_is_within (U : Ux Hd.fa Hd.fn K h mg) : ∃ fd, FunD K "is_within" "is_within" (defArgs (top 5)) (defBody (top 5)) (defScope (top 5)) [] [] (He.ga K "is_within") fd ∧ FnOk P w K mg base (L2.CX P w) 2 (He.ga K "is_within") fd ["thing", "least", "most"] (spD K (xaK K) 3 con_is_within) := by
  obtain ⟨fd, F⟩ := U.c.def_ 1 (d := Hd.mkD "is_within" 5) rfl
  exact ⟨fd, F, fn_ok U.free F sc_is_within tr_is_within (kn_is_within U) law_is_within⟩
theorem ok_is_within (U : Ux Hd.fa Hd.fn K h mg) : FnG P w K mg base (xaK K) 2 F_is_within := by
  obtain ⟨fd, F, ok⟩ := okF_is_within (P := P) (w := w) (base := base) U
  exact ⟨_, fd, U.glo 1 (x := "is_within") rfl, F.kp, ok, F.bindsN fun _ _ _ _ _ _ us hl => match us, hl with | [_, _, _], _ => rfl⟩
theorem sc_are_numbers : FnScope N_are_numbers ["thing"] (defScope (top 7)) := ⟨rfl, rfl, rfl, by decide +kernel, rfl, by decide +kernel, by decide +kernel⟩
theorem tr_are_numbers : trSs N_are_numbers (defScope (top 7)) (B_are_numbers) (defBody (top 7)) = true := by kernel_rfl
theorem kn_are_numbers (U : Ux Hd.fa Hd.fn K h mg) : KnG P w K mg base (xaK K) 1 B_are_numbers := by
  have f_is_number := (ok_is_number (P := P) (w := w) (base := base) U).mono (k := 1) (by decide)
  simp only [KnG, B_are_numbers, KnSs, KnS, KnE, KnEs, KnO, and_true, true_and, List.length_nil, List.length_cons, Nat.reduceAdd, f_is_number]
theorem okF_are_numbers (U : Ux Hd.fa Hd.fn K h mg) : ∃ fd, FunD K "are_numbers" "are_numbers" (defArgs (top 7)) (defBody (top 7)) (defScope (top 7)) [] [] (He.ga K "are_numbers") fd ∧ FnOk P w K mg base (L2.CX P w) 2 (He.ga K "are_numbers") fd ["thing"] (spD K (xaK K) 1 con_are_numbers) := by
  obtain ⟨fd, F⟩ := U.c.def_ 3 (d := Hd.mkD "are_numbers" 7) rfl
  exact ⟨fd, F, fn_ok U.free F sc_are_numbers tr_are_numbers (kn_are_numbers U) law_are_numbers⟩
theorem ok_are_numbers (U : Ux Hd.fa Hd.fn K h mg) : FnG P w K mg base (xaK K) 2 F_are_numbers := by
  obtain ⟨fd, F, ok⟩ := okF_are_numbers (P := P) (w := w) (base := base) U
  exact ⟨_, fd, U.glo 3 (x := "are_numbers") rfl, F.kp, ok, F.bindsN fun _ _ _ _ _ _ us hl => match us, hl with | [_], _ => rfl⟩
theorem sc_sides_in : FnScope N_sides_in ["equation", "numbers"] (defScope (top 22)) := ⟨rfl, rfl, rfl, by decide +kernel, rfl, by decide +kernel, by decide +kernel⟩
theorem tr_sides_in : trSs N_sides_in (defScope (top 22)) (B_sides_in) (defBody (top 22)) = true := by kernel_rfl
theorem kn_sides_in (U : Ux Hd.fa Hd.fn K h mg) : KnG P w K mg base (xaK K) 1 B_sides_in := by
  have f_product_of := (ok_product_of (P := P) (w := w) (base := base) U).mono (k := 1) (by decide)
  have f_shares_in := (ok_shares_in (P := P) (w := w) (base := base) U).mono (k := 1) (by decide)
  simp only [KnG, B_sides_in, KnSs, KnS, KnE, KnEs, KnO, and_true, true_and, List.length_nil, List.length_cons, Nat.reduceAdd, f_product_of, f_shares_in]
theorem okF_sides_in (U : Ux Hd.fa Hd.fn K h mg) : ∃ fd, FunD K "sides_in" "sides_in" (defArgs (top 22)) (defBody (top 22)) (defScope (top 22)) [] [] (He.ga K "sides_in") fd ∧ FnOk P w K mg base (L2.CX P w) 2 (He.ga K "sides_in") fd ["equation", "numbers"] (spD K (xaK K) 2 con_sides_in) := by
  obtain ⟨fd, F⟩ := U.c.def_ 11 (d := Hd.mkD "sides_in" 22) rfl
  exact ⟨fd, F, fn_ok U.free F sc_sides_in tr_sides_in (kn_sides_in U) law_sides_in⟩
theorem ok_sides_in (U : Ux Hd.fa Hd.fn K h mg) : FnG P w K mg base (xaK K) 2 F_sides_in := by
  obtain ⟨fd, F, ok⟩ := okF_sides_in (P := P) (w := w) (base := base) U
  exact ⟨_, fd, U.glo 11 (x := "sides_in") rfl, F.kp, ok, F.bindsN fun _ _ _ _ _ _ us hl => match us, hl with | [_, _], _ => rfl⟩
theorem sc_rest_flipped : FnScope N_rest_flipped ["equation", "modulus", "row", "place"] (defScope (top 37)) := ⟨rfl, rfl, rfl, by decide +kernel, rfl, by decide +kernel, by decide +kernel⟩
theorem tr_rest_flipped : trSs N_rest_flipped (defScope (top 37)) (B_rest_flipped) (defBody (top 37)) = true := by kernel_rfl
theorem kn_rest_flipped (U : Ux Hd.fa Hd.fn K h mg) : KnG P w K mg base (xaK K) 1 B_rest_flipped := by
  have f_product_of := (ok_product_of (P := P) (w := w) (base := base) U).mono (k := 1) (by decide)
  simp only [KnG, B_rest_flipped, KnSs, KnS, KnE, KnEs, KnO, and_true, true_and, List.length_nil, List.length_cons, Nat.reduceAdd, f_product_of]
theorem okF_rest_flipped (U : Ux Hd.fa Hd.fn K h mg) : ∃ fd, FunD K "rest_flipped" "rest_flipped" (defArgs (top 37)) (defBody (top 37)) (defScope (top 37)) [] [] (He.ga K "rest_flipped") fd ∧ FnOk P w K mg base (L2.CX P w) 2 (He.ga K "rest_flipped") fd ["equation", "modulus", "row", "place"] (spD K (xaK K) 4 con_rest_flipped) := by
  obtain ⟨fd, F⟩ := U.c.def_ 22 (d := Hd.mkD "rest_flipped" 37) rfl
  exact ⟨fd, F, fn_ok U.free F sc_rest_flipped tr_rest_flipped (kn_rest_flipped U) law_rest_flipped⟩
theorem ok_rest_flipped (U : Ux Hd.fa Hd.fn K h mg) : FnG P w K mg base (xaK K) 2 F_rest_flipped := by
  obtain ⟨fd, F, ok⟩ := okF_rest_flipped (P := P) (w := w) (base := base) U
  exact ⟨_, fd, U.glo 22 (x := "rest_flipped") rfl, F.kp, ok, F.bindsN fun _ _ _ _ _ _ us hl => match us, hl with | [_, _, _, _], _ => rfl⟩
theorem sc_flipped_in : FnScope N_flipped_in ["equation", "solution", "place"] (defScope (top 44)) := ⟨rfl, rfl, rfl, by decide +kernel, rfl, by decide +kernel, by decide +kernel⟩
theorem tr_flipped_in : trSs N_flipped_in (defScope (top 44)) (B_flipped_in) (defBody (top 44)) = true := by kernel_rfl
theorem kn_flipped_in (U : Ux Hd.fa Hd.fn K h mg) : KnG P w K mg base (xaK K) 1 B_flipped_in := by
  have f_product_of := (ok_product_of (P := P) (w := w) (base := base) U).mono (k := 1) (by decide)
  have x_TooMany := U.exc Exc.tooMany 55 85 rfl rfl
  have g_BELOW_NUMBER := U.int 61 (x := "BELOW_NUMBER") (n := BN) rfl
  simp only [KnG, B_flipped_in, KnSs, KnS, KnE, KnEs, KnO, and_true, true_and, List.length_nil, List.length_cons, Nat.reduceAdd, f_product_of, x_TooMany, g_BELOW_NUMBER]
theorem okF_flipped_in (U : Ux Hd.fa Hd.fn K h mg) : ∃ fd, FunD K "flipped_in" "flipped_in" (defArgs (top 44)) (defBody (top 44)) (defScope (top 44)) [] [] (He.ga K "flipped_in") fd ∧ FnOk P w K mg base (L2.CX P w) 2 (He.ga K "flipped_in") fd ["equation", "solution", "place"] (spD K (xaK K) 3 con_flipped_in) := by
  obtain ⟨fd, F⟩ := U.c.def_ 28 (d := Hd.mkD "flipped_in" 44) rfl
  exact ⟨fd, F, fn_ok U.free F sc_flipped_in tr_flipped_in (kn_flipped_in U) law_flipped_in⟩
theorem ok_flipped_in (U : Ux Hd.fa Hd.fn K h mg) : FnG P w K mg base (xaK K) 2 F_flipped_in := by
  obtain ⟨fd, F, ok⟩ := okF_flipped_in (P := P) (w := w) (base := base) U
  exact ⟨_, fd, U.glo 28 (x := "flipped_in") rfl, F.kp, ok, F.bindsN fun _ _ _ _ _ _ us hl => match us, hl with | [_, _, _], _ => rfl⟩
theorem sc_table_power : FnScope N_table_power ["table", "often", "modulus"] (defScope (top 53)) := ⟨rfl, rfl, rfl, by decide +kernel, rfl, by decide +kernel, by decide +kernel⟩
theorem tr_table_power : trSs N_table_power (defScope (top 53)) (B_table_power) (defBody (top 53)) = true := by kernel_rfl
theorem kn_table_power (U : Ux Hd.fa Hd.fn K h mg) : KnG P w K mg base (xaK K) 1 B_table_power := by
  have f_table_times := (ok_table_times (P := P) (w := w) (base := base) U).mono (k := 1) (by decide)
  simp only [KnG, B_table_power, KnSs, KnS, KnE, KnEs, KnO, and_true, true_and, List.length_nil, List.length_cons, Nat.reduceAdd, f_table_times]
theorem okF_table_power (U : Ux Hd.fa Hd.fn K h mg) : ∃ fd, FunD K "table_power" "table_power" (defArgs (top 53)) (defBody (top 53)) (defScope (top 53)) [] [] (He.ga K "table_power") fd ∧ FnOk P w K mg base (L2.CX P w) 2 (He.ga K "table_power") fd ["table", "often", "modulus"] (spD K (xaK K) 3 con_table_power) := by
  obtain ⟨fd, F⟩ := U.c.def_ 34 (d := Hd.mkD "table_power" 53) rfl
  exact ⟨fd, F, fn_ok U.free F sc_table_power tr_table_power (kn_table_power U) law_table_power⟩
theorem ok_table_power (U : Ux Hd.fa Hd.fn K h mg) : FnG P w K mg base (xaK K) 2 F_table_power := by
  obtain ⟨fd, F, ok⟩ := okF_table_power (P := P) (w := w) (base := base) U
  exact ⟨_, fd, U.glo 34 (x := "table_power") rfl, F.kp, ok, F.bindsN fun _ _ _ _ _ _ us hl => match us, hl with | [_, _, _], _ => rfl⟩
theorem sc__law_of : FnScope N__law_of ["tin", "goods_so"] (defScope (top 64)) := ⟨rfl, rfl, rfl, by decide +kernel, rfl, by decide +kernel, by decide +kernel⟩
theorem tr__law_of : trSs N__law_of (defScope (top 64)) (B__law_of) (defBody (top 64)) = true := by kernel_rfl
theorem kn__law_of (U : Ux Hd.fa Hd.fn K h mg) : KnG P w K mg base (xaK K) 1 B__law_of := by
  have f__law_take := (ok__law_take (P := P) (w := w) (base := base) U).mono (k := 1) (by decide)
  simp only [KnG, B__law_of, KnSs, KnS, KnE, KnEs, KnO, and_true, true_and, List.length_nil, List.length_cons, Nat.reduceAdd, f__law_take]
theorem okF__law_of (U : Ux Hd.fa Hd.fn K h mg) : ∃ fd, FunD K "_law_of" "_law_of" (defArgs (top 64)) (defBody (top 64)) (defScope (top 64)) [] [] (He.ga K "_law_of") fd ∧ FnOk P w K mg base (L2.CX P w) 2 (He.ga K "_law_of") fd ["tin", "goods_so"] (spD K (xaK K) 2 con__law_of) := by
  obtain ⟨fd, F⟩ := U.c.def_ 43 (d := Hd.mkD "_law_of" 64) rfl
  exact ⟨fd, F, fn_ok U.free F sc__law_of tr__law_of (kn__law_of U) law__law_of⟩
theorem ok__law_of (U : Ux Hd.fa Hd.fn K h mg) : FnG P w K mg base (xaK K) 2 F__law_of := by
  obtain ⟨fd, F, ok⟩ := okF__law_of (P := P) (w := w) (base := base) U
  exact ⟨_, fd, U.glo 43 (x := "_law_of") rfl, F.kp, ok, F.bindsN fun _ _ _ _ _ _ us hl => match us, hl with | [_, _], _ => rfl⟩
theorem sc__law_pick : FnScope N__law_pick ["tin", "goods_so", "count_so"] (defScope (top 65)) := ⟨rfl, rfl, rfl, by decide +kernel, rfl, by decide +kernel, by decide +kernel⟩
theorem tr__law_pick : trSs N__law_pick (defScope (top 65)) (B__law_pick) (defBody (top 65)) = true := by kernel_rfl
theorem kn__law_pick (U : Ux Hd.fa Hd.fn K h mg) : KnG P w K mg base (xaK K) 1 B__law_pick := by
  have f__law_take := (ok__law_take (P := P) (w := w) (base := base) U).mono (k := 1) (by decide)
  simp only [KnG, B__law_pick, KnSs, KnS, KnE, KnEs, KnO, and_true, true_and, List.length_nil, List.length_cons, Nat.reduceAdd, f__law_take]
theorem okF__law_pick (U : Ux Hd.fa Hd.fn K h mg) : ∃ fd, FunD K "_law_pick" "_law_pick" (defArgs (top 65)) (defBody (top 65)) (defScope (top 65)) [] [] (He.ga K "_law_pick") fd ∧ FnOk P w K mg base (L2.CX P w) 2 (He.ga K "_law_pick") fd ["tin", "goods_so", "count_so"] (spD K (xaK K) 3 con__law_pick) := by
  obtain ⟨fd, F⟩ := U.c.def_ 44 (d := Hd.mkD "_law_pick" 65) rfl
  exact ⟨fd, F, fn_ok U.free F sc__law_pick tr__law_pick (kn__law_pick U) law__law_pick⟩
theorem ok__law_pick (U : Ux Hd.fa Hd.fn K h mg) : FnG P w K mg base (xaK K) 2 F__law_pick := by
  obtain ⟨fd, F, ok⟩ := okF__law_pick (P := P) (w := w) (base := base) U
  exact ⟨_, fd, U.glo 44 (x := "_law_pick") rfl, F.kp, ok, F.bindsN fun _ _ _ _ _ _ us hl => match us, hl with | [_, _, _], _ => rfl⟩
theorem sc__law_flip : FnScope N__law_flip ["told_so", "numbers_so", "place_so"] (defScope (top 68)) := ⟨rfl, rfl, rfl, by decide +kernel, rfl, by decide +kernel, by decide +kernel⟩
theorem tr__law_flip : trSs N__law_flip (defScope (top 68)) (B__law_flip) (defBody (top 68)) = true := by kernel_rfl
theorem kn__law_flip (U : Ux Hd.fa Hd.fn K h mg) : KnG P w K mg base (xaK K) 1 B__law_flip := by
  have f__law_prod := (ok__law_prod (P := P) (w := w) (base := base) U).mono (k := 1) (by decide)
  simp only [KnG, B__law_flip, KnSs, KnS, KnE, KnEs, KnO, and_true, true_and, List.length_nil, List.length_cons, Nat.reduceAdd, f__law_prod]
theorem okF__law_flip (U : Ux Hd.fa Hd.fn K h mg) : ∃ fd, FunD K "_law_flip" "_law_flip" (defArgs (top 68)) (defBody (top 68)) (defScope (top 68)) [] [] (He.ga K "_law_flip") fd ∧ FnOk P w K mg base (L2.CX P w) 2 (He.ga K "_law_flip") fd ["told_so", "numbers_so", "place_so"] (spD K (xaK K) 3 con__law_flip) := by
  obtain ⟨fd, F⟩ := U.c.def_ 47 (d := Hd.mkD "_law_flip" 68) rfl
  exact ⟨fd, F, fn_ok U.free F sc__law_flip tr__law_flip (kn__law_flip U) law__law_flip⟩
theorem ok__law_flip (U : Ux Hd.fa Hd.fn K h mg) : FnG P w K mg base (xaK K) 2 F__law_flip := by
  obtain ⟨fd, F, ok⟩ := okF__law_flip (P := P) (w := w) (base := base) U
  exact ⟨_, fd, U.glo 47 (x := "_law_flip") rfl, F.kp, ok, F.bindsN fun _ _ _ _ _ _ us hl => match us, hl with | [_, _, _], _ => rfl⟩
theorem sc_sure_within : FnScope N_sure_within ["thing", "least", "most"] (defScope (top 9)) := ⟨rfl, rfl, rfl, by decide +kernel, rfl, by decide +kernel, by decide +kernel⟩
theorem tr_sure_within : trSs N_sure_within (defScope (top 9)) (B_sure_within) (defBody (top 9)) = true := by kernel_rfl
theorem kn_sure_within (U : Ux Hd.fa Hd.fn K h mg) : KnG P w K mg base (xaK K) 2 B_sure_within := by
  have f_is_within := (ok_is_within (P := P) (w := w) (base := base) U).mono (k := 2) (by decide)
  have x_Unfit := U.exc Exc.unfit 56 86 rfl rfl
  simp only [KnG, B_sure_within, KnSs, KnS, KnE, KnEs, KnO, and_true, true_and, List.length_nil, List.length_cons, Nat.reduceAdd, f_is_within, x_Unfit]
theorem okF_sure_within (U : Ux Hd.fa Hd.fn K h mg) : ∃ fd, FunD K "sure_within" "sure_within" (defArgs (top 9)) (defBody (top 9)) (defScope (top 9)) [] [] (He.ga K "sure_within") fd ∧ FnOk P w K mg base (L2.CX P w) 3 (He.ga K "sure_within") fd ["thing", "least", "most"] (spD K (xaK K) 3 con_sure_within) := by
  obtain ⟨fd, F⟩ := U.c.def_ 5 (d := Hd.mkD "sure_within" 9) rfl
  exact ⟨fd, F, fn_ok U.free F sc_sure_within tr_sure_within (kn_sure_within U) law_sure_within⟩
theorem ok_sure_within (U : Ux Hd.fa Hd.fn K h mg) : FnG P w K mg base (xaK K) 3 F_sure_within := by
  obtain ⟨fd, F, ok⟩ := okF_sure_within (P := P) (w := w) (base := base) U
  exact ⟨_, fd, U.glo 5 (x := "sure_within") rfl, F.kp, ok, F.bindsN fun _ _ _ _ _ _ us hl => match us, hl with | [_, _, _], _ => rfl⟩
theorem sc_are_weights : FnScope N_are_weights ["thing"] (defScope (top 17)) := ⟨rfl, rfl, rfl, by decide +kernel, rfl, by decide +kernel, by decide +kernel⟩
theorem tr_are_weights : trSs N_are_weights (defScope (top 17)) (B_are_weights) (defBody (top 17)) = true := by kernel_rfl
theorem kn_are_weights (U : Ux Hd.fa Hd.fn K h mg) : KnG P w K mg base (xaK K) 2 B_are_weights := by
  have f_are_numbers := (ok_are_numbers (P := P) (w := w) (base := base) U).mono (k := 2) (by decide)
  have g_LEAST_PLACES := U.int 57 (x := "LEAST_PLACES") (n := 3) rfl
  have g_MOST_PLACES := U.int 58 (x := "MOST_PLACES") (n := 6) rfl
  have g_MOST_WEIGHT := U.int 59 (x := "MOST_WEIGHT") (n := 12) rfl
  simp only [KnG, B_are_weights, KnSs, KnS, KnE, KnEs, KnO, and_true, true_and, List.length_nil, List.length_cons, Nat.reduceAdd, f_are_numbers, g_LEAST_PLACES, g_MOST_PLACES, g_MOST_WEIGHT]
theorem okF_are_weights (U : Ux Hd.fa Hd.fn K h mg) : ∃ fd, FunD K "are_weights" "are_weights" (defArgs (top 17)) (defBody (top 17)) (defScope (top 17)) [] [] (He.ga K "are_weights") fd ∧ FnOk P w K mg base (L2.CX P w) 3 (He.ga K "are_weights") fd ["thing"] (spD K (xaK K) 1 con_are_weights) := by
  obtain ⟨fd, F⟩ := U.c.def_ 6 (d := Hd.mkD "are_weights" 17) rfl
  exact ⟨fd, F, fn_ok U.free F sc_are_weights tr_are_weights (kn_are_weights U) law_are_weights⟩
theorem ok_are_weights (U : Ux Hd.fa Hd.fn K h mg) : FnG P w K mg base (xaK K) 3 F_are_weights := by
  obtain ⟨fd, F, ok⟩ := okF_are_weights (P := P) (w := w) (base := base) U
  exact ⟨_, fd, U.glo 6 (x := "are_weights") rfl, F.kp, ok, F.bindsN fun _ _ _ _ _ _ us hl => match us, hl with | [_], _ => rfl⟩
theorem sc_are_from_one : FnScope N_are_from_one ["thing", "many", "most"] (defScope (top 23)) := ⟨rfl, rfl, rfl, by decide +kernel, rfl, by decide +kernel, by decide +kernel⟩
theorem tr_are_from_one : trSs N_are_from_one (defScope (top 23)) (B_are_from_one) (defBody (top 23)) = true := by kernel_rfl
theorem kn_are_from_one (U : Ux Hd.fa Hd.fn K h mg) : KnG P w K mg base (xaK K) 2 B_are_from_one := by
  have f_are_numbers := (ok_are_numbers (P := P) (w := w) (base := base) U).mono (k := 2) (by decide)
  have f_is_long := (ok_is_long (P := P) (w := w) (base := base) U).mono (k := 2) (by decide)
  simp only [KnG, B_are_from_one, KnSs, KnS, KnE, KnEs, KnO, and_true, true_and, List.length_nil, List.length_cons, Nat.reduceAdd, f_are_numbers, f_is_long]
theorem okF_are_from_one (U : Ux Hd.fa Hd.fn K h mg) : ∃ fd, FunD K "are_from_one" "are_from_one" (defArgs (top 23)) (defBody (top 23)) (defScope (top 23)) [] [] (He.ga K "are_from_one") fd ∧ FnOk P w K mg base (L2.CX P w) 3 (He.ga K "are_from_one") fd ["thing", "many", "most"] (spD K (xaK K) 3 con_are_from_one) := by
  obtain ⟨fd, F⟩ := U.c.def_ 12 (d := Hd.mkD "are_from_one" 23) rfl
  exact ⟨fd, F, fn_ok U.free F sc_are_from_one tr_are_from_one (kn_are_from_one U) law_are_from_one⟩
theorem ok_are_from_one (U : Ux Hd.fa Hd.fn K h mg) : FnG P w K mg base (xaK K) 3 F_are_from_one := by
  obtain ⟨fd, F, ok⟩ := okF_are_from_one (P := P) (w := w) (base := base) U
  exact ⟨_, fd, U.glo 12 (x := "are_from_one") rfl, F.kp, ok, F.bindsN fun _ _ _ _ _ _ us hl => match us, hl with | [_, _, _], _ => rfl⟩
theorem sc_is_word_in : FnScope N_is_word_in ["many", "thing"] (defScope (top 27)) := ⟨rfl, rfl, rfl, by decide +kernel, rfl, by decide +kernel, by decide +kernel⟩
theorem tr_is_word_in : trSs N_is_word_in (defScope (top 27)) (B_is_word_in) (defBody (top 27)) = true := by kernel_rfl
theorem kn_is_word_in (U : Ux Hd.fa Hd.fn K h mg) : KnG P w K mg base (xaK K) 2 B_is_word_in := by
  have f_are_numbers := (ok_are_numbers (P := P) (w := w) (base := base) U).mono (k := 2) (by decide)
  have g_MOST_WORD := U.int 62 (x := "MOST_WORD") (n := 5000) rfl
  simp only [KnG, B_is_word_in, KnSs, KnS, KnE, KnEs, KnO, and_true, true_and, List.length_nil, List.length_cons, Nat.reduceAdd, f_are_numbers, g_MOST_WORD]
theorem okF_is_word_in (U : Ux Hd.fa Hd.fn K h mg) : ∃ fd, FunD K "is_word_in" "is_word_in" (defArgs (top 27)) (defBody (top 27)) (defScope (top 27)) [] [] (He.ga K "is_word_in") fd ∧ FnOk P w K mg base (L2.CX P w) 3 (He.ga K "is_word_in") fd ["many", "thing"] (spD K (xaK K) 2 con_is_word_in) := by
  obtain ⟨fd, F⟩ := U.c.def_ 16 (d := Hd.mkD "is_word_in" 27) rfl
  exact ⟨fd, F, fn_ok U.free F sc_is_word_in tr_is_word_in (kn_is_word_in U) law_is_word_in⟩
theorem ok_is_word_in (U : Ux Hd.fa Hd.fn K h mg) : FnG P w K mg base (xaK K) 3 F_is_word_in := by
  obtain ⟨fd, F, ok⟩ := okF_is_word_in (P := P) (w := w) (base := base) U
  exact ⟨_, fd, U.glo 16 (x := "is_word_in") rfl, F.kp, ok, F.bindsN fun _ _ _ _ _ _ us hl => match us, hl with | [_, _], _ => rfl⟩
theorem sc_is_rest_row_in : FnScope N_is_rest_row_in ["many", "modulus", "thing"] (defScope (top 34)) := ⟨rfl, rfl, rfl, by decide +kernel, rfl, by decide +kernel, by decide +kernel⟩
theorem tr_is_rest_row_in : trSs N_is_rest_row_in (defScope (top 34)) (B_is_rest_row_in) (defBody (top 34)) = true := by kernel_rfl
theorem kn_is_rest_row_in (U : Ux Hd.fa Hd.fn K h mg) : KnG P w K mg base (xaK K) 2 B_is_rest_row_in := by
  have f_are_numbers := (ok_are_numbers (P := P) (w := w) (base := base) U).mono (k := 2) (by decide)
  have f_is_long := (ok_is_long (P := P) (w := w) (base := base) U).mono (k := 2) (by decide)
  simp only [KnG, B_is_rest_row_in, KnSs, KnS, KnE, KnEs, KnO, and_true, true_and, List.length_nil, List.length_cons, Nat.reduceAdd, f_are_numbers, f_is_long]
theorem okF_is_rest_row_in (U : Ux Hd.fa Hd.fn K h mg) : ∃ fd, FunD K "is_rest_row_in" "is_rest_row_in" (defArgs (top 34)) (defBody (top 34)) (defScope (top 34)) [] [] (He.ga K "is_rest_row_in") fd ∧ FnOk P w K mg base (L2.CX P w) 3 (He.ga K "is_rest_row_in") fd ["many", "modulus", "thing"] (spD K (xaK K) 3 con_is_rest_row_in) := by
  obtain ⟨fd, F⟩ := U.c.def_ 19 (d := Hd.mkD "is_rest_row_in" 34) rfl
  exact ⟨fd, F, fn_ok U.free F sc_is_rest_row_in tr_is_rest_row_in (kn_is_rest_row_in U) law_is_rest_row_in⟩
theorem ok_is_rest_row_in (U : Ux Hd.fa Hd.fn K h mg) : FnG P w K mg base (xaK K) 3 F_is_rest_row_in := by
  obtain ⟨fd, F, ok⟩ := okF_is_rest_row_in (P := P) (w := w) (base := base) U
  exact ⟨_, fd, U.glo 19 (x := "is_rest_row_in") rfl, F.kp, ok, F.bindsN fun _ _ _ _ _ _ us hl => match us, hl with | [_, _, _], _ => rfl⟩
theorem sc_rest_walked_in : FnScope N_rest_walked_in ["equation", "modulus", "row", "word"] (defScope (top 38)) := ⟨rfl, rfl, rfl, by decide +kernel, rfl, by decide +kernel, by decide +kernel⟩
theorem tr_rest_walked_in : trSs N_rest_walked_in (defScope (top 38)) (B_rest_walked_in) (defBody (top 38)) = true := by kernel_rfl
theorem kn_rest_walked_in (U : Ux Hd.fa Hd.fn K h mg) : KnG P w K mg base (xaK K) 2 B_rest_walked_in := by
  have f_rest_flipped := (ok_rest_flipped (P := P) (w := w) (base := base) U).mono (k := 2) (by decide)
  simp only [KnG, B_rest_walked_in, KnSs, KnS, KnE, KnEs, KnO, and_true, true_and, List.length_nil, List.length_cons, Nat.reduceAdd, f_rest_flipped]
theorem okF_rest_walked_in (U : Ux Hd.fa Hd.fn K h mg) : ∃ fd, FunD K "rest_walked_in" "rest_walked_in" (defArgs (top 38)) (defBody (top 38)) (defScope (top 38)) [] [] (He.ga K "rest_walked_in") fd ∧ FnOk P w K mg base (L2.CX P w) 3 (He.ga K "rest_walked_in") fd ["equation", "modulus", "row", "word"] (spD K (xaK K) 4 con_rest_walked_in) := by
  obtain ⟨fd, F⟩ := U.c.def_ 23 (d := Hd.mkD "rest_walked_in" 38) rfl
  exact ⟨fd, F, fn_ok U.free F sc_rest_walked_in tr_rest_walked_in (kn_rest_walked_in U) law_rest_walked_in⟩
theorem ok_rest_walked_in (U : Ux Hd.fa Hd.fn K h mg) : FnG P w K mg base (xaK K) 3 F_rest_walked_in := by
  obtain ⟨fd, F, ok⟩ := okF_rest_walked_in (P := P) (w := w) (base := base) U
  exact ⟨_, fd, U.glo 23 (x := "rest_walked_in") rfl, F.kp, ok, F.bindsN fun _ _ _ _ _ _ us hl => match us, hl with | [_, _, _, _], _ => rfl⟩
theorem sc_walked_in : FnScope N_walked_in ["equation", "solution", "word"] (defScope (top 45)) := ⟨rfl, rfl, rfl, by decide +kernel, rfl, by decide +kernel, by decide +kernel⟩
theorem tr_walked_in : trSs N_walked_in (defScope (top 45)) (B_walked_in) (defBody (top 45)) = true := by kernel_rfl
theorem kn_walked_in (U : Ux Hd.fa Hd.fn K h mg) : KnG P w K mg base (xaK K) 2 B_walked_in := by
  have f_flipped_in := (ok_flipped_in (P := P) (w := w) (base := base) U).mono (k := 2) (by decide)
  simp only [KnG, B_walked_in, KnSs, KnS, KnE, KnEs, KnO, and_true, true_and, List.length_nil, List.length_cons, Nat.reduceAdd, f_flipped_in]
theorem okF_walked_in (U : Ux Hd.fa Hd.fn K h mg) : ∃ fd, FunD K "walked_in" "walked_in" (defArgs (top 45)) (defBody (top 45)) (defScope (top 45)) [] [] (He.ga K "walked_in") fd ∧ FnOk P w K mg base (L2.CX P w) 3 (He.ga K "walked_in") fd ["equation", "solution", "word"] (spD K (xaK K) 3 con_walked_in) := by
  obtain ⟨fd, F⟩ := U.c.def_ 29 (d := Hd.mkD "walked_in" 45) rfl
  exact ⟨fd, F, fn_ok U.free F sc_walked_in tr_walked_in (kn_walked_in U) law_walked_in⟩
theorem ok_walked_in (U : Ux Hd.fa Hd.fn K h mg) : FnG P w K mg base (xaK K) 3 F_walked_in := by
  obtain ⟨fd, F, ok⟩ := okF_walked_in (P := P) (w := w) (base := base) U
  exact ⟨_, fd, U.glo 29 (x := "walked_in") rfl, F.kp, ok, F.bindsN fun _ _ _ _ _ _ us hl => match us, hl with | [_, _, _], _ => rfl⟩
theorem sc__law_idle : FnScope N__law_idle ["told_so", "numbers_so"] (defScope (top 69)) := ⟨rfl, rfl, rfl, by decide +kernel, rfl, by decide +kernel, by decide +kernel⟩
theorem tr__law_idle : trSs N__law_idle (defScope (top 69)) (B__law_idle) (defBody (top 69)) = true := by kernel_rfl
theorem kn__law_idle (U : Ux Hd.fa Hd.fn K h mg) : KnG P w K mg base (xaK K) 2 B__law_idle := by
  have f__law_flip := (ok__law_flip (P := P) (w := w) (base := base) U).mono (k := 2) (by decide)
  simp only [KnG, B__law_idle, KnSs, KnS, KnE, KnEs, KnO, and_true, true_and, List.length_nil, List.length_cons, Nat.reduceAdd, f__law_flip]
theorem okF__law_idle (U : Ux Hd.fa Hd.fn K h mg) : ∃ fd, FunD K "_law_idle" "_law_idle" (defArgs (top 69)) (defBody (top 69)) (defScope (top 69)) [] [] (He.ga K "_law_idle") fd ∧ FnOk P w K mg base (L2.CX P w) 3 (He.ga K "_law_idle") fd ["told_so", "numbers_so"] (spD K (xaK K) 2 con__law_idle) := by
  obtain ⟨fd, F⟩ := U.c.def_ 48 (d := Hd.mkD "_law_idle" 69) rfl
  exact ⟨fd, F, fn_ok U.free F sc__law_idle tr__law_idle (kn__law_idle U) law__law_idle⟩
theorem ok__law_idle (U : Ux Hd.fa Hd.fn K h mg) : FnG P w K mg base (xaK K) 3 F__law_idle := by
  obtain ⟨fd, F, ok⟩ := okF__law_idle (P := P) (w := w) (base := base) U
  exact ⟨_, fd, U.glo 48 (x := "_law_idle") rfl, F.kp, ok, F.bindsN fun _ _ _ _ _ _ us hl => match us, hl with | [_, _], _ => rfl⟩
theorem sc__law_walk : FnScope N__law_walk ["told_so", "numbers_so", "word_so"] (defScope (top 70)) := ⟨rfl, rfl, rfl, by decide +kernel, rfl, by decide +kernel, by decide +kernel⟩
theorem tr__law_walk : trSs N__law_walk (defScope (top 70)) (B__law_walk) (defBody (top 70)) = true := by kernel_rfl
theorem kn__law_walk (U : Ux Hd.fa Hd.fn K h mg) : KnG P w K mg base (xaK K) 2 B__law_walk := by
  have f__law_flip := (ok__law_flip (P := P) (w := w) (base := base) U).mono (k := 2) (by decide)
  simp only [KnG, B__law_walk, KnSs, KnS, KnE, KnEs, KnO, and_true, true_and, List.length_nil, List.length_cons, Nat.reduceAdd, f__law_flip]
theorem okF__law_walk (U : Ux Hd.fa Hd.fn K h mg) : ∃ fd, FunD K "_law_walk" "_law_walk" (defArgs (top 70)) (defBody (top 70)) (defScope (top 70)) [] [] (He.ga K "_law_walk") fd ∧ FnOk P w K mg base (L2.CX P w) 3 (He.ga K "_law_walk") fd ["told_so", "numbers_so", "word_so"] (spD K (xaK K) 3 con__law_walk) := by
  obtain ⟨fd, F⟩ := U.c.def_ 49 (d := Hd.mkD "_law_walk" 70) rfl
  exact ⟨fd, F, fn_ok U.free F sc__law_walk tr__law_walk (kn__law_walk U) law__law_walk⟩
theorem ok__law_walk (U : Ux Hd.fa Hd.fn K h mg) : FnG P w K mg base (xaK K) 3 F__law_walk := by
  obtain ⟨fd, F, ok⟩ := okF__law_walk (P := P) (w := w) (base := base) U
  exact ⟨_, fd, U.glo 49 (x := "_law_walk") rfl, F.kp, ok, F.bindsN fun _ _ _ _ _ _ us hl => match us, hl with | [_, _, _], _ => rfl⟩
theorem sc__law_mixed : FnScope N__law_mixed ["tin", "row_so"] (defScope (top 72)) := ⟨rfl, rfl, rfl, by decide +kernel, rfl, by decide +kernel, by decide +kernel⟩
theorem tr__law_mixed : trSs N__law_mixed (defScope (top 72)) (B__law_mixed) (defBody (top 72)) = true := by kernel_rfl
theorem kn__law_mixed (U : Ux Hd.fa Hd.fn K h mg) : KnG P w K mg base (xaK K) 2 B__law_mixed := by
  have f__law_pick := (ok__law_pick (P := P) (w := w) (base := base) U).mono (k := 2) (by decide)
  simp only [KnG, B__law_mixed, KnSs, KnS, KnE, KnEs, KnO, and_true, true_and, List.length_nil, List.length_cons, Nat.reduceAdd, f__law_pick]
theorem okF__law_mixed (U : Ux Hd.fa Hd.fn K h mg) : ∃ fd, FunD K "_law_mixed" "_law_mixed" (defArgs (top 72)) (defBody (top 72)) (defScope (top 72)) [] [] (He.ga K "_law_mixed") fd ∧ FnOk P w K mg base (L2.CX P w) 3 (He.ga K "_law_mixed") fd ["tin", "row_so"] (spD K (xaK K) 2 con__law_mixed) := by
  obtain ⟨fd, F⟩ := U.c.def_ 51 (d := Hd.mkD "_law_mixed" 72) rfl
  exact ⟨fd, F, fn_ok U.free F sc__law_mixed tr__law_mixed (kn__law_mixed U) law__law_mixed⟩
theorem ok__law_mixed (U : Ux Hd.fa Hd.fn K h mg) : FnG P w K mg base (xaK K) 3 F__law_mixed := by
  obtain ⟨fd, F, ok⟩ := okF__law_mixed (P := P) (w := w) (base := base) U
  exact ⟨_, fd, U.glo 51 (x := "_law_mixed") rfl, F.kp, ok, F.bindsN fun _ _ _ _ _ _ us hl => match us, hl with | [_, _], _ => rfl⟩
theorem sc_is_equation_in : FnScope N_is_equation_in ["thing"] (defScope (top 18)) := ⟨rfl, rfl, rfl, by decide +kernel, rfl, by decide +kernel, by decide +kernel⟩
theorem tr_is_equation_in : trSs N_is_equation_in (defScope (top 18)) (B_is_equation_in) (defBody (top 18)) = true := by kernel_rfl
theorem kn_is_equation_in (U : Ux Hd.fa Hd.fn K h mg) : KnG P w K mg base (xaK K) 3 B_is_equation_in := by
  have f_are_weights := (ok_are_weights (P := P) (w := w) (base := base) U).mono (k := 3) (by decide)
  have f_is_long := (ok_is_long (P := P) (w := w) (base := base) U).mono (k := 3) (by decide)
  have f_is_within := (ok_is_within (P := P) (w := w) (base := base) U).mono (k := 3) (by decide)
  have g_MOST_FACTOR := U.int 60 (x := "MOST_FACTOR") (n := 60) rfl
  simp only [KnG, B_is_equation_in, KnSs, KnS, KnE, KnEs, KnO, and_true, true_and, List.length_nil, List.length_cons, Nat.reduceAdd, f_are_weights, f_is_long, f_is_within, g_MOST_FACTOR]
theorem okF_is_equation_in (U : Ux Hd.fa Hd.fn K h mg) : ∃ fd, FunD K "is_equation_in" "is_equation_in" (defArgs (top 18)) (defBody (top 18)) (defScope (top 18)) [] [] (He.ga K "is_equation_in") fd ∧ FnOk P w K mg base (L2.CX P w) 4 (He.ga K "is_equation_in") fd ["thing"] (spD K (xaK K) 1 con_is_equation_in) := by
  obtain ⟨fd, F⟩ := U.c.def_ 7 (d := Hd.mkD "is_equation_in" 18) rfl
  exact ⟨fd, F, fn_ok U.free F sc_is_equation_in tr_is_equation_in (kn_is_equation_in U) law_is_equation_in⟩
theorem ok_is_equation_in (U : Ux Hd.fa Hd.fn K h mg) : FnG P w K mg base (xaK K) 4 F_is_equation_in := by
  obtain ⟨fd, F, ok⟩ := okF_is_equation_in (P := P) (w := w) (base := base) U
  exact ⟨_, fd, U.glo 7 (x := "is_equation_in") rfl, F.kp, ok, F.bindsN fun _ _ _ _ _ _ us hl => match us, hl with | [_], _ => rfl⟩
theorem sc_is_solution_in : FnScope N_is_solution_in ["equation", "thing"] (defScope (top 24)) := ⟨rfl, rfl, rfl, by decide +kernel, rfl, by decide +kernel, by decide +kernel⟩
theorem tr_is_solution_in : trSs N_is_solution_in (defScope (top 24)) (B_is_solution_in) (defBody (top 24)) = true := by kernel_rfl
theorem kn_is_solution_in (U : Ux Hd.fa Hd.fn K h mg) : KnG P w K mg base (xaK K) 3 B_is_solution_in := by
  have f_are_from_one := (ok_are_from_one (P := P) (w := w) (base := base) U).mono (k := 3) (by decide)
  have f_sides_in := (ok_sides_in (P := P) (w := w) (base := base) U).mono (k := 3) (by decide)
  have g_BELOW_NUMBER := U.int 61 (x := "BELOW_NUMBER") (n := BN) rfl
  simp only [KnG, B_is_solution_in, KnSs, KnS, KnE, KnEs, KnO, and_true, true_and, List.length_nil, List.length_cons, Nat.reduceAdd, f_are_from_one, f_sides_in, g_BELOW_NUMBER]
theorem okF_is_solution_in (U : Ux Hd.fa Hd.fn K h mg) : ∃ fd, FunD K "is_solution_in" "is_solution_in" (defArgs (top 24)) (defBody (top 24)) (defScope (top 24)) [] [] (He.ga K "is_solution_in") fd ∧ FnOk P w K mg base (L2.CX P w) 4 (He.ga K "is_solution_in") fd ["equation", "thing"] (spD K (xaK K) 2 con_is_solution_in) := by
  obtain ⟨fd, F⟩ := U.c.def_ 13 (d := Hd.mkD "is_solution_in" 24) rfl
  exact ⟨fd, F, fn_ok U.free F sc_is_solution_in tr_is_solution_in (kn_is_solution_in U) law_is_solution_in⟩
theorem ok_is_solution_in (U : Ux Hd.fa Hd.fn K h mg) : FnG P w K mg base (xaK K) 4 F_is_solution_in := by
  obtain ⟨fd, F, ok⟩ := okF_is_solution_in (P := P) (w := w) (base := base) U
  exact ⟨_, fd, U.glo 13 (x := "is_solution_in") rfl, F.kp, ok, F.bindsN fun _ _ _ _ _ _ us hl => match us, hl with | [_, _], _ => rfl⟩
theorem sc_sure_place : FnScope N_sure_place ["equation", "value"] (defScope (top 26)) := ⟨rfl, rfl, rfl, by decide +kernel, rfl, by decide +kernel, by decide +kernel⟩
theorem tr_sure_place : trSs N_sure_place (defScope (top 26)) (B_sure_place) (defBody (top 26)) = true := by kernel_rfl
theorem kn_sure_place (U : Ux Hd.fa Hd.fn K h mg) : KnG P w K mg base (xaK K) 3 B_sure_place := by
  have f_sure_within := (ok_sure_within (P := P) (w := w) (base := base) U).mono (k := 3) (by decide)
  simp only [KnG, B_sure_place, KnSs, KnS, KnE, KnEs, KnO, and_true, true_and, List.length_nil, List.length_cons, Nat.reduceAdd, f_sure_within]
theorem okF_sure_place (U : Ux Hd.fa Hd.fn K h mg) : ∃ fd, FunD K "sure_place" "sure_place" (defArgs (top 26)) (defBody (top 26)) (defScope (top 26)) [] [] (He.ga K "sure_place") fd ∧ FnOk P w K mg base (L2.CX P w) 4 (He.ga K "sure_place") fd ["equation", "value"] (spD K (xaK K) 2 con_sure_place) := by
  obtain ⟨fd, F⟩ := U.c.def_ 15 (d := Hd.mkD "sure_place" 26) rfl
  exact ⟨fd, F, fn_ok U.free F sc_sure_place tr_sure_place (kn_sure_place U) law_sure_place⟩
theorem ok_sure_place (U : Ux Hd.fa Hd.fn K h mg) : FnG P w K mg base (xaK K) 4 F_sure_place := by
  obtain ⟨fd, F, ok⟩ := okF_sure_place (P := P) (w := w) (base := base) U
  exact ⟨_, fd, U.glo 15 (x := "sure_place") rfl, F.kp, ok, F.bindsN fun _ _ _ _ _ _ us hl => match us, hl with | [_, _], _ => rfl⟩
theorem sc_sure_word : FnScope N_sure_word ["many", "value"] (defScope (top 28)) := ⟨rfl, rfl, rfl, by decide +kernel, rfl, by decide +kernel, by decide +kernel⟩
theorem tr_sure_word : trSs N_sure_word (defScope (top 28)) (B_sure_word) (defBody (top 28)) = true := by kernel_rfl
theorem kn_sure_word (U : Ux Hd.fa Hd.fn K h mg) : KnG P w K mg base (xaK K) 10 B_sure_word := by
  have f_is_word_in := (ok_is_word_in (P := P) (w := w) (base := base) U).mono (k := 10) (by decide)
  have f_tupled := (ok_tupled (P := P) (w := w) (base := base) U).mono (k := 10) (by decide)
  have x_Unfit := U.exc Exc.unfit 56 86 rfl rfl
  simp only [KnG, B_sure_word, KnSs, KnS, KnE, KnEs, KnO, and_true, true_and, List.length_nil, List.length_cons, Nat.reduceAdd, f_is_word_in, f_tupled, x_Unfit]
theorem okF_sure_word (U : Ux Hd.fa Hd.fn K h mg) : ∃ fd, FunD K "sure_word" "sure_word" (defArgs (top 28)) (defBody (top 28)) (defScope (top 28)) [] [] (He.ga K "sure_word") fd ∧ FnOk P w K mg base (L2.CX P w) 11 (He.ga K "sure_word") fd ["many", "value"] (spD K (xaK K) 2 con_sure_word) := by
  obtain ⟨fd, F⟩ := U.c.def_ 17 (d := Hd.mkD "sure_word" 28) rfl
  exact ⟨fd, F, fn_ok U.free F sc_sure_word tr_sure_word (kn_sure_word U) law_sure_word⟩
theorem ok_sure_word (U : Ux Hd.fa Hd.fn K h mg) : FnG P w K mg base (xaK K) 11 F_sure_word := by
  obtain ⟨fd, F, ok⟩ := okF_sure_word (P := P) (w := w) (base := base) U
  exact ⟨_, fd, U.glo 17 (x := "sure_word") rfl, F.kp, ok, F.bindsN fun _ _ _ _ _ _ us hl => match us, hl with | [_, _], _ => rfl⟩
theorem sc_sure_modulus : FnScope N_sure_modulus ["value"] (defScope (top 33)) := ⟨rfl, rfl, rfl, by decide +kernel, rfl, by decide +kernel, by decide +kernel⟩
theorem tr_sure_modulus : trSs N_sure_modulus (defScope (top 33)) (B_sure_modulus) (defBody (top 33)) = true := by kernel_rfl
theorem kn_sure_modulus (U : Ux Hd.fa Hd.fn K h mg) : KnG P w K mg base (xaK K) 3 B_sure_modulus := by
  have f_sure_within := (ok_sure_within (P := P) (w := w) (base := base) U).mono (k := 3) (by decide)
  have g_LEAST_MODULUS := U.int 63 (x := "LEAST_MODULUS") (n := 2) rfl
  have g_MOST_MODULUS_rests := U.int 64 (x := "MOST_MODULUS_rests") (n := 30) rfl
  simp only [KnG, B_sure_modulus, KnSs, KnS, KnE, KnEs, KnO, and_true, true_and, List.length_nil, List.length_cons, Nat.reduceAdd, f_sure_within, g_LEAST_MODULUS, g_MOST_MODULUS_rests]
theorem okF_sure_modulus (U : Ux Hd.fa Hd.fn K h mg) : ∃ fd, FunD K "sure_modulus" "sure_modulus" (defArgs (top 33)) (defBody (top 33)) (defScope (top 33)) [] [] (He.ga K "sure_modulus") fd ∧ FnOk P w K mg base (L2.CX P w) 4 (He.ga K "sure_modulus") fd ["value"] (spD K (xaK K) 1 con_sure_modulus) := by
  obtain ⟨fd, F⟩ := U.c.def_ 18 (d := Hd.mkD "sure_modulus" 33) rfl
  exact ⟨fd, F, fn_ok U.free F sc_sure_modulus tr_sure_modulus (kn_sure_modulus U) law_sure_modulus⟩
theorem ok_sure_modulus (U : Ux Hd.fa Hd.fn K h mg) : FnG P w K mg base (xaK K) 4 F_sure_modulus := by
  obtain ⟨fd, F, ok⟩ := okF_sure_modulus (P := P) (w := w) (base := base) U
  exact ⟨_, fd, U.glo 18 (x := "sure_modulus") rfl, F.kp, ok, F.bindsN fun _ _ _ _ _ _ us hl => match us, hl with | [_], _ => rfl⟩
theorem sc_sure_rest_row : FnScope N_sure_rest_row ["many", "modulus", "value"] (defScope (top 35)) := ⟨rfl, rfl, rfl, by decide +kernel, rfl, by decide +kernel, by decide +kernel⟩
theorem tr_sure_rest_row : trSs N_sure_rest_row (defScope (top 35)) (B_sure_rest_row) (defBody (top 35)) = true := by kernel_rfl
theorem kn_sure_rest_row (U : Ux Hd.fa Hd.fn K h mg) : KnG P w K mg base (xaK K) 10 B_sure_rest_row := by
  have f_is_rest_row_in := (ok_is_rest_row_in (P := P) (w := w) (base := base) U).mono (k := 10) (by decide)
  have f_tupled := (ok_tupled (P := P) (w := w) (base := base) U).mono (k := 10) (by decide)
  have x_Unfit := U.exc Exc.unfit 56 86 rfl rfl
  simp only [KnG, B_sure_rest_row, KnSs, KnS, KnE, KnEs, KnO, and_true, true_and, List.length_nil, List.length_cons, Nat.reduceAdd, f_is_rest_row_in, f_tupled, x_Unfit]
theorem okF_sure_rest_row (U : Ux Hd.fa Hd.fn K h mg) : ∃ fd, FunD K "sure_rest_row" "sure_rest_row" (defArgs (top 35)) (defBody (top 35)) (defScope (top 35)) [] [] (He.ga K "sure_rest_row") fd ∧ FnOk P w K mg base (L2.CX P w) 11 (He.ga K "sure_rest_row") fd ["many", "modulus", "value"] (spD K (xaK K) 3 con_sure_rest_row) := by
  obtain ⟨fd, F⟩ := U.c.def_ 20 (d := Hd.mkD "sure_rest_row" 35) rfl
  exact ⟨fd, F, fn_ok U.free F sc_sure_rest_row tr_sure_rest_row (kn_sure_rest_row U) law_sure_rest_row⟩
theorem ok_sure_rest_row (U : Ux Hd.fa Hd.fn K h mg) : FnG P w K mg base (xaK K) 11 F_sure_rest_row := by
  obtain ⟨fd, F, ok⟩ := okF_sure_rest_row (P := P) (w := w) (base := base) U
  exact ⟨_, fd, U.glo 20 (x := "sure_rest_row") rfl, F.kp, ok, F.bindsN fun _ _ _ _ _ _ us hl => match us, hl with | [_, _, _], _ => rfl⟩
theorem sc__law_drawn : FnScope N__law_drawn ["tin", "long_so"] (defScope (top 73)) := ⟨rfl, rfl, rfl, by decide +kernel, rfl, by decide +kernel, by decide +kernel⟩
theorem tr__law_drawn : trSs N__law_drawn (defScope (top 73)) (B__law_drawn) (defBody (top 73)) = true := by kernel_rfl
theorem kn__law_drawn (U : Ux Hd.fa Hd.fn K h mg) : KnG P w K mg base (xaK K) 3 B__law_drawn := by
  have f__law_known := (ok__law_known (P := P) (w := w) (base := base) U).mono (k := 3) (by decide)
  have f__law_mixed := (ok__law_mixed (P := P) (w := w) (base := base) U).mono (k := 3) (by decide)
  have f__law_of := (ok__law_of (P := P) (w := w) (base := base) U).mono (k := 3) (by decide)
  simp only [KnG, B__law_drawn, KnSs, KnS, KnE, KnEs, KnO, and_true, true_and, List.length_nil, List.length_cons, Nat.reduceAdd, f__law_known, f__law_mixed, f__law_of]
theorem okF__law_drawn (U : Ux Hd.fa Hd.fn K h mg) : ∃ fd, FunD K "_law_drawn" "_law_drawn" (defArgs (top 73)) (defBody (top 73)) (defScope (top 73)) [] [] (He.ga K "_law_drawn") fd ∧ FnOk P w K mg base (L2.CX P w) 4 (He.ga K "_law_drawn") fd ["tin", "long_so"] (spD K (xaK K) 2 con__law_drawn) := by
  obtain ⟨fd, F⟩ := U.c.def_ 52 (d := Hd.mkD "_law_drawn" 73) rfl
  exact ⟨fd, F, fn_ok U.free F sc__law_drawn tr__law_drawn (kn__law_drawn U) law__law_drawn⟩
theorem ok__law_drawn (U : Ux Hd.fa Hd.fn K h mg) : FnG P w K mg base (xaK K) 4 F__law_drawn := by
  obtain ⟨fd, F, ok⟩ := okF__law_drawn (P := P) (w := w) (base := base) U
  exact ⟨_, fd, U.glo 52 (x := "_law_drawn") rfl, F.kp, ok, F.bindsN fun _ _ _ _ _ _ us hl => match us, hl with | [_, _], _ => rfl⟩
theorem sc__law_up : FnScope N__law_up ["tin", "told_so", "root_so", "tall_so"] (defScope (top 74)) := ⟨rfl, rfl, rfl, by decide +kernel, rfl, by decide +kernel, by decide +kernel⟩
theorem tr__law_up : trSs N__law_up (defScope (top 74)) (B__law_up) (defBody (top 74)) = true := by kernel_rfl
theorem kn__law_up (U : Ux Hd.fa Hd.fn K h mg) : KnG P w K mg base (xaK K) 3 B__law_up := by
  have f__law_flip := (ok__law_flip (P := P) (w := w) (base := base) U).mono (k := 3) (by decide)
  have f__law_idle := (ok__law_idle (P := P) (w := w) (base := base) U).mono (k := 3) (by decide)
  have f__law_of := (ok__law_of (P := P) (w := w) (base := base) U).mono (k := 3) (by decide)
  simp only [KnG, B__law_up, KnSs, KnS, KnE, KnEs, KnO, and_true, true_and, List.length_nil, List.length_cons, Nat.reduceAdd, f__law_flip, f__law_idle, f__law_of]
theorem okF__law_up (U : Ux Hd.fa Hd.fn K h mg) : ∃ fd, FunD K "_law_up" "_law_up" (defArgs (top 74)) (defBody (top 74)) (defScope (top 74)) [] [] (He.ga K "_law_up") fd ∧ FnOk P w K mg base (L2.CX P w) 4 (He.ga K "_law_up") fd ["tin", "told_so", "root_so", "tall_so"] (spD K (xaK K) 4 con__law_up) := by
  obtain ⟨fd, F⟩ := U.c.def_ 53 (d := Hd.mkD "_law_up" 74) rfl
  exact ⟨fd, F, fn_ok U.free F sc__law_up tr__law_up (kn__law_up U) law__law_up⟩
theorem ok__law_up (U : Ux Hd.fa Hd.fn K h mg) : FnG P w K mg base (xaK K) 4 F__law_up := by
  obtain ⟨fd, F, ok⟩ := okF__law_up (P := P) (w := w) (base := base) U
  exact ⟨_, fd, U.glo 53 (x := "_law_up") rfl, F.kp, ok, F.bindsN fun _ _ _ _ _ _ us hl => match us, hl with | [_, _, _, _], _ => rfl⟩
theorem sc_sure_equation : FnScope N_sure_equation ["value"] (defScope (top 19)) := ⟨rfl, rfl, rfl, by decide +kernel, rfl, by decide +kernel, by decide +kernel⟩
theorem tr_sure_equation : trSs N_sure_equation (defScope (top 19)) (B_sure_equation) (defBody (top 19)) = true := by kernel_rfl
theorem kn_sure_equation (U : Ux Hd.fa Hd.fn K h mg) : KnG P w K mg base (xaK K) 10 B_sure_equation := by
  have f_is_equation_in := (ok_is_equation_in (P := P) (w := w) (base := base) U).mono (k := 10) (by decide)
  have f_tupled := (ok_tupled (P := P) (w := w) (base := base) U).mono (k := 10) (by decide)
  have x_Unfit := U.exc Exc.unfit 56 86 rfl rfl
  simp only [KnG, B_sure_equation, KnSs, KnS, KnE, KnEs, KnO, and_true, true_and, List.length_nil, List.length_cons, Nat.reduceAdd, f_is_equation_in, f_tupled, x_Unfit]
theorem okF_sure_equation (U : Ux Hd.fa Hd.fn K h mg) : ∃ fd, FunD K "sure_equation" "sure_equation" (defArgs (top 19)) (defBody (top 19)) (defScope (top 19)) [] [] (He.ga K "sure_equation") fd ∧ FnOk P w K mg base (L2.CX P w) 11 (He.ga K "sure_equation") fd ["value"] (spD K (xaK K) 1 con_sure_equation) := by
  obtain ⟨fd, F⟩ := U.c.def_ 8 (d := Hd.mkD "sure_equation" 19) rfl
  exact ⟨fd, F, fn_ok U.free F sc_sure_equation tr_sure_equation (kn_sure_equation U) law_sure_equation⟩
theorem ok_sure_equation (U : Ux Hd.fa Hd.fn K h mg) : FnG P w K mg base (xaK K) 11 F_sure_equation := by
  obtain ⟨fd, F, ok⟩ := okF_sure_equation (P := P) (w := w) (base := base) U
  exact ⟨_, fd, U.glo 8 (x := "sure_equation") rfl, F.kp, ok, F.bindsN fun _ _ _ _ _ _ us hl => match us, hl with | [_], _ => rfl⟩
theorem sc_sure_solution : FnScope N_sure_solution ["equation", "value"] (defScope (top 25)) := ⟨rfl, rfl, rfl, by decide +kernel, rfl, by decide +kernel, by decide +kernel⟩
theorem tr_sure_solution : trSs N_sure_solution (defScope (top 25)) (B_sure_solution) (defBody (top 25)) = true := by kernel_rfl
theorem kn_sure_solution (U : Ux Hd.fa Hd.fn K h mg) : KnG P w K mg base (xaK K) 10 B_sure_solution := by
  have f_is_solution_in := (ok_is_solution_in (P := P) (w := w) (base := base) U).mono (k := 10) (by decide)
  have f_tupled := (ok_tupled (P := P) (w := w) (base := base) U).mono (k := 10) (by decide)
  have x_Unfit := U.exc Exc.unfit 56 86 rfl rfl
  simp only [KnG, B_sure_solution, KnSs, KnS, KnE, KnEs, KnO, and_true, true_and, List.length_nil, List.length_cons, Nat.reduceAdd, f_is_solution_in, f_tupled, x_Unfit]
theorem okF_sure_solution (U : Ux Hd.fa Hd.fn K h mg) : ∃ fd, FunD K "sure_solution" "sure_solution" (defArgs (top 25)) (defBody (top 25)) (defScope (top 25)) [] [] (He.ga K "sure_solution") fd ∧ FnOk P w K mg base (L2.CX P w) 11 (He.ga K "sure_solution") fd ["equation", "value"] (spD K (xaK K) 2 con_sure_solution) := by
  obtain ⟨fd, F⟩ := U.c.def_ 14 (d := Hd.mkD "sure_solution" 25) rfl
  exact ⟨fd, F, fn_ok U.free F sc_sure_solution tr_sure_solution (kn_sure_solution U) law_sure_solution⟩
theorem ok_sure_solution (U : Ux Hd.fa Hd.fn K h mg) : FnG P w K mg base (xaK K) 11 F_sure_solution := by
  obtain ⟨fd, F, ok⟩ := okF_sure_solution (P := P) (w := w) (base := base) U
  exact ⟨_, fd, U.glo 14 (x := "sure_solution") rfl, F.kp, ok, F.bindsN fun _ _ _ _ _ _ us hl => match us, hl with | [_, _], _ => rfl⟩
theorem sc_cut : FnScope N_cut ["word"] (defScope (top 58)) := ⟨rfl, rfl, rfl, by decide +kernel, rfl, by decide +kernel, by decide +kernel⟩
theorem tr_cut : trSs N_cut (defScope (top 58)) (B_cut) (defBody (top 58)) = true := by kernel_rfl
theorem kn_cut (U : Ux Hd.fa Hd.fn K h mg) : KnG P w K mg base (xaK K) 11 B_cut := by
  have f_cut_in := (ok_cut_in (P := P) (w := w) (base := base) U).mono (k := 11) (by decide)
  have f_sure_word := (ok_sure_word (P := P) (w := w) (base := base) U).mono (k := 11) (by decide)
  have g_MOST_PLACES := U.int 58 (x := "MOST_PLACES") (n := 6) rfl
  simp only [KnG, B_cut, KnSs, KnS, KnE, KnEs, KnO, and_true, true_and, List.length_nil, List.length_cons, Nat.reduceAdd, f_cut_in, f_sure_word, g_MOST_PLACES]
theorem okF_cut (U : Ux Hd.fa Hd.fn K h mg) : ∃ fd, FunD K "cut" "cut" (defArgs (top 58)) (defBody (top 58)) (defScope (top 58)) [] [] (He.ga K "cut") fd ∧ FnOk P w K mg base (L2.CX P w) 12 (He.ga K "cut") fd ["word"] (spD K (xaK K) 1 con_cut) := by
  obtain ⟨fd, F⟩ := U.c.def_ 38 (d := Hd.mkD "cut" 58) rfl
  exact ⟨fd, F, fn_ok U.free F sc_cut tr_cut (kn_cut U) law_cut⟩
theorem ok_cut (U : Ux Hd.fa Hd.fn K h mg) : FnG P w K mg base (xaK K) 12 F_cut := by
  obtain ⟨fd, F, ok⟩ := okF_cut (P := P) (w := w) (base := base) U
  exact ⟨_, fd, U.glo 38 (x := "cut") rfl, F.kp, ok, F.bindsN fun _ _ _ _ _ _ us hl => match us, hl with | [_], _ => rfl⟩
theorem kw_cut_0_word (U : Ux Hd.fa Hd.fn K h mg) : KwG P w K mg base (xaK K) 12 F_cut 0 ["word"] [0] := by
  obtain ⟨fd, F, ok⟩ := okF_cut (P := P) (w := w) (base := base) U
  exact ⟨_, fd, U.glo 38 (x := "cut") rfl, F.kp, ok, kb_of F fun _ _ _ _ _ _ us ws h1 h2 => match us, ws, h1, h2 with | [], [_], _, _ => rfl⟩
theorem sc_word_back : FnScope N_word_back ["word"] (defScope (top 59)) := ⟨rfl, rfl, rfl, by decide +kernel, rfl, by decide +kernel, by decide +kernel⟩
theorem tr_word_back : trSs N_word_back (defScope (top 59)) (B_word_back) (defBody (top 59)) = true := by kernel_rfl
theorem kn_word_back (U : Ux Hd.fa Hd.fn K h mg) : KnG P w K mg base (xaK K) 11 B_word_back := by
  have f_cut_in := (ok_cut_in (P := P) (w := w) (base := base) U).mono (k := 11) (by decide)
  have f_sure_word := (ok_sure_word (P := P) (w := w) (base := base) U).mono (k := 11) (by decide)
  have g_MOST_PLACES := U.int 58 (x := "MOST_PLACES") (n := 6) rfl
  simp only [KnG, B_word_back, KnSs, KnS, KnE, KnEs, KnO, and_true, true_and, List.length_nil, List.length_cons, Nat.reduceAdd, f_cut_in, f_sure_word, g_MOST_PLACES]
theorem okF_word_back (U : Ux Hd.fa Hd.fn K h mg) : ∃ fd, FunD K "word_back" "word_back" (defArgs (top 59)) (defBody (top 59)) (defScope (top 59)) [] [] (He.ga K "word_back") fd ∧ FnOk P w K mg base (L2.CX P w) 12 (He.ga K "word_back") fd ["word"] (spD K (xaK K) 1 con_word_back) := by
  obtain ⟨fd, F⟩ := U.c.def_ 39 (d := Hd.mkD "word_back" 59) rfl
  exact ⟨fd, F, fn_ok U.free F sc_word_back tr_word_back (kn_word_back U) law_word_back⟩
theorem ok_word_back (U : Ux Hd.fa Hd.fn K h mg) : FnG P w K mg base (xaK K) 12 F_word_back := by
  obtain ⟨fd, F, ok⟩ := okF_word_back (P := P) (w := w) (base := base) U
  exact ⟨_, fd, U.glo 39 (x := "word_back") rfl, F.kp, ok, F.bindsN fun _ _ _ _ _ _ us hl => match us, hl with | [_], _ => rfl⟩
theorem kw_word_back_0_word (U : Ux Hd.fa Hd.fn K h mg) : KwG P w K mg base (xaK K) 12 F_word_back 0 ["word"] [0] := by
  obtain ⟨fd, F, ok⟩ := okF_word_back (P := P) (w := w) (base := base) U
  exact ⟨_, fd, U.glo 39 (x := "word_back") rfl, F.kp, ok, kb_of F fun _ _ _ _ _ _ us ws h1 h2 => match us, ws, h1, h2 with | [], [_], _, _ => rfl⟩
theorem sc_rest_row : FnScope N_rest_row ["equation", "solution", "modulus"] (defScope (top 39)) := ⟨rfl, rfl, rfl, by decide +kernel, rfl, by decide +kernel, by decide +kernel⟩
theorem tr_rest_row : trSs N_rest_row (defScope (top 39)) (B_rest_row) (defBody (top 39)) = true := by kernel_rfl
theorem kn_rest_row (U : Ux Hd.fa Hd.fn K h mg) : KnG P w K mg base (xaK K) 11 B_rest_row := by
  have f_rests_in := (ok_rests_in (P := P) (w := w) (base := base) U).mono (k := 11) (by decide)
  have f_sure_equation := (ok_sure_equation (P := P) (w := w) (base := base) U).mono (k := 11) (by decide)
  have f_sure_modulus := (ok_sure_modulus (P := P) (w := w) (base := base) U).mono (k := 11) (by decide)
  have f_sure_solution := (ok_sure_solution (P := P) (w := w) (base := base) U).mono (k := 11) (by decide)
  simp only [KnG, B_rest_row, KnSs, KnS, KnE, KnEs, KnO, and_true, true_and, List.length_nil, List.length_cons, Nat.reduceAdd, f_rests_in, f_sure_equation, f_sure_modulus, f_sure_solution]
theorem okF_rest_row (U : Ux Hd.fa Hd.fn K h mg) : ∃ fd, FunD K "rest_row" "rest_row" (defArgs (top 39)) (defBody (top 39)) (defScope (top 39)) [] [] (He.ga K "rest_row") fd ∧ FnOk P w K mg base (L2.CX P w) 12 (He.ga K "rest_row") fd ["equation", "solution", "modulus"] (spD K (xaK K) 3 con_rest_row) := by
  obtain ⟨fd, F⟩ := U.c.def_ 24 (d := Hd.mkD "rest_row" 39) rfl
  exact ⟨fd, F, fn_ok U.free F sc_rest_row tr_rest_row (kn_rest_row U) law_rest_row⟩
theorem ok_rest_row (U : Ux Hd.fa Hd.fn K h mg) : FnG P w K mg base (xaK K) 12 F_rest_row := by
  obtain ⟨fd, F, ok⟩ := okF_rest_row (P := P) (w := w) (base := base) U
  exact ⟨_, fd, U.glo 24 (x := "rest_row") rfl, F.kp, ok, F.bindsN fun _ _ _ _ _ _ us hl => match us, hl with | [_, _, _], _ => rfl⟩
theorem kw_rest_row_0_equation_solution_modulus (U : Ux Hd.fa Hd.fn K h mg) : KwG P w K mg base (xaK K) 12 F_rest_row 0 ["equation", "solution", "modulus"] [0, 1, 2] := by
  obtain ⟨fd, F, ok⟩ := okF_rest_row (P := P) (w := w) (base := base) U
  exact ⟨_, fd, U.glo 24 (x := "rest_row") rfl, F.kp, ok, kb_of F fun _ _ _ _ _ _ us ws h1 h2 => match us, ws, h1, h2 with | [], [_, _, _], _, _ => rfl⟩
theorem sc_rest_flip : FnScope N_rest_flip ["equation", "modulus", "row", "place"] (defScope (top 40)) := ⟨rfl, rfl, rfl, by decide +kernel, rfl, by decide +kernel, by decide +kernel⟩
theorem tr_rest_flip : trSs N_rest_flip (defScope (top 40)) (B_rest_flip) (defBody (top 40)) = true := by kernel_rfl
theorem kn_rest_flip (U : Ux Hd.fa Hd.fn K h mg) : KnG P w K mg base (xaK K) 11 B_rest_flip := by
  have f_rest_flipped := (ok_rest_flipped (P := P) (w := w) (base := base) U).mono (k := 11) (by decide)
  have f_sure_equation := (ok_sure_equation (P := P) (w := w) (base := base) U).mono (k := 11) (by decide)
  have f_sure_modulus := (ok_sure_modulus (P := P) (w := w) (base := base) U).mono (k := 11) (by decide)
  have f_sure_place := (ok_sure_place (P := P) (w := w) (base := base) U).mono (k := 11) (by decide)
  have f_sure_rest_row := (ok_sure_rest_row (P := P) (w := w) (base := base) U).mono (k := 11) (by decide)
  simp only [KnG, B_rest_flip, KnSs, KnS, KnE, KnEs, KnO, and_true, true_and, List.length_nil, List.length_cons, Nat.reduceAdd, f_rest_flipped, f_sure_equation, f_sure_modulus, f_sure_place, f_sure_rest_row]
theorem okF_rest_flip (U : Ux Hd.fa Hd.fn K h mg) : ∃ fd, FunD K "rest_flip" "rest_flip" (defArgs (top 40)) (defBody (top 40)) (defScope (top 40)) [] [] (He.ga K "rest_flip") fd ∧ FnOk P w K mg base (L2.CX P w) 12 (He.ga K "rest_flip") fd ["equation", "modulus", "row", "place"] (spD K (xaK K) 4 con_rest_flip) := by
  obtain ⟨fd, F⟩ := U.c.def_ 25 (d := Hd.mkD "rest_flip" 40) rfl
  exact ⟨fd, F, fn_ok U.free F sc_rest_flip tr_rest_flip (kn_rest_flip U) law_rest_flip⟩
theorem ok_rest_flip (U : Ux Hd.fa Hd.fn K h mg) : FnG P w K mg base (xaK K) 12 F_rest_flip := by
  obtain ⟨fd, F, ok⟩ := okF_rest_flip (P := P) (w := w) (base := base) U
  exact ⟨_, fd, U.glo 25 (x := "rest_flip") rfl, F.kp, ok, F.bindsN fun _ _ _ _ _ _ us hl => match us, hl with | [_, _, _, _], _ => rfl⟩
theorem kw_rest_flip_0_equation_modulus_row_place (U : Ux Hd.fa Hd.fn K h mg) : KwG P w K mg base (xaK K) 12 F_rest_flip 0 ["equation", "modulus", "row", "place"] [0, 1, 2, 3] := by
  obtain ⟨fd, F, ok⟩ := okF_rest_flip (P := P) (w := w) (base := base) U
  exact ⟨_, fd, U.glo 25 (x := "rest_flip") rfl, F.kp, ok, kb_of F fun _ _ _ _ _ _ us ws h1 h2 => match us, ws, h1, h2 with | [], [_, _, _, _], _, _ => rfl⟩
theorem sc_rest_walked : FnScope N_rest_walked ["equation", "modulus", "row", "word"] (defScope (top 41)) := ⟨rfl, rfl, rfl, by decide +kernel, rfl, by decide +kernel, by decide +kernel⟩
theorem tr_rest_walked : trSs N_rest_walked (defScope (top 41)) (B_rest_walked) (defBody (top 41)) = true := by kernel_rfl
theorem kn_rest_walked (U : Ux Hd.fa Hd.fn K h mg) : KnG P w K mg base (xaK K) 11 B_rest_walked := by
  have f_rest_walked_in := (ok_rest_walked_in (P := P) (w := w) (base := base) U).mono (k := 11) (by decide)
  have f_sure_equation := (ok_sure_equation (P := P) (w := w) (base := base) U).mono (k := 11) (by decide)
  have f_sure_modulus := (ok_sure_modulus (P := P) (w := w) (base := base) U).mono (k := 11) (by decide)
  have f_sure_rest_row := (ok_sure_rest_row (P := P) (w := w) (base := base) U).mono (k := 11) (by decide)
  have f_sure_word := (ok_sure_word (P := P) (w := w) (base := base) U).mono (k := 11) (by decide)
  simp only [KnG, B_rest_walked, KnSs, KnS, KnE, KnEs, KnO, and_true, true_and, List.length_nil, List.length_cons, Nat.reduceAdd, f_rest_walked_in, f_sure_equation, f_sure_modulus, f_sure_rest_row, f_sure_word]
theorem okF_rest_walked (U : Ux Hd.fa Hd.fn K h mg) : ∃ fd, FunD K "rest_walked" "rest_walked" (defArgs (top 41)) (defBody (top 41)) (defScope (top 41)) [] [] (He.ga K "rest_walked") fd ∧ FnOk P w K mg base (L2.CX P w) 12 (He.ga K "rest_walked") fd ["equation", "modulus", "row", "word"] (spD K (xaK K) 4 con_rest_walked) := by
  obtain ⟨fd, F⟩ := U.c.def_ 26 (d := Hd.mkD "rest_walked" 41) rfl
  exact ⟨fd, F, fn_ok U.free F sc_rest_walked tr_rest_walked (kn_rest_walked U) law_rest_walked⟩
theorem ok_rest_walked (U : Ux Hd.fa Hd.fn K h mg) : FnG P w K mg base (xaK K) 12 F_rest_walked := by
  obtain ⟨fd, F, ok⟩ := okF_rest_walked (P := P) (w := w) (base := base) U
  exact ⟨_, fd, U.glo 26 (x := "rest_walked") rfl, F.kp, ok, F.bindsN fun _ _ _ _ _ _ us hl => match us, hl with | [_, _, _, _], _ => rfl⟩
theorem kw_rest_walked_0_equation_modulus_row_word (U : Ux Hd.fa Hd.fn K h mg) : KwG P w K mg base (xaK K) 12 F_rest_walked 0 ["equation", "modulus", "row", "word"] [0, 1, 2, 3] := by
  obtain ⟨fd, F, ok⟩ := okF_rest_walked (P := P) (w := w) (base := base) U
  exact ⟨_, fd, U.glo 26 (x := "rest_walked") rfl, F.kp, ok, kb_of F fun _ _ _ _ _ _ us ws h1 h2 => match us, ws, h1, h2 with | [], [_, _, _, _], _, _ => rfl⟩
theorem sc_word_round : FnScope N_word_round ["equation", "solution", "word", "modulus"] (defScope (top 42)) := ⟨rfl, rfl, rfl, by decide +kernel, rfl, by decide +kernel, by decide +kernel⟩
theorem tr_word_round : trSs N_word_round (defScope (top 42)) (B_word_round) (defBody (top 42)) = true := by kernel_rfl
theorem kn_word_round (U : Ux Hd.fa Hd.fn K h mg) : KnG P w K mg base (xaK K) 11 B_word_round := by
  have f_rest_walked_in := (ok_rest_walked_in (P := P) (w := w) (base := base) U).mono (k := 11) (by decide)
  have f_rests_in := (ok_rests_in (P := P) (w := w) (base := base) U).mono (k := 11) (by decide)
  have f_sure_equation := (ok_sure_equation (P := P) (w := w) (base := base) U).mono (k := 11) (by decide)
  have f_sure_modulus := (ok_sure_modulus (P := P) (w := w) (base := base) U).mono (k := 11) (by decide)
  have f_sure_solution := (ok_sure_solution (P := P) (w := w) (base := base) U).mono (k := 11) (by decide)
  have f_sure_word := (ok_sure_word (P := P) (w := w) (base := base) U).mono (k := 11) (by decide)
  have x_TooMany := U.exc Exc.tooMany 55 85 rfl rfl
  have g_MOST_LAPS := U.int 65 (x := "MOST_LAPS") (n := 20000) rfl
  simp only [KnG, B_word_round, KnSs, KnS, KnE, KnEs, KnO, and_true, true_and, List.length_nil, List.length_cons, Nat.reduceAdd, f_rest_walked_in, f_rests_in, f_sure_equation, f_sure_modulus, f_sure_solution, f_sure_word, x_TooMany, g_MOST_LAPS]
theorem okF_word_round (U : Ux Hd.fa Hd.fn K h mg) : ∃ fd, FunD K "word_round" "word_round" (defArgs (top 42)) (defBody (top 42)) (defScope (top 42)) [] [] (He.ga K "word_round") fd ∧ FnOk P w K mg base (L2.CX P w) 12 (He.ga K "word_round") fd ["equation", "solution", "word", "modulus"] (spD K (xaK K) 4 con_word_round) := by
  obtain ⟨fd, F⟩ := U.c.def_ 27 (d := Hd.mkD "word_round" 42) rfl
  exact ⟨fd, F, fn_ok U.free F sc_word_round tr_word_round (kn_word_round U) law_word_round⟩
theorem ok_word_round (U : Ux Hd.fa Hd.fn K h mg) : FnG P w K mg base (xaK K) 12 F_word_round := by
  obtain ⟨fd, F, ok⟩ := okF_word_round (P := P) (w := w) (base := base) U
  exact ⟨_, fd, U.glo 27 (x := "word_round") rfl, F.kp, ok, F.bindsN fun _ _ _ _ _ _ us hl => match us, hl with | [_, _, _, _], _ => rfl⟩
theorem kw_word_round_0_equation_solution_word_modulus (U : Ux Hd.fa Hd.fn K h mg) : KwG P w K mg base (xaK K) 12 F_word_round 0 ["equation", "solution", "word", "modulus"] [0, 1, 2, 3] := by
  obtain ⟨fd, F, ok⟩ := okF_word_round (P := P) (w := w) (base := base) U
  exact ⟨_, fd, U.glo 27 (x := "word_round") rfl, F.kp, ok, kb_of F fun _ _ _ _ _ _ us ws h1 h2 => match us, ws, h1, h2 with | [], [_, _, _, _], _, _ => rfl⟩
theorem sc_walked : FnScope N_walked ["equation", "solution", "word"] (defScope (top 46)) := ⟨rfl, rfl, rfl, by decide +kernel, rfl, by decide +kernel, by decide +kernel⟩
theorem tr_walked : trSs N_walked (defScope (top 46)) (B_walked) (defBody (top 46)) = true := by kernel_rfl
theorem kn_walked (U : Ux Hd.fa Hd.fn K h mg) : KnG P w K mg base (xaK K) 11 B_walked := by
  have f_sure_equation := (ok_sure_equation (P := P) (w := w) (base := base) U).mono (k := 11) (by decide)
  have f_sure_solution := (ok_sure_solution (P := P) (w := w) (base := base) U).mono (k := 11) (by decide)
  have f_sure_word := (ok_sure_word (P := P) (w := w) (base := base) U).mono (k := 11) (by decide)
  have f_walked_in := (ok_walked_in (P := P) (w := w) (base := base) U).mono (k := 11) (by decide)
  simp only [KnG, B_walked, KnSs, KnS, KnE, KnEs, KnO, and_true, true_and, List.length_nil, List.length_cons, Nat.reduceAdd, f_sure_equation, f_sure_solution, f_sure_word, f_walked_in]
theorem okF_walked (U : Ux Hd.fa Hd.fn K h mg) : ∃ fd, FunD K "walked" "walked" (defArgs (top 46)) (defBody (top 46)) (defScope (top 46)) [] [] (He.ga K "walked") fd ∧ FnOk P w K mg base (L2.CX P w) 12 (He.ga K "walked") fd ["equation", "solution", "word"] (spD K (xaK K) 3 con_walked) := by
  obtain ⟨fd, F⟩ := U.c.def_ 30 (d := Hd.mkD "walked" 46) rfl
  exact ⟨fd, F, fn_ok U.free F sc_walked tr_walked (kn_walked U) law_walked⟩
theorem ok_walked (U : Ux Hd.fa Hd.fn K h mg) : FnG P w K mg base (xaK K) 12 F_walked := by
  obtain ⟨fd, F, ok⟩ := okF_walked (P := P) (w := w) (base := base) U
  exact ⟨_, fd, U.glo 30 (x := "walked") rfl, F.kp, ok, F.bindsN fun _ _ _ _ _ _ us hl => match us, hl with | [_, _, _], _ => rfl⟩
theorem kw_walked_0_equation_solution_word (U : Ux Hd.fa Hd.fn K h mg) : KwG P w K mg base (xaK K) 12 F_walked 0 ["equation", "solution", "word"] [0, 1, 2] := by
  obtain ⟨fd, F, ok⟩ := okF_walked (P := P) (w := w) (base := base) U
  exact ⟨_, fd, U.glo 30 (x := "walked") rfl, F.kp, ok, kb_of F fun _ _ _ _ _ _ us ws h1 h2 => match us, ws, h1, h2 with | [], [_, _, _], _, _ => rfl⟩
theorem sc_sure_road : FnScope N_sure_road ["equation", "solution", "one", "other"] (defScope (top 50)) := ⟨rfl, rfl, rfl, by decide +kernel, rfl, by decide +kernel, by decide +kernel⟩
theorem tr_sure_road : trSs N_sure_road (defScope (top 50)) (B_sure_road) (defBody (top 50)) = true := by kernel_rfl
theorem kn_sure_road (U : Ux Hd.fa Hd.fn K h mg) : KnG P w K mg base (xaK K) 11 B_sure_road := by
  have f_product_of := (ok_product_of (P := P) (w := w) (base := base) U).mono (k := 11) (by decide)
  have f_sure_equation := (ok_sure_equation (P := P) (w := w) (base := base) U).mono (k := 11) (by decide)
  have f_sure_place := (ok_sure_place (P := P) (w := w) (base := base) U).mono (k := 11) (by decide)
  have f_sure_solution := (ok_sure_solution (P := P) (w := w) (base := base) U).mono (k := 11) (by decide)
  have x_Unfit := U.exc Exc.unfit 56 86 rfl rfl
  simp only [KnG, B_sure_road, KnSs, KnS, KnE, KnEs, KnO, and_true, true_and, List.length_nil, List.length_cons, Nat.reduceAdd, f_product_of, f_sure_equation, f_sure_place, f_sure_solution, x_Unfit]
theorem okF_sure_road (U : Ux Hd.fa Hd.fn K h mg) : ∃ fd, FunD K "sure_road" "sure_road" (defArgs (top 50)) (defBody (top 50)) (defScope (top 50)) [] [] (He.ga K "sure_road") fd ∧ FnOk P w K mg base (L2.CX P w) 12 (He.ga K "sure_road") fd ["equation", "solution", "one", "other"] (spD K (xaK K) 4 con_sure_road) := by
  obtain ⟨fd, F⟩ := U.c.def_ 31 (d := Hd.mkD "sure_road" 50) rfl
  exact ⟨fd, F, fn_ok U.free F sc_sure_road tr_sure_road (kn_sure_road U) law_sure_road⟩
theorem ok_sure_road (U : Ux Hd.fa Hd.fn K h mg) : FnG P w K mg base (xaK K) 12 F_sure_road := by
  obtain ⟨fd, F, ok⟩ := okF_sure_road (P := P) (w := w) (base := base) U
  exact ⟨_, fd, U.glo 31 (x := "sure_road") rfl, F.kp, ok, F.bindsN fun _ _ _ _ _ _ us hl => match us, hl with | [_, _, _, _], _ => rfl⟩
theorem sc_road_rest : FnScope N_road_rest ["equation", "solution", "one", "other", "often", "modulus"] (defScope (top 54)) := ⟨rfl, rfl, rfl, by decide +kernel, rfl, by decide +kernel, by decide +kernel⟩
theorem tr_road_rest : trSs N_road_rest (defScope (top 54)) (B_road_rest) (defBody (top 54)) = true := by kernel_rfl
theorem kn_road_rest (U : Ux Hd.fa Hd.fn K h mg) : KnG P w K mg base (xaK K) 12 B_road_rest := by
  have f_sure_road := (ok_sure_road (P := P) (w := w) (base := base) U).mono (k := 12) (by decide)
  have f_sure_within := (ok_sure_within (P := P) (w := w) (base := base) U).mono (k := 12) (by decide)
  have f_table_of := (ok_table_of (P := P) (w := w) (base := base) U).mono (k := 12) (by decide)
  have f_table_power := (ok_table_power (P := P) (w := w) (base := base) U).mono (k := 12) (by decide)
  have g_MOST_MODULUS_roads := U.int 67 (x := "MOST_MODULUS_roads") (n := 1000) rfl
  have g_MOST_OFTEN := U.int 66 (x := "MOST_OFTEN") (n := 1000000000000000000) rfl
  simp only [KnG, B_road_rest, KnSs, KnS, KnE, KnEs, KnO, and_true, true_and, List.length_nil, List.length_cons, Nat.reduceAdd, f_sure_road, f_sure_within, f_table_of, f_table_power, g_MOST_MODULUS_roads, g_MOST_OFTEN]
theorem okF_road_rest (U : Ux Hd.fa Hd.fn K h mg) : ∃ fd, FunD K "road_rest" "road_rest" (defArgs (top 54)) (defBody (top 54)) (defScope (top 54)) [] [] (He.ga K "road_rest") fd ∧ FnOk P w K mg base (L2.CX P w) 13 (He.ga K "road_rest") fd ["equation", "solution", "one", "other", "often", "modulus"] (spD K (xaK K) 6 con_road_rest) := by
  obtain ⟨fd, F⟩ := U.c.def_ 35 (d := Hd.mkD "road_rest" 54) rfl
  exact ⟨fd, F, fn_ok U.free F sc_road_rest tr_road_rest (kn_road_rest U) law_road_rest⟩
theorem ok_road_rest (U : Ux Hd.fa Hd.fn K h mg) : FnG P w K mg base (xaK K) 13 F_road_rest := by
  obtain ⟨fd, F, ok⟩ := okF_road_rest (P := P) (w := w) (base := base) U
  exact ⟨_, fd, U.glo 35 (x := "road_rest") rfl, F.kp, ok, F.bindsN fun _ _ _ _ _ _ us hl => match us, hl with | [_, _, _, _, _, _], _ => rfl⟩
theorem kw_road_rest_0_equation_solution_one_other_often_modulus (U : Ux Hd.fa Hd.fn K h mg) : KwG P w K mg base (xaK K) 13 F_road_rest 0 ["equation", "solution", "one", "other", "often", "modulus"] [0, 1, 2, 3, 4, 5] := by
  obtain ⟨fd, F, ok⟩ := okF_road_rest (P := P) (w := w) (base := base) U
  exact ⟨_, fd, U.glo 35 (x := "road_rest") rfl, F.kp, ok, kb_of F fun _ _ _ _ _ _ us ws h1 h2 => match us, ws, h1, h2 with | [], [_, _, _, _, _, _], _, _ => rfl⟩
theorem sc_road_round : FnScope N_road_round ["equation", "solution", "one", "other", "modulus"] (defScope (top 55)) := ⟨rfl, rfl, rfl, by decide +kernel, rfl, by decide +kernel, by decide +kernel⟩
theorem tr_road_round : trSs N_road_round (defScope (top 55)) (B_road_round) (defBody (top 55)) = true := by kernel_rfl
theorem kn_road_round (U : Ux Hd.fa Hd.fn K h mg) : KnG P w K mg base (xaK K) 12 B_road_round := by
  have f_sure_road := (ok_sure_road (P := P) (w := w) (base := base) U).mono (k := 12) (by decide)
  have f_sure_within := (ok_sure_within (P := P) (w := w) (base := base) U).mono (k := 12) (by decide)
  have f_table_of := (ok_table_of (P := P) (w := w) (base := base) U).mono (k := 12) (by decide)
  have g_MOST_MODULUS_roads := U.int 67 (x := "MOST_MODULUS_roads") (n := 1000) rfl
  simp only [KnG, B_road_round, KnSs, KnS, KnE, KnEs, KnO, and_true, true_and, List.length_nil, List.length_cons, Nat.reduceAdd, f_sure_road, f_sure_within, f_table_of, g_MOST_MODULUS_roads]
theorem okF_road_round (U : Ux Hd.fa Hd.fn K h mg) : ∃ fd, FunD K "road_round" "road_round" (defArgs (top 55)) (defBody (top 55)) (defScope (top 55)) [] [] (He.ga K "road_round") fd ∧ FnOk P w K mg base (L2.CX P w) 13 (He.ga K "road_round") fd ["equation", "solution", "one", "other", "modulus"] (spD K (xaK K) 5 con_road_round) := by
  obtain ⟨fd, F⟩ := U.c.def_ 36 (d := Hd.mkD "road_round" 55) rfl
  exact ⟨fd, F, fn_ok U.free F sc_road_round tr_road_round (kn_road_round U) law_road_round⟩
theorem ok_road_round (U : Ux Hd.fa Hd.fn K h mg) : FnG P w K mg base (xaK K) 13 F_road_round := by
  obtain ⟨fd, F, ok⟩ := okF_road_round (P := P) (w := w) (base := base) U
  exact ⟨_, fd, U.glo 36 (x := "road_round") rfl, F.kp, ok, F.bindsN fun _ _ _ _ _ _ us hl => match us, hl with | [_, _, _, _, _], _ => rfl⟩
theorem kw_road_round_0_equation_solution_one_other_modulus (U : Ux Hd.fa Hd.fn K h mg) : KwG P w K mg base (xaK K) 13 F_road_round 0 ["equation", "solution", "one", "other", "modulus"] [0, 1, 2, 3, 4] := by
  obtain ⟨fd, F, ok⟩ := okF_road_round (P := P) (w := w) (base := base) U
  exact ⟨_, fd, U.glo 36 (x := "road_round") rfl, F.kp, ok, kb_of F fun _ _ _ _ _ _ us ws h1 h2 => match us, ws, h1, h2 with | [], [_, _, _, _, _], _, _ => rfl⟩
theorem sc_law : FnScope N_law ["script"] (defScope (top 75)) := ⟨rfl, rfl, rfl, by decide +kernel, rfl, by decide +kernel, by decide +kernel⟩
theorem tr_law : trSs N_law (defScope (top 75)) (B_law) (defBody (top 75)) = true := by kernel_rfl
theorem kn_law (U : Ux Hd.fa Hd.fn K h mg) : KnG P w K mg base (xaK K) 13 B_law := by
  have f__law_box := (ok__law_box (P := P) (w := w) (base := base) U).mono (k := 13) (by decide)
  have f__law_cells := (ok__law_cells (P := P) (w := w) (base := base) U).mono (k := 13) (by decide)
  have f__law_drawn := (ok__law_drawn (P := P) (w := w) (base := base) U).mono (k := 13) (by decide)
  have f__law_pick := (ok__law_pick (P := P) (w := w) (base := base) U).mono (k := 13) (by decide)
  have f__law_prod := (ok__law_prod (P := P) (w := w) (base := base) U).mono (k := 13) (by decide)
  have f__law_same := (ok__law_same (P := P) (w := w) (base := base) U).mono (k := 13) (by decide)
  have f__law_take := (ok__law_take (P := P) (w := w) (base := base) U).mono (k := 13) (by decide)
  have f__law_up := (ok__law_up (P := P) (w := w) (base := base) U).mono (k := 13) (by decide)
  have f__law_walk := (ok__law_walk (P := P) (w := w) (base := base) U).mono (k := 13) (by decide)
  have f_rest_flip := (ok_rest_flip (P := P) (w := w) (base := base) U).mono (k := 13) (by decide)
  have f_rest_row := (ok_rest_row (P := P) (w := w) (base := base) U).mono (k := 13) (by decide)
  have f_rest_walked := (ok_rest_walked (P := P) (w := w) (base := base) U).mono (k := 13) (by decide)
  have k_cut_word := (kw_cut_0_word (P := P) (w := w) (base := base) U).mono (k := 13) (by decide)
  have k_rest_flip_equation_modulus_row_place := (kw_rest_flip_0_equation_modulus_row_place (P := P) (w := w) (base := base) U).mono (k := 13) (by decide)
  have k_rest_row_equation_solution_modulus := (kw_rest_row_0_equation_solution_modulus (P := P) (w := w) (base := base) U).mono (k := 13) (by decide)
  have k_rest_walked_equation_modulus_row_word := (kw_rest_walked_0_equation_modulus_row_word (P := P) (w := w) (base := base) U).mono (k := 13) (by decide)
  have k_road_rest_equation_solution_one_other_often_modulus := (kw_road_rest_0_equation_solution_one_other_often_modulus (P := P) (w := w) (base := base) U).mono (k := 13) (by decide)
  have k_road_round_equation_solution_one_other_modulus := (kw_road_round_0_equation_solution_one_other_modulus (P := P) (w := w) (base := base) U).mono (k := 13) (by decide)
  have k_walked_equation_solution_word := (kw_walked_0_equation_solution_word (P := P) (w := w) (base := base) U).mono (k := 13) (by decide)
  have k_word_back_word := (kw_word_back_0_word (P := P) (w := w) (base := base) U).mono (k := 13) (by decide)
  have k_word_round_equation_solution_word_modulus := (kw_word_round_0_equation_solution_word_modulus (P := P) (w := w) (base := base) U).mono (k := 13) (by decide)
  simp only [KnG, B_law, SL1_0, SL1_1, SL1_2, SL1_3, SL1_4, SL1_5, SL1_6, SL1_7, SL1_8, SL1_9, SL1_10, SL1_11, SL1_12, SL1_13, SL1_14, SL1_15, SL1_16, SL1_17, SL1_18, SL1_19, SL1_20, SL1_21, SL1_22, SL1_23, SL1_24, SL1_25, SL1_26, BL1, KnSs, KnS, KnE, KnEs, KnO, and_true, true_and, List.length_nil, List.length_cons, Nat.reduceAdd, f__law_box, f__law_cells, f__law_drawn, f__law_pick, f__law_prod, f__law_same, f__law_take, f__law_up, f__law_walk, f_rest_flip, f_rest_row, f_rest_walked, k_cut_word, k_rest_flip_equation_modulus_row_place, k_rest_row_equation_solution_modulus, k_rest_walked_equation_modulus_row_word, k_road_rest_equation_solution_one_other_often_modulus, k_road_round_equation_solution_one_other_modulus, k_walked_equation_solution_word, k_word_back_word, k_word_round_equation_solution_word_modulus]
theorem okL_law (U : Ux Hd.fa Hd.fn K h mg) : ∃ fd, FunD K "law" "law" (defArgs (top 75)) (defBody (top 75)) (defScope (top 75)) [] [] (He.ga K "law") fd ∧ ∀ base, FnOk P w K mg base (L2.CX P w) 14 (He.ga K "law") fd ["script"] (spD K (xaK K) 1 con_law) := by
  obtain ⟨fd, F⟩ := U.c.def_ 54 (d := Hd.mkD "law" 75) rfl
  exact ⟨fd, F, fun base => fn_ok U.free F sc_law tr_law (kn_law (base := base) U) law_law⟩
theorem facts {P : Program} {w : World} {K : PySem.W.Frag} {h : Heap} {mg : Str → Option Value} {f : Addr} (X : K.In h) (G : h.Ns mainGlobals mg) (hf : mg ("law" : Str) = some (.ref f)) (c : He.SaysD Hd.fa Hd.fn K) :
    ∃ fd : FuncData, (∀ (s : Shared) (v : Value), BindsTo s fd ⟨[v], []⟩ [("script", v)]) ∧ ∀ base : Heap, FnOk P w K mg base (L2.CX P w) 14 f fd ["script"] (spD K (xaK K) 1 con_law) := by
  have U : Ux Hd.fa Hd.fn K h mg := ⟨X, G, c, frees X G c⟩
  obtain ⟨fd, F, ok⟩ := okL_law (P := P) (w := w) U
  have e := hf.symm.trans (U.glo 54 (x := "law") rfl)
  cases e
  have b := FunD.bindsA (ps := ["script"]) F fun _ _ _ _ _ _ us hl => match us, hl with | [_], _ => rfl
  exact ⟨fd, fun s v => b s [v] rfl, ok⟩
end Pf
open PySem PySem.W PySem.Calls PyProof.Rows
set_option maxHeartbeats 0
theorem PySem.Challenge.cw_flippedthrees_k62_across_rests_words_and_holds : PySem.Challenge.rw_flippedthrees_k62_across_rests_words_and.Holds := by
  w_on; o_law
  refine HandSHeadRun.head_any (q := view (OpenLaw.row PySem.Challenge.rw_flippedthrees_k62_across_rests_words_and).prog [75]) (H := Hd.hk) (ob := Hd.ob) (M := Hd.mx) (loose := Hd.loose) (d := HandSHeadRun.topDef (OpenLaw.row PySem.Challenge.rw_flippedthrees_k62_across_rests_words_and).prog 75) (kwd := []) Hd.ob_eq
    (by kernel_rfl) (fun s => by kernel_rfl) Hd.run ?_ ?_ ?_ ?_ ?_ ?_ ?_ ?hw ?hc
  case hw => w_witness2
  case hc =>
    refine Ev.ends_with (law := PySem.Challenge.rw_flippedthrees_k62_across_rests_words_and) (most := 63) (k := 14) (px := "script") rfl (by decide) (by kernel_rfl) ⟨rfl, by decide, by decide⟩ ?_
    intro w mg fa h Y G g
    obtain ⟨K, KX, c⟩ := Y
    have e : (HandSHeadRun.topDef (OpenLaw.row PySem.Challenge.rw_flippedthrees_k62_across_rests_words_and).prog 75).name = ("law" : PySem.Str) := by kernel_rfl
    rw [e] at g
    obtain ⟨fd, hb, ok⟩ := Pf.facts (P := (PySem.Challenge.rw_flippedthrees_k62_across_rests_words_and).prog) (w := w) KX G g c
    exact ⟨K, fd, _, KX, hb, fun H a ns hl hO hS => Ev.spD_law hO hS ⟨0, ns, rfl, rfl, hl, rfl⟩, fun base _ _ => ok base⟩
  · kernel_rfl
  · kernel_rfl
  · kernel_rfl
  · rfl
  · first | assumption | decide +kernel
  · decide +kernel
  · exact ⟨rfl, rfl, rfl, rfl, rfl, by decide +kernel⟩

